import PyProof.Rows.All
import Wide.All
import OpenK.AllK
import Wide.FinOn
import KE.KStateDown
import Lean
import HandS.ForMost
import HandS.Defaults
import HandS.Head0
import HandS.Head1
import HandS.Head2
import HandS.HeadHook1
import HandS.HeadHook2
import HandS.HeadHook3
import HandS.HeadHook4
import HandS.HeadWalk
import PySem.Challenge.RW_rateplan_k76_whole_played_in_order
import HandS.Walk
import KE.KUnpackStar
import KE.GoesEnum
import HandS.Set
import HandS.Strs
import HandS.SetFor
import HandS.SortInts
import PyProof.Rows.SortShellAny
import PyProof.InstEq
import PyProof.NeKinds
import PyProof.IsiH_list
import HandS.SortKw
import HandS.Conv
import HandS.MakeKwOnly
import HandS.IsInst
import HandS.NoneIn
import KE.DataMinMax
import ObjForm.LawKit
import HandS.Nested
import HandS.NestedK
import HandS.CallLocal
import HandS.EndTab
import PyProof.ReprLen
import HandS.OwnEq
import HandS.Wide
import KE.KAssignIn
import HandS.Sort
import PyProof.ListRange
import HandS.TupAny
import HandS.Flow
import OpenK.KEqL
import HandS.Codes
set_option Elab.async false
set_option linter.all false
set_option maxRecDepth 100000
set_option maxHeartbeats 4000000
/-! The text by places, the facts asked of the head. -/
namespace K76
open PySem PySem.Spec PyProof.Rows L2
def top (i : Nat) : Stmt := PySem.Challenge.pw_rateplan_k76_whole_played_in_order.main.body.getD i (.Pass ⟨0, 0, 0, 0⟩)
abbrev FnP (K : PySem.W.Frag) (x q : Str) (st : Stmt) (kws : List (Str × V)) (f : Addr) (fd : FuncData) : Prop := FunD K x q (defArgs st) (defBody st) (defScope st) [] kws f fd
abbrev s_is_rate : Stmt := top 6
abbrev s_rate_by : Stmt := top 7
abbrev s_seen_at : Stmt := top 8
abbrev s_Speed_init : Stmt := inClass (top 14) 0
abbrev s_look_room : Stmt := top 21
abbrev s_first_stand : Stmt := top 22
abbrev s_is_over : Stmt := top 23
abbrev s_has_room : Stmt := top 24
abbrev s_chosen : Stmt := top 25
abbrev s_begins : Stmt := top 26
abbrev s_played_on : Stmt := top 27
abbrev s_beat_on : Stmt := top 28
abbrev s_Walk_init : Stmt := inClass (top 30) 0
abbrev s_Walk_is_at_end : Stmt := inClass (top 30) 1
abbrev s_Walk_asks_here : Stmt := inClass (top 30) 2
abbrev s_Walk_choose_here : Stmt := inClass (top 30) 3
abbrev s_Walk_step_on : Stmt := inClass (top 30) 4
abbrev s_Run_init : Stmt := inClass (top 32) 0
abbrev s_Run_all_told : Stmt := inClass (top 32) 1
abbrev s_Run_eq : Stmt := inClass (top 32) 2
abbrev s_Run_len : Stmt := inClass (top 32) 3
abbrev s_run_of : Stmt := top 33
abbrev s_Road_init : Stmt := inClass (top 37) 0
abbrev s_Road_speed_at : Stmt := inClass (top 37) 5
abbrev s_Road_sum_of : Stmt := inClass (top 37) 6
abbrev s_Road_fetched : Stmt := inClass (top 37) 7
abbrev s_is_whole : Stmt := top 39
abbrev s_by_store : Stmt := top 40
abbrev s_by_speed : Stmt := top 41
abbrev s_calm : Stmt := top 42
abbrev s_Talk_init : Stmt := inClass (top 44) 0
abbrev s_Talk_len : Stmt := inClass (top 44) 1
abbrev s_Talk_many_rates : Stmt := inClass (top 44) 5
abbrev s__law_well : Stmt := top 46
abbrev s__law_take : Stmt := top 47
abbrev s__law_talk : Stmt := top 48
abbrev s__law_road : Stmt := top 49
abbrev s__law_options : Stmt := top 50
abbrev s__law_rule : Stmt := top 51
abbrev s__law_rates_right : Stmt := top 52
abbrev s__law_fetched_right : Stmt := top 53
abbrev s__law_played_right : Stmt := top 54
abbrev s__law_stalls_right : Stmt := top 55
abbrev s__law_right : Stmt := top 56
abbrev s_law : Stmt := top 57
def d_is_rate : He.DefD := ⟨("is_rate", none), "is_rate", "is_rate", defArgs s_is_rate, defBody s_is_rate, defScope s_is_rate, [], []⟩
def d_rate_by : He.DefD := ⟨("rate_by", none), "rate_by", "rate_by", defArgs s_rate_by, defBody s_rate_by, defScope s_rate_by, [], []⟩
def d_seen_at : He.DefD := ⟨("seen_at", none), "seen_at", "seen_at", defArgs s_seen_at, defBody s_seen_at, defScope s_seen_at, [], []⟩
def d_Speed_init : He.DefD := ⟨("Speed", some "__init__"), "__init__", "Speed.__init__", defArgs s_Speed_init, defBody s_Speed_init, defScope s_Speed_init, [], []⟩
def d_look_room : He.DefD := ⟨("look_room", none), "look_room", "look_room", defArgs s_look_room, defBody s_look_room, defScope s_look_room, [], []⟩
def d_first_stand : He.DefD := ⟨("first_stand", none), "first_stand", "first_stand", defArgs s_first_stand, defBody s_first_stand, defScope s_first_stand, [], []⟩
def d_is_over : He.DefD := ⟨("is_over", none), "is_over", "is_over", defArgs s_is_over, defBody s_is_over, defScope s_is_over, [], []⟩
def d_has_room : He.DefD := ⟨("has_room", none), "has_room", "has_room", defArgs s_has_room, defBody s_has_room, defScope s_has_room, [], []⟩
def d_chosen : He.DefD := ⟨("chosen", none), "chosen", "chosen", defArgs s_chosen, defBody s_chosen, defScope s_chosen, [], [("wait", .int 0)]⟩
def d_begins : He.DefD := ⟨("begins", none), "begins", "begins", defArgs s_begins, defBody s_begins, defScope s_begins, [], []⟩
def d_played_on : He.DefD := ⟨("played_on", none), "played_on", "played_on", defArgs s_played_on, defBody s_played_on, defScope s_played_on, [], []⟩
def d_beat_on : He.DefD := ⟨("beat_on", none), "beat_on", "beat_on", defArgs s_beat_on, defBody s_beat_on, defScope s_beat_on, [], []⟩
def d_Walk_init : He.DefD := ⟨("Walk", some "__init__"), "__init__", "Walk.__init__", defArgs s_Walk_init, defBody s_Walk_init, defScope s_Walk_init, [], [("begin", .int 4), ("again", .int 8), ("most", .int 30), ("wait", .int 0), ("opens", .non)]⟩
def d_Walk_is_at_end : He.DefD := ⟨("Walk", some "is_at_end"), "is_at_end", "Walk.is_at_end", defArgs s_Walk_is_at_end, defBody s_Walk_is_at_end, defScope s_Walk_is_at_end, [], []⟩
def d_Walk_asks_here : He.DefD := ⟨("Walk", some "asks_here"), "asks_here", "Walk.asks_here", defArgs s_Walk_asks_here, defBody s_Walk_asks_here, defScope s_Walk_asks_here, [], []⟩
def d_Walk_choose_here : He.DefD := ⟨("Walk", some "choose_here"), "choose_here", "Walk.choose_here", defArgs s_Walk_choose_here, defBody s_Walk_choose_here, defScope s_Walk_choose_here, [], []⟩
def d_Walk_step_on : He.DefD := ⟨("Walk", some "step_on"), "step_on", "Walk.step_on", defArgs s_Walk_step_on, defBody s_Walk_step_on, defScope s_Walk_step_on, [], []⟩
def d_Run_init : He.DefD := ⟨("Run", some "__init__"), "__init__", "Run.__init__", defArgs s_Run_init, defBody s_Run_init, defScope s_Run_init, [], []⟩
def d_Run_all_told : He.DefD := ⟨("Run", some "all_told"), "all_told", "Run.all_told", defArgs s_Run_all_told, defBody s_Run_all_told, defScope s_Run_all_told, [], []⟩
def d_Run_eq : He.DefD := ⟨("Run", some "__eq__"), "__eq__", "Run.__eq__", defArgs s_Run_eq, defBody s_Run_eq, defScope s_Run_eq, [], []⟩
def d_Run_len : He.DefD := ⟨("Run", some "__len__"), "__len__", "Run.__len__", defArgs s_Run_len, defBody s_Run_len, defScope s_Run_len, [], []⟩
def d_run_of : He.DefD := ⟨("run_of", none), "run_of", "run_of", defArgs s_run_of, defBody s_run_of, defScope s_run_of, [], [("begin", .int 4), ("again", .int 8), ("most", .int 30), ("wait", .int 0), ("opens", .non)]⟩
def d_Road_init : He.DefD := ⟨("Road", some "__init__"), "__init__", "Road.__init__", defArgs s_Road_init, defBody s_Road_init, defScope s_Road_init, [], []⟩
def d_Road_speed_at : He.DefD := ⟨("Road", some "speed_at"), "speed_at", "Road.speed_at", defArgs s_Road_speed_at, defBody s_Road_speed_at, defScope s_Road_speed_at, [], []⟩
def d_Road_sum_of : He.DefD := ⟨("Road", some "sum_of"), "sum_of", "Road.sum_of", defArgs s_Road_sum_of, defBody s_Road_sum_of, defScope s_Road_sum_of, [], []⟩
def d_Road_fetched : He.DefD := ⟨("Road", some "fetched"), "fetched", "Road.fetched", defArgs s_Road_fetched, defBody s_Road_fetched, defScope s_Road_fetched, [], [("wait", .int 0)]⟩
def d_is_whole : He.DefD := ⟨("is_whole", none), "is_whole", "is_whole", defArgs s_is_whole, defBody s_is_whole, defScope s_is_whole, [], []⟩
def d_by_store : He.DefD := ⟨("by_store", none), "by_store", "by_store", defArgs s_by_store, defBody s_by_store, defScope s_by_store, [], []⟩
def d_by_speed : He.DefD := ⟨("by_speed", none), "by_speed", "by_speed", defArgs s_by_speed, defBody s_by_speed, defScope s_by_speed, [], [("part", .glo "PART")]⟩
def d_calm : He.DefD := ⟨("calm", none), "calm", "calm", defArgs s_calm, defBody s_calm, defScope s_calm, [], []⟩
def d_Talk_init : He.DefD := ⟨("Talk", some "__init__"), "__init__", "Talk.__init__", defArgs s_Talk_init, defBody s_Talk_init, defScope s_Talk_init, [], []⟩
def d_Talk_len : He.DefD := ⟨("Talk", some "__len__"), "__len__", "Talk.__len__", defArgs s_Talk_len, defBody s_Talk_len, defScope s_Talk_len, [], []⟩
def d_Talk_many_rates : He.DefD := ⟨("Talk", some "many_rates"), "many_rates", "Talk.many_rates", defArgs s_Talk_many_rates, defBody s_Talk_many_rates, defScope s_Talk_many_rates, [], []⟩
def d__law_well : He.DefD := ⟨("_law_well", none), "_law_well", "_law_well", defArgs s__law_well, defBody s__law_well, defScope s__law_well, [], []⟩
def d__law_take : He.DefD := ⟨("_law_take", none), "_law_take", "_law_take", defArgs s__law_take, defBody s__law_take, defScope s__law_take, [], []⟩
def d__law_talk : He.DefD := ⟨("_law_talk", none), "_law_talk", "_law_talk", defArgs s__law_talk, defBody s__law_talk, defScope s__law_talk, [], []⟩
def d__law_road : He.DefD := ⟨("_law_road", none), "_law_road", "_law_road", defArgs s__law_road, defBody s__law_road, defScope s__law_road, [], []⟩
def d__law_options : He.DefD := ⟨("_law_options", none), "_law_options", "_law_options", defArgs s__law_options, defBody s__law_options, defScope s__law_options, [], []⟩
def d__law_rule : He.DefD := ⟨("_law_rule", none), "_law_rule", "_law_rule", defArgs s__law_rule, defBody s__law_rule, defScope s__law_rule, [], []⟩
def d__law_rates_right : He.DefD := ⟨("_law_rates_right", none), "_law_rates_right", "_law_rates_right", defArgs s__law_rates_right, defBody s__law_rates_right, defScope s__law_rates_right, [], []⟩
def d__law_fetched_right : He.DefD := ⟨("_law_fetched_right", none), "_law_fetched_right", "_law_fetched_right", defArgs s__law_fetched_right, defBody s__law_fetched_right, defScope s__law_fetched_right, [], []⟩
def d__law_played_right : He.DefD := ⟨("_law_played_right", none), "_law_played_right", "_law_played_right", defArgs s__law_played_right, defBody s__law_played_right, defScope s__law_played_right, [], []⟩
def d__law_stalls_right : He.DefD := ⟨("_law_stalls_right", none), "_law_stalls_right", "_law_stalls_right", defArgs s__law_stalls_right, defBody s__law_stalls_right, defScope s__law_stalls_right, [], []⟩
def d__law_right : He.DefD := ⟨("_law_right", none), "_law_right", "_law_right", defArgs s__law_right, defBody s__law_right, defScope s__law_right, [], []⟩
def d_law : He.DefD := ⟨("law", none), "law", "law", defArgs s_law, defBody s_law, defScope s_law, [], []⟩
def fnL : List He.DefD := [d_is_rate, d_rate_by, d_seen_at, d_Speed_init, d_look_room, d_first_stand, d_is_over, d_has_room, d_chosen, d_begins, d_played_on, d_beat_on, d_Walk_init, d_Walk_is_at_end, d_Walk_asks_here, d_Walk_choose_here, d_Walk_step_on, d_Run_init, d_Run_all_told, d_Run_eq, d_Run_len, d_run_of, d_Road_init, d_Road_speed_at, d_Road_sum_of, d_Road_fetched, d_is_whole, d_by_store, d_by_speed, d_calm, d_Talk_init, d_Talk_len, d_Talk_many_rates, d__law_well, d__law_take, d__law_talk, d__law_road, d__law_options, d__law_rule, d__law_rates_right, d__law_fetched_right, d__law_played_right, d__law_stalls_right, d__law_right, d_law]
def fa0 : List He.Fa := [.glo "is_rate", .glo "rate_by", .glo "seen_at", .glo "look_room", .glo "first_stand", .glo "is_over", .glo "has_room", .glo "chosen", .glo "begins", .glo "played_on", .glo "beat_on", .glo "run_of", .glo "is_whole", .glo "by_store", .glo "by_speed", .glo "calm", .glo "_law_well", .glo "_law_take", .glo "_law_talk", .glo "_law_road", .glo "_law_options", .glo "_law_rule", .glo "_law_rates_right", .glo "_law_fetched_right", .glo "_law_played_right", .glo "_law_stalls_right", .glo "_law_right", .glo "law", .glo "Speed", .glo "Walk"]
def fa1 : List He.Fa := [.glo "Run", .glo "Road", .glo "Talk", .free "isinstance", .free "int", .free "bool", .free "tuple", .free "len", .free "enumerate", .free "range", .free "list", .free "max", .free "min", .free "sum", .free "set", .free "sorted", .free "dict", .free "repr", .int "NONE" (-1), .int "AHEAD" (0), .int "PLAYS" (1), .int "STALLS" (2), .glo "FIRST", .glo "PART", .cls "Speed", .mkr "Speed", .noat "Speed" "bits", .noat "Speed" "beats", .cls "Walk", .mkr "Walk"]
def fa2 : List He.Fa := [.noat "Walk" "talk_walked", .noat "Walk" "chooser_asked", .noat "Walk" "limits", .noat "Walk" "waiting", .noat "Walk" "opening", .noat "Walk" "stand_here", .noat "Walk" "beat_here", .noat "Walk" "rate_last", .noat "Walk" "speed_last", .noat "Walk" "rates", .noat "Walk" "begun", .noat "Walk" "whole", .noat "Walk" "plays", .noat "Walk" "stalls", .noat "Walk" "kept", .meth "Walk" "is_at_end", .meth "Walk" "asks_here", .meth "Walk" "choose_here", .meth "Walk" "step_on", .cls "Run", .mkr "Run", .noat "Run" "rates", .noat "Run" "begun", .noat "Run" "whole", .noat "Run" "plays", .noat "Run" "stalls", .noat "Run" "ended", .noat "Run" "kept", .meth "Run" "all_told", .meth "Run" "__eq__"]
def fa3 : List He.Fa := [.meth "Run" "__len__", .cls "Road", .mkr "Road", .noat "Road" "pieces", .meth "Road" "speed_at", .meth "Road" "sum_of", .meth "Road" "fetched", .cls "Talk", .mkr "Talk", .noat "Talk" "lengths", .noat "Talk" "sizes", .meth "Talk" "__len__", .meth "Talk" "many_rates"]
def faL : List He.Fa := fa0 ++ fa1 ++ fa2 ++ fa3
def tfL : List He.Defn := [("by_store", none), ("by_speed", none), ("calm", none), ("_law_rule", none)]
/-- what more is asked: the two tables, the class of Run as isinstance asks for it -/
def exB (K : PySem.W.Frag) : Bool := He.tupB K "FIRST" [.int 0, .int (-1), .int 0, .int 0, .int 0, .int 0] && (He.tupB K "PART" [.int 4, .int 5] && (He.eqO (PySem.W.findIn K (.ref (He.ga K "Run")) "__class__") (some (some (.builtin "object.__class__"))) &&
  (He.eqO (PySem.W.specialIn K (.builtin "object.__class__") "__get__") (some (some (.builtin "getset_descriptor.__get__"))) && (decide (PySem.W.takesIn K (.builtin "object.__class__") = some true) && (decide (PySem.W.mroIn K (He.ga K "Run") (.type "object") = some true) &&
  (decide (PySem.W.kitOne K (.ref (He.ga K "Run")) (.ref (He.ga K "Run")) = some true) && decide ((tfL.map fun p => (He.cT K p).2).Nodup)))))))
def nm0 : List PySem.Str := ["_wall", "BEGIN", "AGAIN", "MOST", "PART", "is_rate", "rate_by", "seen_at", "RateError", "NoRoom", "divisor_of", "Speed", "FIRST", "NONE", "AHEAD", "PLAYS", "STALLS", "look_room", "first_stand", "is_over", "has_room", "chosen", "begins", "played_on", "beat_on", "Walk", "Run", "run_of", "turns_of", "pieces_by"]
def nm1 : List PySem.Str := ["Road", "is_whole", "by_store", "by_speed", "calm", "Talk", "_law_well", "_law_take", "_law_talk", "_law_road", "_law_options", "_law_rule", "_law_rates_right", "_law_fetched_right", "_law_played_right", "_law_stalls_right", "_law_right"]
def nmL : List PySem.Str := nm0 ++ nm1
end K76


set_option Elab.async false
set_option linter.all false
set_option maxRecDepth 100000
set_option maxHeartbeats 0
namespace K76
open PySem PySem.Spec PyProof.Rows L2
abbrev Rw : PySem.W.OpenRow := PySem.W.OpenLaw.row PySem.Challenge.rw_rateplan_k76_whole_played_in_order
abbrev hk : PySem.W.Hook := He.hookX 5 faL fnL [] tfL exB
def ob (s : PySem.W.SharedT) : He.AlX := He.obsX 5 faL fnL [] tfL exB (HandSHeadRun.getT s)
theorem ob_eq (s : PySem.W.SharedT) : ob s = hk.obs s.abs := He.obsX_eq (HandSHeadRun.getT_eq s)
theorem run (w : World) : HandSHeadRun.RunEq Rw (PySem.W.view Rw.prog [57]) hk ob 12000 nmL w := by
  intro os
  kernel_rfl
end K76


set_option Elab.async false
set_option linter.all false
set_option maxRecDepth 100000
set_option maxHeartbeats 4000000
/-! Rules of our own: sum, max of a tuple; (a, b, *rest) = a tuple; enumerate of a tuple. -/
namespace K76
open PySem PySem.Spec PyProof.Rows L2
section
variable {prog : Program} {w : World} {A : Around} {E : Value → Shared → Prop} {s : Shared}
theorem tup_turn {a : Addr} {items : Array Value} {Q : Value → Shared → Prop} (hh : A.handled = none) (hT : s.heap.IsTuple a items)
    (h : ∀ (I : Addr) (W : Walks prog w A.in1 I [I, a] [I] items.size (fun i v => items[i]? = some v) (fun i h => h.IsTupleIter I a i ∧ h.IsTuple a items)) (s2 : Shared), s2 = { s with heap := s.heap.push { cls := .type "tuple_iterator", data := .fields #[.ref a, .int 0 0] } } →
      I = s.heap.objs.size → (s2.heap.IsTupleIter I a 0 ∧ s2.heap.IsTuple a items) → (∀ b ∈ [I, a], b < s2.heap.objs.size) → (∀ (h' : Heap), (∀ b o, b ∉ [I] → s2.heap.get? b = some o → h'.get? b = some o) → ∀ b o, s.heap.get? b = some o → h'.get? b = some o) → Q (.ref I) s2) :
    wpAny (model prog w) A.in1 (pyIter (.ref a)) Q E s := by
  have hlt : a < s.heap.objs.size := by obtain ⟨_, e, _⟩ := hT; exact Heap.lt_size e
  refine wpAny_pyIter_tuple hT ?_
  refine h s.heap.objs.size (Walks.tuple (A := A.in1) hh _ a (Nat.ne_of_lt hlt) items) _ rfl rfl ⟨⟨_, Heap.get?_push_size _ rfl, rfl, rfl⟩, hT.push _⟩ (fun b hb => ?_) (fun h' hk b o e => ?_)
  · show b < (s.heap.push _).objs.size
    rw [Heap.size_push]
    have e : b = s.heap.objs.size ∨ b = a := by simpa using hb
    rcases e with rfl | rfl
    · exact Nat.lt_succ_self _
    · exact Nat.lt_succ_of_lt hlt
  · refine hk b o (fun hm => ?_) (Heap.get?_push_of_some _ e)
    have e1 : b = s.heap.objs.size := by simpa using hm
    exact absurd (e1 ▸ Heap.lt_size e) (Nat.lt_irrefl _)
theorem sum_tup {a : Addr} {its : List Value} {ns : List Int} {Q : Value → Shared → Prop} (hh : A.handled = none) (hT : s.heap.IsTuple a its.toArray) (hi : IntsAre its ns)
    (h : ∀ h' tk t', (∀ b o, s.heap.get? b = some o → h'.get? b = some o) → Q (.int ns.sum t') { s with heap := h', toks := tk }) : wpAny (model prog w) A (call (.builtin "sum") [.ref a]) Q E s := by
  obtain ⟨xs, e⟩ := hi.allInts.items
  have hn : numsOf (intItems xs).toList = ns := by rw [← e]; exact hi.numsOf
  rw [nums_intItems] at hn
  rw [e] at hT
  refine call_sum_walkG (tup_turn hh hT fun I W s2 e2 eI st hlt hk => ?_)
  subst e2
  refine ⟨I, _, _, _, _, _, numAt xs, rfl, W, st, hlt, (fun _ _ => intItems_at), fun h' tk t' k => ?_⟩
  have := h h' tk t' (hk h' k)
  have e3 : (intItems xs).size = xs.size := by simp [intItems]
  rw [e3, preSum_eq, List.take_of_length_le (by simp), hn]
  exact this
theorem max_tup {a : Addr} {its : List Value} {ns : List Int} {Q : Value → Shared → Prop} (hh : A.handled = none) (hT : s.heap.IsTuple a its.toArray) (hi : IntsAre its ns) (hne : 0 < ns.length)
    (h : ∀ h' tk M t', (∀ b o, s.heap.get? b = some o → h'.get? b = some o) → M ∈ ns → (∀ y, y ∈ ns → y ≤ M) → Q (.int M t') { s with heap := h', toks := tk }) : wpAny (model prog w) A (call (.builtin "max") [.ref a]) Q E s := by
  obtain ⟨xs, e⟩ := hi.allInts.items
  have hn : numsOf (intItems xs).toList = ns := by rw [← e]; exact hi.numsOf
  rw [nums_intItems] at hn
  subst hn
  rw [e] at hT
  have hsz : 0 < xs.size := by simpa using hne
  have e3 : (intItems xs).size = xs.size := by simp [intItems]
  refine call_max_walk (tup_turn hh hT fun I W s2 e2 eI st hlt hk => ?_)
  subst e2
  refine ⟨I, _, _, _, _, _, _, rfl, W, st, hlt, by rw [e3]; exact hsz, CmpOf.ints_gt (numAt xs) (fun _ _ => intItems_at), fun v h' tk hP k => ?_⟩
  rw [e3] at hP
  obtain ⟨t, rfl⟩ := intItems_at hP
  obtain ⟨h1, h2⟩ := argBest_gt (numAt xs) (xs.size - 1)
  refine h h' tk _ t (hk h' k) ?_ fun y hy => ?_
  · rw [numAt_eq]; exact PySem.getD_mem (by rw [List.length_map, Array.length_toList]; omega)
  · obtain ⟨j, hj, rfl⟩ := mem_getD hy
    rw [List.length_map, Array.length_toList] at hj
    rw [← numAt_eq]; exact h2 j (by omega)
end
/-- sum, max of a tuple of ints -/
def rSumT (K : PySem.W.Frag) : List V → Hp → VK → Prop := fun vs H Q => ∃ (a : Addr) (ns : List Int), vs = [V.ref a] ∧ SqT K H a (ns.map V.int) ∧ Q (.int ns.sum) H
def rMaxT (K : PySem.W.Frag) : List V → Hp → VK → Prop := fun vs H Q => ∃ (a : Addr) (ns : List Int), vs = [V.ref a] ∧ SqT K H a (ns.map V.int) ∧ 0 < ns.length ∧ ∀ m, m ∈ ns → (∀ y, y ∈ ns → y ≤ m) → Q (.int m) H
section
variable {X : Cx}
theorem cr_sumT (hc : X.calm = true) : CallR X (.builtin "sum") (rSumT X.K) := by
  intro pins s σ H vs us Q I r h
  obtain ⟨a, ns, rfl, hs, q⟩ := h
  obtain ⟨its, rv, hl, _⟩ := I.tuple hs
  rw [Vals.ref1 r]
  exact sum_tup (I.ok.hd hc) hl rv.ints fun h' tk t' hk => ⟨.int _, H, I.kept hk, ⟨_, rfl⟩, q⟩
theorem cr_maxT (hc : X.calm = true) : CallR X (.builtin "max") (rMaxT X.K) := by
  intro pins s σ H vs us Q I r h
  obtain ⟨a, ns, rfl, hs, hne, q⟩ := h
  obtain ⟨its, rv, hl, _⟩ := I.tuple hs
  rw [Vals.ref1 r]
  exact max_tup (I.ok.hd hc) hl rv.ints hne fun h' tk m t' hk h1 h2 => ⟨.int _, H, I.kept hk, ⟨_, rfl⟩, q m h1 h2⟩
end
/-! ### (a, b, *rest) = a tuple -/
section
variable {X : Cx} {pos : Pos}
/-- i plain targets, then a star, none behind it: the rest is a new list -/
def gStar (K : PySem.W.Frag) (i : Nat) (t : TGs) : TG := fun v σ H Q => ∃ a xs, v = .ref a ∧ SqT K H a xs ∧ i ≤ xs.length ∧ xs.length ≤ 16384 ∧ ∀ p, H p = none → t (xs.take i ++ [.ref p]) σ (upd H p (.lst (xs.drop i))) Q
theorem unpack_star {pins : List (Addr × Obj)} {σ : L2.St} {H : Hp} {s : Shared} {a : Addr} {xs : List V} {i : Nat} {Q : List Value → Shared → Prop} (I : Inv X pins σ H s) (hc : X.calm = true) (hq : SqT X.K H a xs) (hi : i ≤ xs.length) (hz : xs.length ≤ 16384)
    (h : ∀ (p : Addr) (us : List Value) (s' : Shared), H p = none → Inv X pins σ (upd H p (.lst (xs.drop i))) s' → Vals (xs.take i ++ [.ref p]) us → Q us s') : wpAny (model X.prog X.w) X.A (unpackItems (.ref a) (i + 1) (some i)) Q X.xe s := by
  obtain ⟨its, rv, ht, _⟩ := I.tuple hq
  have hl := rv.length
  have hh := I.ok.hd hc
  have hlt : a ≠ s.heap.objs.size := by obtain ⟨o, ho, _⟩ := ht; exact Nat.ne_of_lt (Heap.lt_size ho)
  have sz : sizeLine = 16777216 := sizeLine_eq
  unfold unpackItems
  refine wpAny_bind ?_
  unfold notIterableAtAll
  refine wpAny_bind (wpAny_specialOf ht.typeIs slot_tuple_iter.lookup (wpAny_pure ?_))
  rw [if_neg (by decide)]
  refine wpAny_bind (wpAny_holding (iter_tuple ht (wpAny_bind (wpAny_holding (draw_tuple hlt i 0 _ _ ⟨_, Heap.get?_push_size _ rfl, rfl, rfl⟩ (ht.push _) (by simp; omega) fun h1 it1 sb1 => ?_)))))
  have ht1 : IsTup h1 a its.toArray := (ht.push _).extBut sb1.extBut hlt
  rw [Nat.zero_add] at it1
  obtain ⟨oi, hoi, _⟩ := id it1
  obtain ⟨ot, hot, _⟩ := id ht1
  rw [List.drop_zero, if_neg (show ¬ ((its.toArray.toList.take i).length < i) by simp; omega)]
  refine wpAny_bind (wpAny_holding (PySem.W.kun_collect (s := { s with heap := h1 }) (T := "tuple_iterator") (.inr (.inr (.inr rfl))) (Walks.tuple (A := X.A.in1) hh s.heap.objs.size a hlt its.toArray) (fun j u st => st.1.typeIs) (k := i) (by simp; omega) ⟨it1, ht1⟩ (Heap.lt_size hoi) (Heap.lt_size hot) (fun h2 tk hk => ?_) (by simp; omega)))
  have kk : ∀ b o, s.heap.get? b = some o → h2.get? b = some o := fun b o e => hk b o (Nat.ne_of_lt (Heap.lt_size e)) (sb1.extBut b o (Nat.ne_of_lt (Heap.lt_size e)) (Heap.get?_push_of_some _ e))
  have J : Inv X pins σ H { s with heap := h2, toks := tk } := I.kept kk
  show wpAny _ _ (if (its.toArray.toList.drop i).length < i + 1 - 1 - i then _ else _) _ _ _
  rw [if_neg (by omega)]
  have e0 : i + 1 - 1 - i = 0 := by omega
  show wpAny _ _ (newList ((its.toArray.toList.drop i).take ((its.toArray.toList.drop i).length - (i + 1 - 1 - i))) >>= fun d => pure (its.toArray.toList.take i ++ [d] ++ (its.toArray.toList.drop i).drop ((its.toArray.toList.drop i).length - (i + 1 - 1 - i)))) _ _ _
  rw [e0, Nat.sub_zero, List.take_length, List.drop_length]
  simp only [List.append_nil]
  have nD : H h2.objs.size = none := J.hok.fresh (Nat.le_refl _)
  refine wpAny_bind (wpAny_newList (wpAny_pure (h h2.objs.size _ _ nD (J.laid (t' := tk) (a := h2.objs.size) (o := .lst (xs.drop i)) (fun b u e => Heap.get?_push_of_some _ e) (Nat.le_refl _) ?_) ?_)) ?_)
  · exact ⟨by rw [List.length_drop]; omega, its.drop i, 0, rv.drop i, Heap.get?_push_size _ rfl⟩
  · exact (rv.take i).append (.cons rfl .nil)
  · rw [List.length_drop]; omega
theorem pg_star {es : List Expr} {k i : Nat} {t : TGs} (hc : X.calm = true) (h : PGs X es t) (hn : (assignEach es X.env).length = i + 1 := by rfl) (hst : (assignEach es X.env).findIdx? (·.1) = some i := by rfl) : PG X (.Tuple es k pos) (gStar X.K i t) := by
  refine ⟨fun pins s σ H v u Q I r hw => ?_⟩
  obtain ⟨a, xs, e1, hq, hi, hz, hw⟩ := hw
  subst e1
  cases r
  rw [PyProof.Rows.assign_Tuple]
  refine wpAny_bind (wpAny_standAt ?_)
  unfold unpack
  rw [hn, hst]
  exact wpAny_bind (wpAny_holding (unpack_star I hc hq hi hz fun p us s' np J rv => h.run pins s' σ _ _ us Q J rv (hw p np)))
theorem pgs_star {e : Expr} {p : Pos} {t : TG} (h1 : PG X e t) (hs : (assignEach [.Starred e p] X.env).map (·.2) = [assign e X.env] := by rfl) : PGs X [.Starred e p] (gCons t gNil) := by
  refine ⟨fun pins s σ H vs us Q I r h => ?_⟩
  obtain ⟨v, vr, e1, h⟩ := h
  subst e1
  cases r with
  | cons r rr =>
    rw [hs]
    refine assignInOrder_cons (thn (h1.run pins s σ H _ _ _ I r h) fun _ s1 ⟨σ1, H1, I1, e2, q1⟩ => ?_)
    subst e2
    cases rr
    exact assignInOrder_nil ⟨σ1, H1, I1, q1⟩
end

/-! ### enumerate of a tuple -/
section
variable {prog : Program} {w : World} {A : Around} {E : Value → Shared → Prop} {s : Shared}
open AutoSeq1 (wpAny_loadPart')
theorem meets_enumT (l : Addr) (items : Array Value) (n : Nat) (dct : Option Addr) (sl : Array (Option Value)) :
    Meets (Builtin.«enumerate.__new__» ⟨[.type "enumerate", .ref l], []⟩) (fun _ R s => s.heap.get? l = some { cls := .type "tuple", dict := dct, data := .seq items n, slots := sl } ∧
      R (.ok (.ret (.ref (s.heap.push { cls := .type "tuple_iterator", data := .fields #[.ref l, .int 0 0] }).objs.size)))
        { s with heap := (s.heap.push { cls := .type "tuple_iterator", data := .fields #[.ref l, .int 0 0] }).push { cls := .type "enumerate", data := .fields #[.none, .bool false, .ref s.heap.objs.size, rawInt 0, .none, .none] } }) :=
  .of_wp fun prog w A R s h => by
    obtain ⟨hp, g, d, tk, os⟩ := s
    obtain ⟨hl, h⟩ := h
    have hsub := sub_enumerate
    have hL : Heap.IsTuple (Shared.heap ⟨hp, g, d, tk, os⟩) l items := ⟨_, hl, rfl, n, rfl⟩
    wp_walk using wpAny_loadPart' hl
    refine wpAny_stack_any fun st => wpAny_pure ?_
    split
    · rename_i c _ _ _ _ _
      cases (c == Value.type "enumerate")
      · wp_walk using wpAny_loadPart' hl, wpAny_pyIter_tuple hL
        exact ⟨_, rfl, h⟩
      · wp_walk using wpAny_loadPart' hl, wpAny_pyIter_tuple hL
        exact ⟨_, rfl, h⟩
    · wp_walk using wpAny_loadPart' hl, wpAny_pyIter_tuple hL
      exact ⟨_, rfl, h⟩
theorem call_enumT {l : Addr} {items : Array Value} {Q : Value → Shared → Prop} (hL : s.heap.IsTuple l items)
    (h : ∀ h', IsEnum h' (s.heap.objs.size + 1) s.heap.objs.size 0 .none → h'.IsTupleIter s.heap.objs.size l 0 → h'.objs.size = s.heap.objs.size + 2 →
      (∀ b o, s.heap.get? b = some o → h'.get? b = some o) → Q (.ref (s.heap.objs.size + 1)) { s with heap := h' }) :
    wpAny (model prog w) A (call (.type "enumerate") [.ref l]) Q E s := by
  obtain ⟨⟨c, dct, dt, sl⟩, hl, hc, n, hd⟩ := hL
  replace hc : c = .type "tuple" := hc
  replace hd : dt = .seq items n := hd
  subst hc hd
  refine callType_new F.called_enumerate (by decide) (F.typeCall_enumerate_1 _) (F.newCall_enumerate_1 _) (fun obj => F.args_object_init_2 obj _) F.entry_enumerate_new
    (meets_enumT l items n dct sl) ⟨hl, ?_⟩
  have hz : (s.heap.push { cls := .type "tuple_iterator", data := .fields #[.ref l, .int 0 0] }).objs.size = s.heap.objs.size + 1 := Heap.size_push ..
  show _ ∧ _
  rw [hz]
  have he : IsEnum ((s.heap.push { cls := .type "tuple_iterator", data := .fields #[.ref l, .int 0 0] }).push
      { cls := .type "enumerate", data := .fields #[.none, .bool false, .ref s.heap.objs.size, rawInt 0, .none, .none] }) (s.heap.objs.size + 1) s.heap.objs.size 0 .none := by
    have := Heap.get?_push_size (s.heap.push { cls := .type "tuple_iterator", data := .fields #[.ref l, .int 0 0] })
      (o := { cls := .type "enumerate", data := .fields #[.none, .bool false, .ref s.heap.objs.size, rawInt 0, .none, .none] }) rfl
    rw [hz] at this
    exact this
  refine ⟨⟨_, he, rfl⟩, h _ he ⟨_, Heap.get?_push_of_some _ (Heap.get?_push_size _ rfl), rfl, rfl⟩ (by rw [Heap.size_push, hz]) fun b o x => Heap.get?_push_of_some _ (Heap.get?_push_of_some _ x)⟩
end
theorem enumT_end {prog : Program} {w : World} {A : Around} {E : Value → Shared → Prop} {s : Shared} {e it l : Addr} {i : Nat} {c : Int} {items : Array Value} {old : Value} {Q : Option Value → Shared → Prop} (hh : A.handled = none)
    (he : IsEnum s.heap e it c old) (hit : s.heap.IsTupleIter it l i) (hl : s.heap.IsTuple l items) (hx : items[i]? = none)
    (hQ : ∀ h', Heap.ExtBut it s.heap h' → Q none { s with heap := h' }) : wpAny (model prog w) A (pyNext (.ref e)) Q E s := by
  have hT : s.TypeIs (.ref e) "enumerate" := ⟨_, he, rfl⟩
  unfold pyNext
  refine wpAny_bind (wpAny_attempt (wpAny_callSpecial?_slot (name := Str.ofString "__next__") hT F.slot_enumerate_next
    (wpAny_call_entry F.slot_enumerate_next hT F.entry_enumerate_next ?_ (F.args_enumerate_next_1 _))))
  show wpAny _ _ (field (.ref e) 2 >>= _) _ _ _
  refine wpAny_bind (wpAny_field he rfl (x := .ref it) rfl ?_)
  refine wpAny_bind (wpAny_nextOf_tuple_end hh hit hl hx fun h' x he' hx' => ?_)
  obtain ⟨o, ho, hc⟩ := hx'
  refine wpAny_bind (wpAny_isInstance (T := "StopIteration") (b := true) ⟨o, ho, hc⟩ isSubtype_stop ?_)
  exact wpAny_pure (hQ _ he')
/-- the tuple at a: the number and the item in a new pair -/
def IteT (K : PySem.W.Frag) (a : Addr) : It :=
  ⟨fun i H => ∃ (xs : List V) (x : V), SqT K H a xs ∧ xs[i]? = some x, fun i H v H' => ∃ T x, v = .ref T ∧ H T = none ∧ H' = upd H T (.tup [.int (i : Nat), x]) ∧ ∀ xs, SqT K H a xs → xs[i]? = some x, fun i H => ∃ xs : List V, SqT K H a xs ∧ xs.length ≤ i⟩
theorem turn_enumT {P : Program} {w : World} {K : PySem.W.Frag} {elts : List Expr} {kk : Nat} {tpos : Pos} (a e it : Addr) :
    Turn P w K (.Tuple elts kk tpos) (IteT K a) [e, it] e (fun i h => (∃ old, IsEnum h e it ((i : Nat) : Int) old) ∧ h.IsTupleIter it a i ∧ e ≠ it) where
  mem := by simp
  obj := fun i h st b hb => by
    obtain ⟨⟨old, he⟩, ⟨o, ho, hc, hd⟩, _⟩ := st
    have e' : b = e ∨ b = it := by simpa using hb
    rcases e' with z | z
    · rw [z]; exact ⟨_, he, fun v q => nomatch q⟩
    · rw [z]; exact ⟨o, ho, fun v q => by rw [hd] at q; cases q⟩
  keep := fun i h h' st k => let ⟨⟨old, he⟩, hi, hne⟩ := st; ⟨⟨old, k e (by simp) _ he⟩, hi.at fun o q => k it (by simp) o q, hne⟩
  item := by
    intro X hP hw hK hc i pins s σ H E I hf st hg
    subst hP hw hK
    obtain ⟨⟨old, he⟩, hit, hne⟩ := st
    obtain ⟨xs, x, hq, hx⟩ := hg
    obtain ⟨its, rv, p, hz⟩ := I.tuple hq
    obtain ⟨u, hu, ru⟩ := rv.get hx
    have hel : e < s.heap.objs.size := Heap.lt_size he
    have hil : it < s.heap.objs.size := by obtain ⟨_, q, _⟩ := hit; exact Heap.lt_size q
    have hal : a < s.heap.objs.size := by obtain ⟨_, q, _⟩ := p; exact Heap.lt_size q
    have hai : a ≠ it := fun q => by
      obtain ⟨o1, h1, h2, _⟩ := p
      obtain ⟨o2, h3, h4, _⟩ := hit
      rw [q, h3] at h1
      cases h1
      rw [h4] at h2
      exact absurd (Value.type.inj h2) (by decide)
    have hea : e ≠ a := fun q => by
      obtain ⟨o1, h1, h2, _⟩ := p
      rw [← q, he] at h1
      cases h1
      exact absurd (Value.type.inj h2) (by decide)
    have lt : i < its.toArray.size := by
      have := (List.getElem?_eq_some_iff.mp hu).1
      simpa using this
    refine wpAny_pyNext_enum_itemD (Draws.tuple (A := X.A.in1) (I.ok.hd hc) it a hai its.toArray) he ⟨hit, p⟩ lt hne (by simp [hne, hea]) fun x' h' tk hx' ho hst' hT hsz hk => ?_
    have ex : x' = u := by
      have hx2 : its.toArray[i]? = some x' := hx'
      have hu' : its.toArray[i]? = some u := by simpa using hu
      rw [hu'] at hx2
      exact (Option.some.inj hx2).symm
    subst ex
    refine ⟨_, rfl, wpAny_letOwnedTupleGo_enum (s := { s with heap := h', toks := tk + 1 }) ho fun h'' he' sb => ?_⟩
    have hT2 : h''.get? s.heap.objs.size = some { cls := .type "tuple", data := .seq #[.int i tk, x'] } := (sb.2 _ (Nat.ne_of_gt hel)).trans hT
    have new : ObjOk X.prog X.w (upd H s.heap.objs.size (.tup [.int (i : Nat), x])) h'' s.heap.objs.size (.tup [.int (i : Nat), x]) :=
      ⟨by show 2 ≤ sizeLine; decide, [.int i tk, x'], .cons ⟨_, rfl⟩ (.cons ru .nil), ⟨_, hT2, rfl, _, rfl⟩⟩
    have I1 : Inv X pins σ (upd H s.heap.objs.size (.tup [.int (i : Nat), x])) { s with heap := h'', toks := tk + 1 } :=
      I.turnedNew (ch := [e, it]) (fun b ob hb q => (sb.2 b (fun z => hb (by simp [z]))).trans (hk b ob (fun z => hb (by simp [z])) (fun z => hb (by simp [z])) q)) hf (Nat.le_refl _) new
    refine ⟨.ref s.heap.objs.size, _, I1, rfl, ⟨_, x, rfl, I.hok.fresh (Nat.le_refl _), rfl, fun ys hy => by rw [I.tuple_inj hy hq]; exact hx⟩, ⟨⟨x', ?_⟩, hst'.1.at fun o q => (sb.2 it (Ne.symm hne)).trans q, hne⟩, fun b hb => ?_⟩
    · have e1 : ((i + 1 : Nat) : Int) = (i : Int) + 1 := by omega
      rw [e1]; exact he'
    · have hb' : b < s.heap.objs.size := by
        have e' : b = e ∨ b = it := by simpa using hb
        rcases e' with z | z
        · rw [z]; exact hel
        · rw [z]; exact hil
      rw [upd_ne (Nat.ne_of_lt hb')]
      exact (hf b hb).1
  done := by
    intro X hP hw hK hc i pins s σ H E I hf st hg
    subst hP hw hK
    obtain ⟨⟨old, he⟩, hit, hne⟩ := st
    obtain ⟨xs, hq, hx⟩ := hg
    obtain ⟨its, rv, p, hz⟩ := I.tuple hq
    obtain ⟨f0, f1, f2, f3, f4, f5⟩ := hf it (by simp)
    have hl := rv.length
    refine enumT_end (I.ok.hd hc) he hit p (by simp; omega) fun h' eb => ⟨rfl, I.turned (t' := s.toks) (fun b o hb q => eb b o hb q) f0 f1 f3 f4 f5⟩
  self := fun A i s Q E st h => let ⟨⟨_, he⟩, _⟩ := st; wpAny_pyIter_enum he h
def iEnumT (K : PySem.W.Frag) (ta : TA) : TI := fun σ H R => ta σ H fun vs H1 => ∃ a xs, vs = [.ref a] ∧ SqT K H1 a xs ∧ R (IteT K a) H1
theorem pi_enumT {X : Cx} {e : Expr} {ta : TA} {p pos tpos : Pos} {elts : List Expr} {kk : Nat} (hg : Gl X "enumerate") (hm : X.mg "enumerate" = none) (ha : PA X [e] ta) (hs : starEach [e] X.env = [(false, eval e X.env)] := by rfl) :
    PI X (.Tuple elts kk tpos) (.Call (.Name "enumerate" p) [e] [] pos) (iEnumT X.K ta) := by
  refine ⟨fun pins s σ H R I h => ?_⟩
  refine Call_ (ld_blt I hg hm boot_enumerate (PyProof.Rows.callWith_type1 (thn (ha.run pos pins s σ H _ I h) fun us s1 ⟨vs, H1, I1, r1, q1⟩ => ?_) hs rfl))
  obtain ⟨a, xs, ex, hq, q⟩ := q1
  subst ex
  cases r1 with
  | cons r rr =>
    cases rr
    cases r
    obtain ⟨its, rv, p', hz⟩ := I1.tuple hq
    refine call_enumT p' fun h' he hit hsz hk => wpAny_pyIter_enum he ?_
    have I2 : Inv X pins σ H1 { s1 with heap := h' } := I1.kept (t' := s1.toks) hk
    refine ⟨s1.heap.objs.size + 1, [s1.heap.objs.size + 1, s1.heap.objs.size], _, _, H1, rfl, I2, turn_enumT a (s1.heap.objs.size + 1) s1.heap.objs.size, ⟨⟨.none, he⟩, hit, Nat.succ_ne_self _⟩, fun b hb => ?_, q⟩
    have e' : b = s1.heap.objs.size + 1 ∨ b = s1.heap.objs.size := by simpa using hb
    have hle : s1.heap.objs.size ≤ b := by
      rcases e' with z | z
      · rw [z]; exact Nat.le_add_right _ _
      · rw [z]; exact Nat.le_refl _
    exact I1.fpOk hle (I1.hok.fresh hle)
theorem walk_enumT {K : PySem.W.Frag} {a : Addr} {xs : List V} : Walk (IteT K a) xs.length (fun H => SqT K H a xs) (YPair (fun i => some (.int (i : Nat))) (fun i => xs[i]?)) := by
  refine ⟨fun i _ hi q => ⟨xs, xs[i], q, by simp [hi]⟩, fun _ q => ⟨xs, q, Nat.le_refl _⟩, fun i H v H' _ q y => ?_⟩
  obtain ⟨T, x, h1, h2, h3, h4⟩ := y
  exact ⟨T, .int (i : Nat), x, h1, h2, h3, rfl, h4 xs q⟩
end K76


set_option Elab.async false
set_option linter.all false
set_option maxRecDepth 100000
set_option maxHeartbeats 4000000
/-! sorted(set(xs)) of a list of ints, any length below the scan's line (turned from HandS.SetFor and HandS.Set). -/
namespace K76
open PySem PySem.Spec PyProof.Rows L2
section
variable {P : Program} {w : World} {A : Around} {E : Value → Shared → Prop} {s : Shared} {a : Addr}
set_option maxHeartbeats 3200000 in
theorem set_of_listI {l : Addr} {items : Array Value} (ns : List Int) {Q : Value → Shared → Prop} (hh : A.handled = none) (hl : s.heap.IsList l items) (hit : IntsAre items.toList ns) (hb : ns.length + 1 < scanBound)
    (h : ∀ (h' : Heap) (tk c : Nat), SetR w h' s.heap.objs.size (fun j => decide (j ∈ ns)) c → c ≤ ns.length → (∀ b o, s.heap.get? b = some o → h'.get? b = some o) → Q (.ref s.heap.objs.size) { s with heap := h', toks := tk }) :
    wpAny (model P w) A (call (.type "set") [.ref l]) Q E s := by
  have hisz : items.size = ns.length := by
    have q := IntsAre.length hit
    rw [Array.length_toList] at q
    exact q
  obtain ⟨c, tl, hmro⟩ := F.called_set.mro
  have hmade := F.called_set.made
  have hsub := F.called_set.sub
  refine wpAny_call (codeAny_of_tree ?_)
  show wpAny _ _ (callAny (.type "set") _) _ _ _
  refine wpAny_pure ⟨Code.quiet_builtin _ (by decide +kernel), codeAny_builtin F.entry_type_call ?_⟩
  rw [Around.under_plain (weight_type_call_type "set" [.ref l] []) rfl]
  have h1 := F.called_set.notType
  have h2 := F.called_set.canCreate
  have hct := F.typeCall_set_1 (.ref l)
  repeat (any_goals (first | assumption | wp_step))

  refine codeAny_mono (code_set_led1 (.ref l) (E := E) (Q₁ := fun obj s₁ => obj = .ref s.heap.objs.size ∧ s₁ = { s with heap := s.heap.push { cls := .type "set", dict := none, data := .set #[] 0 (.fresh 0 0 (!w.params.followText "set-order")) } }) ⟨rfl, rfl⟩) fun r s₁ hr => ?_
  cases r with
  | error e => exact hr
  | ok fl =>
    cases fl with
    | ret obj =>
      obtain ⟨rfl, rfl⟩ := hr
      have hS : (s.heap.push { cls := .type "set", dict := none, data := .set #[] 0 (.fresh 0 0 (!w.params.followText "set-order")) }).get? s.heap.objs.size = some { cls := .type "set", dict := none, data := .set #[] 0 (.fresh 0 0 (!w.params.followText "set-order")) } := Heap.get?_push_size _ rfl
      have hT : Shared.TypeIs { s with heap := s.heap.push { cls := .type "set", dict := none, data := .set #[] 0 (.fresh 0 0 (!w.params.followText "set-order")) } } (.ref s.heap.objs.size) "set" := ⟨_, hS, rfl⟩
      have hli := F.called_set.init.lookup
      have hbi := F.called_set.init.bind (.ref s.heap.objs.size)
      repeat (any_goals (first | assumption | wp_step))

      refine codeAny_mono (codeAny_call_builtin (R := wants (fun r s₂ => r = .none ∧ ∃ h' tk c, s₂ = { s with heap := h', toks := tk } ∧ SetR w h' s.heap.objs.size (fun j => decide (j ∈ ns)) c ∧ c ≤ ns.length ∧
          (∀ b o, s.heap.get? b = some o → h'.get? b = some o)) E) F.called_set.init.plain F.entry_set_init (check_set_init_1 hT ?_)) fun r₂ s₂ hr₂ => ?_
      · obtain ⟨ol, hol, hcl, nl, hdl⟩ := hl
        obtain ⟨ocls, odict, odata, oslots⟩ := ol
        simp only at hcl hdl
        subst hcl; subst hdl
        have hol' : (s.heap.push { cls := .type "set", dict := none, data := .set #[] 0 (.fresh 0 0 (!w.params.followText "set-order")) }).get? l = some { cls := .type "list", dict := odict, data := .seq items nl, slots := oslots } := Heap.get?_push_of_some _ hol
        have hsls := F.sub_list_set
        have hslf := F.sub_list_frozenset
        have hne : (Value.type "list" == Value.type "dict") = false := by decide
        have hl1 : (s.heap.push { cls := .type "set", dict := none, data := .set #[] 0 (.fresh 0 0 (!w.params.followText "set-order")) }).IsList l items := ⟨_, hol', rfl, nl, rfl⟩
        unfold Builtin.«set.__init__» noKeywords Builtin.Frozenset.updateFrom
        generalize hPI : pyIter = PI
        wp_walk
        subst hPI

        refine wpAny_pyIter_list hl1 ?_
        refine wpAny_bind (wpAny_runValue ?_)
        have hlS : l < s.heap.objs.size := Heap.lt_size hol
        have hh3 : A.in1.in1.in1.handled = none := by simp [hh]
        have hz1 : (s.heap.push { cls := .type "set", dict := none, data := .set #[] 0 (.fresh 0 0 (!w.params.followText "set-order")) }).objs.size = s.heap.objs.size + 1 := Heap.size_push ..
        have hneI : l ≠ (s.heap.push { cls := .type "set", dict := none, data := .set #[] 0 (.fresh 0 0 (!w.params.followText "set-order")) }).objs.size := by
          rw [Heap.size_push]; exact Nat.ne_of_lt (Nat.lt_succ_of_lt hlS)
        have hSf : s.heap.objs.size ∉ [(s.heap.push { cls := .type "set", dict := none, data := .set #[] 0 (.fresh 0 0 (!w.params.followText "set-order")) }).objs.size, l] := by
          rw [Heap.size_push]; simp only [List.mem_cons, List.mem_singleton, List.not_mem_nil, or_false, not_or]
          exact ⟨Nat.ne_of_lt (Nat.lt_succ_self _), Nat.ne_of_gt hlS⟩
        have hval : ∀ (i : Nat) (v : Value), items[i]? = some v → ∃ k t, ns[i]? = some k ∧ v = .int k t := fun i v hv => by
          have hi : i < ns.length := by rw [← hisz]; exact (Array.getElem?_eq_some_iff.mp hv).1
          obtain ⟨t, e⟩ := PyProof.Rows.IntsAre.int_at hit i v (by rw [Array.getElem?_toList]; exact hv)
          refine ⟨ns[i], t, List.getElem?_eq_getElem hi, ?_⟩
          rw [e, List.getD_eq_getElem?_getD, List.getElem?_eq_getElem hi] <;> rfl
        refine set_update_ints ((Walks.list hh3 _ l hneI items).toS) s.heap.objs.size
          hSf ns hisz hb hval (items.size - 0) 0 _ (by omega) (Nat.zero_le _)
          ⟨⟨_, Heap.get?_push_size _ rfl, rfl, rfl⟩, (hl1.push _)⟩ ?hS0 ?hR
        case hS0 =>
          have hget : ((s.heap.push { cls := .type "set", dict := none, data := .set #[] 0 (.fresh 0 0 (!w.params.followText "set-order")) }).push { cls := .type "list_iterator", data := .fields #[.ref l, .int 0 0] }).get? s.heap.objs.size
              = some { cls := .type "set", dict := none, data := .set #[] 0 (.fresh 0 0 (!w.params.followText "set-order")) } := Heap.get?_push_of_some _ hS
          exact ⟨0, Nat.le_refl 0, setR_new_at hget⟩
        case hR =>
          intro s' c' hm hc' hS'
          obtain ⟨h', g2, d', tk', os'⟩ := s'
          have eg : g2 = s.gens := hm.gens
          have ed : d' = s.drawn := hm.drawn
          have eo : os' = s.os := hm.os
          subst eg; subst ed; subst eo
          show wpAny _ _ _ _ _ _
          refine wpAny_pure ?_
          show wpAny _ _ (ret Value.none) _ _ _
          rw [hisz] at hc'
          refine wpAny_pure ⟨rfl, h', tk', c', rfl, hS', hc', fun b o e => ?_⟩
          have hb0 : b < s.heap.objs.size := Heap.lt_size e
          have hb1 : b ≠ s.heap.objs.size := Nat.ne_of_lt hb0
          have hb2 : b ≠ (s.heap.push { cls := .type "set", dict := none, data := .set #[] 0 (.fresh 0 0 (!w.params.followText "set-order")) }).objs.size := by
            rw [Heap.size_push]; exact Nat.ne_of_lt (Nat.lt_succ_of_lt hb0)
          exact hm.heap b o (by simp only [List.mem_cons, List.mem_singleton, List.not_mem_nil, or_false, not_or]; exact ⟨hb1, hb2⟩) (Heap.get?_push_of_some _ (Heap.get?_push_of_some _ e))

      · cases r₂ with
        | error e => exact hr₂
        | ok fl₂ =>
          cases fl₂ with
          | ret r =>
            obtain ⟨rfl, h', tk, c', rfl, hS', hc', hk'⟩ := hr₂
            repeat (any_goals (first | assumption | wp_step))
            exact h _ _ _ hS' hc' hk'
          | _ => exact hr₂.elim
    | _ => exact hr.elim

theorem sorted_setAny {S : Int → Bool} {n : Nat} {Q : Value → Shared → Prop} (R : SetR w s.heap a S n) (hh : A.handled = none)
    (hQ : ∀ s' p (out : Array Value) (c : Nat) (ns : List Int), (∀ b o, s.heap.get? b = some o → s'.heap.get? b = some o) → s'.gens = s.gens → s'.os = s.os → s.heap.objs.size ≤ p →
      s'.heap.get? p = some (seqObj "list" out c) → IntsAre out.toList ns → ns.Pairwise (· < ·) → (∀ k, k ∈ ns ↔ S k = true) → ns.length = n → Q (.ref p) s') :
    wpAny (model P w) A (call (.builtin "sorted") [.ref a]) Q E s := by
  obtain ⟨o, es, ep, t, ho, hex, hd, g, nd, hm, hb, hf, hn, hr, hl⟩ := R
  refine Calls.call_function_entry kind_sorted plain_sorted entry_sorted (args_sorted1 _) ?_
  unfold Builtin.«sorted»
  refine wpAny_bind (m := checkCount "sorted" 1 1 _) (wpAny_pure ?_)
  refine wpAny_bind (collect_set (A := A.in1) hh ⟨o, ho, hex.1, hd⟩ hf hb hr hl fun s1 vs k1 hz g1 o1 pm => ?_)
  have hvl : vs.length = n := by rw [pm.length_eq, List.length_map, Array.length_toList]; exact hn
  have hL : n ≤ sizeLine := by rw [← hn]; exact fits_of_scanBound hb
  have hI : IntsAre vs (vs.map Builtin.Re.reRawOf) := ints_of vs fun v hv => by
    obtain ⟨e, he, q⟩ := List.mem_map.mp (pm.mem_iff.mp hv)
    obtain ⟨k, tk, h1, _⟩ := g e he
    exact ⟨k, tk, by rw [← q]; exact h1⟩
  have pk : (vs.map Builtin.Re.reRawOf).Perm (es.toList.map keyOf) := by
    have q := pm.map Builtin.Re.reRawOf
    rw [List.map_map] at q
    exact q
  refine wpAny_bind (wpAny_newList ?_ (by rw [hvl]; exact hL))
  have hoL : (s1.heap.push (seqObj "list" vs.toArray 0)).get? s1.heap.objs.size = some (seqObj "list" vs.toArray 0) := Heap.get?_push_size _ rfl
  refine wpAny_bind (wpAny_holding (wpAny_call_entry slot_list_sort ⟨_, hoL, rfl⟩ entry_list_sort (list_sort_treeAny hoL hI (by rw [hvl]; exact hL) fun out ns' a1 a2 a3 => ⟨_, rfl, ?_⟩) (args_list_sort _)))
  obtain ⟨c, hc⟩ := sortedHeap_at (vs := vs) (out := out) hoL
  have pn : ns'.Perm (es.toList.map keyOf) := a2.trans pk
  refine wpAny_pure ⟨_, rfl, hQ _ s1.heap.objs.size out c ns' (fun b u e => ?_) g1 o1 hz hc a1 (lt_of_le_nodup ns' a3 (pn.nodup_iff.mpr nd)) (fun k => by rw [pn.mem_iff, ← hm k]) ?_⟩
  · have q := k1 b u e
    have hlt := Heap.lt_size q
    show (sortedHeap (s1.heap.push (seqObj "list" vs.toArray 0)) s1.heap.objs.size vs out).get? b = some u
    rw [sortedHeap_old (Nat.ne_of_lt hlt) (by rw [size_push']; exact Nat.lt_succ_of_lt hlt)]
    exact Heap.get?_push_of_some _ q
  · rw [pn.length_eq, List.length_map, Array.length_toList]; exact hn
end
end K76


set_option Elab.async false
set_option linter.all false
set_option maxRecDepth 100000
set_option maxHeartbeats 4000000
/-! Functions as values: isinstance(f, T), f != g, t != f. -/
namespace K76
open PySem PySem.Spec PyProof.Rows
open AutoSeq1 (wpAny_loadPart')
theorem slot_f_ga : Slot "function" "__getattribute__" "object.__getattribute__" :=
  .of (owner := "object") (n := "__getattribute__") (by rw [typeLookup_type, builtinLookup_eq_fast]; kernel_rfl) (by decide +kernel) (by decide +kernel) (by decide +kernel)
    (by first | exact .inl (by decide +kernel) | exact .inr (by decide +kernel)) (by rw [isSubtype_type]; kernel_rfl)
theorem slot_f_eq : Slot "function" "__eq__" "object.__eq__" :=
  .of (owner := "object") (n := "__eq__") (by rw [typeLookup_type, builtinLookup_eq_fast]; kernel_rfl) (by decide +kernel) (by decide +kernel) (by decide +kernel)
    (by first | exact .inl (by decide +kernel) | exact .inr (by decide +kernel)) (by rw [isSubtype_type]; kernel_rfl)
theorem slot_f_ne : Slot "function" "__ne__" "object.__ne__" :=
  .of (owner := "object") (n := "__ne__") (by rw [typeLookup_type, builtinLookup_eq_fast]; kernel_rfl) (by decide +kernel) (by decide +kernel) (by decide +kernel)
    (by first | exact .inl (by decide +kernel) | exact .inr (by decide +kernel)) (by rw [isSubtype_type]; kernel_rfl)
theorem lk_f_class : typeLookup (.type "function") "__class__" = pure (some (.builtin "object.__class__")) := by rw [typeLookup_type, builtinLookup_eq_fast]; kernel_rfl
theorem sub_f_obj : isSubtype (.type "function") (.type "object") = pure true := by rw [isSubtype_type]; kernel_rfl
theorem sub_f_owner : isSubtype (.type "function") (.type (".".intercalate ("object.__class__".cutAt '.').dropLast)) = pure true := by
  rw [F.owner_object_class]
  exact sub_f_obj
theorem sub_tuple_f : isSubtype (.type "tuple") (.type "function") = pure false := by rw [isSubtype_type]; kernel_rfl
theorem sub_f_tuple : isSubtype (.type "function") (.type "tuple") = pure false := by rw [isSubtype_type]; kernel_rfl
section
variable {prog : Program} {w : World} {A : Around} {E : Value → Shared → Prop} {h : Heap} {g : Array GenState} {d : Drawn} {t : Nat} {os : OsState} {a : Addr} {o : Obj}
theorem f_class_get {R : Result → Shared → Prop} (hx : h.get? a = some o) (hc : o.cls = .type "function") (hq : R (.ok (.ret (.type "function"))) ⟨h, g, d, t, os⟩) :
    codeAny (model prog w) A (.call (.builtin "getset_descriptor.__get__") ⟨[.builtin "object.__class__", .ref a, .type "function"], []⟩) R ⟨h, g, d, t, os⟩ := by
  have hT : (⟨h, g, d, t, os⟩ : Shared).TypeIs (.ref a) "function" := ⟨_, hx, hc⟩
  have hT5 : (⟨h, g, d, t, os⟩ : Shared).TypeIs (.builtin "object.__class__") "getset_descriptor" := F.typeOf_object_class
  have f8 := sub_f_owner
  refine codeAny_call_builtin F.slot_gs_get.plain F.entry_gs_get (F.slot_gs_get.check _ _ _ _ _ _ _ _ hT5 (F.args_gs_get _ _ _) ?_)
  repeat (any_goals (first | assumption | wp_step))
  refine ⟨Code.quiet_builtin _ (by decide +kernel), codeAny_builtin F.entry_object_class ?_⟩
  repeat (any_goals (first | assumption | wp_step))
theorem f_class_entry {tk : Tok} {Q : Fin → Shared → Prop} (hx : h.get? a = some o) (hc : o.cls = .type "function") (hq : Q (.done (.ret (.type "function"))) ⟨h, g, d, t, os⟩) :
    wpAny (model prog w) A (Builtin.«object.__getattribute__» ⟨[.ref a, .str "__class__" tk], []⟩) Q E ⟨h, g, d, t, os⟩ := by
  have hT : (⟨h, g, d, t, os⟩ : Shared).TypeIs (.ref a) "function" := ⟨_, hx, hc⟩
  have hT5 : (⟨h, g, d, t, os⟩ : Shared).TypeIs (.builtin "object.__class__") "getset_descriptor" := F.typeOf_object_class
  have f4 := lk_f_class
  have f5 := F.typeOf_object_class
  have f6 := F.slot_gs_get.lookup
  have f7 := F.slot_gs_set.lookup
  repeat (any_goals (first | assumption | wp_step))
  refine f_class_get hx hc ?_
  repeat (any_goals (first | assumption | wp_step))
theorem f_class_call {tk : Tok} {R : Result → Shared → Prop} (hx : h.get? a = some o) (hc : o.cls = .type "function") (hq : R (.ok (.ret (.type "function"))) ⟨h, g, d, t, os⟩) :
    codeAny (model prog w) A (.call (.builtin "object.__getattribute__") ⟨[.ref a, .str "__class__" tk], []⟩) R ⟨h, g, d, t, os⟩ :=
  codeAny_call_builtin slot_f_ga.plain F.entry_object_getattribute (slot_f_ga.check _ _ _ _ _ _ _ _ (show (⟨h, g, d, t, os⟩ : Shared).TypeIs (.ref a) "function" from ⟨_, hx, hc⟩) (F.args_object_getattribute_2 _ _) (f_class_entry hx hc hq))
theorem f_class_by {tk : Tok} {Q : Value → Shared → Prop} (hx : h.get? a = some o) (hc : o.cls = .type "function") (hq : Q (.type "function") ⟨h, g, d, t, os⟩) : wpAny (model prog w) A (getAttrBy (.ref a) (.str "__class__" tk) false) Q E ⟨h, g, d, t, os⟩ := by
  have hT : (⟨h, g, d, t, os⟩ : Shared).TypeIs (.ref a) "function" := ⟨_, hx, hc⟩
  have f2 := slot_f_ga.lookup
  have f3 := slot_f_ga.bind (.ref a)
  repeat (any_goals (first | assumption | wp_step))
  refine f_class_call hx hc ?_
  repeat (any_goals (first | assumption | wp_step))
theorem f_class_attr {Q : Option Value → Shared → Prop} (hx : h.get? a = some o) (hc : o.cls = .type "function") (hq : Q (some (.type "function")) ⟨h, g, d, t + 1, os⟩) : wpAny (model prog w) A (getAttr? (.ref a) "__class__") Q E ⟨h, g, d, t, os⟩ := by
  unfold getAttr? getAttrBy?
  repeat (any_goals (first | assumption | with_reducible apply f_class_by hx hc | wp_step))
end
theorem kitx_f {K : PySem.W.Frag} {a : Addr} : PySem.W.KitX K (.ref a) (.type "function") (PySem.W.KitAt a "function") := PySem.W.kitx_of PySem.W.kitAt_ty (fun {_ _ _ _ _ s} p k => by
  obtain ⟨h, g, d, t, os⟩ := s
  obtain ⟨o, h1, h2⟩ := p
  exact f_class_attr h1 h2 k)
/-! ### != -/
section
variable {prog : Program} {w : World} {A : Around} {E : Value → Shared → Prop} {s : Shared} {x y : Addr} {ox oy : Obj}
theorem f_eq_call {Q : Value → Shared → Prop} (hx : s.heap.get? x = some ox) (hc : ox.cls = .type "function") (hy : s.heap.get? y = some oy) (h1 : x = y → Q (.bool true) s) (h2 : x ≠ y → Q .notImplemented s) :
    wpAny (model prog w) A (call (.builtin "object.__eq__") [.ref x, .ref y]) Q E s := by
  refine wpAny_call (codeAny_call_builtin slot_f_eq.plain F.entry_object_eq (slot_f_eq.check _ _ _ _ _ _ _ _ ⟨_, hx, hc⟩ (F.args_object_eq_2 _ _) ?_))
  by_cases e : x = y
  · subst e
    exact objEq_entry_same (h1 rfl)
  · exact objEq_entry_other e hx hy (by rw [hc]; decide) (h2 e)
theorem f_eq_special {Q : Option Value → Shared → Prop} (hx : s.heap.get? x = some ox) (hc : ox.cls = .type "function") (hy : s.heap.get? y = some oy) (h1 : x = y → Q (some (.bool true)) s) (h2 : x ≠ y → Q (some .notImplemented) s) :
    wpAny (model prog w) A (callSpecialIfBound? (.ref x) "__eq__" [.ref y]) Q E s := by
  refine wpAny_callSpecialIfBound?_slot ⟨_, hx, hc⟩ slot_f_eq (f_eq_call hx hc hy h1 h2)
theorem f_ne_call {Q : Value → Shared → Prop} (hu : A.units + 1 < cLine) (hx : s.heap.get? x = some ox) (hc : ox.cls = .type "function") (hy : s.heap.get? y = some oy) (h1 : x = y → Q (.bool false) s) (h2 : x ≠ y → Q .notImplemented s) :
    wpAny (model prog w) A (call (.builtin "object.__ne__") [.ref x, .ref y]) Q E s := by
  refine wpAny_call (codeAny_call_builtin slot_f_ne.plain F.entry_object_ne (slot_f_ne.check _ _ _ _ _ _ _ _ ⟨_, hx, hc⟩ (F.args_object_ne_2 _ _) ?_))
  unfold Builtin.«object.__ne__»
  by_cases e : x = y
  · subst e
    have k := h1 rfl
    repeat (first | with_reducible refine wpAny_cRoomFor hu ?_ | with_reducible refine f_eq_special hx hc hy (fun _ => ?_) (fun q => absurd rfl q) | wp_step)
    exact k
  · have k := h2 e
    repeat (first | with_reducible refine wpAny_cRoomFor hu ?_ | with_reducible refine f_eq_special hx hc hy (fun q => absurd q e) (fun _ => ?_) | wp_step)
    exact k
theorem f_try_ne {Q : Option Value → Shared → Prop} (hu : A.units + 1 < cLine) (hx : s.heap.get? x = some ox) (hc : ox.cls = .type "function") (hy : s.heap.get? y = some oy) (h1 : x = y → Q (some (.bool false)) s) (h2 : x ≠ y → Q none s) :
    wpAny (model prog w) A (tryCompare (.ref x) "__ne__" (.ref y)) Q E s := by
  simp only [tryCompare]
  refine wpAny_bind (wpAny_callSpecialIfBound?_slot ⟨_, hx, hc⟩ slot_f_ne (f_ne_call hu hx hc hy (fun e => ?_) fun e => ?_))
  · exact wpAny_pure (h1 e)
  · exact wpAny_pure (h2 e)
theorem t_ne_declines_f (l f : Addr) (items : Array Value) (n : Nat) (dd : Option Addr) (sl : Array (Option Value)) (of : Obj) (hc : of.cls = .type "function") :
    Meets (Builtin.«tuple.__ne__» ⟨[.ref l, .ref f], []⟩) (fun _ R s => s.heap.get? l = some { cls := .type "tuple", dict := dd, data := .seq items n, slots := sl } ∧ s.heap.get? f = some of ∧ R (.ok (.ret .notImplemented)) s) :=
  .of_wp fun prog w A R s h => by
    obtain ⟨hp, g, d, tk, os⟩ := s
    obtain ⟨hl, hf, h⟩ := h
    obtain ⟨oc, od, dt, os2⟩ := of
    simp only at hc
    subst hc
    have f1 := sub_f_tuple
    have hT : (⟨hp, g, d, tk, os⟩ : Shared).TypeIs (.ref f) "function" := ⟨_, hf, rfl⟩
    wp_walk using wpAny_loadPart' hl, wpAny_loadPart' hf
    exact ⟨_, rfl, h⟩
theorem t_try_ne {Q : Option Value → Shared → Prop} {items : Array Value} (hx : s.heap.IsTuple x items) (hy : s.heap.get? y = some oy) (hc : oy.cls = .type "function") (h2 : Q none s) :
    wpAny (model prog w) A (tryCompare (.ref x) "__ne__" (.ref y)) Q E s := by
  obtain ⟨⟨cls, dd, data, sl⟩, ho, hc1, n, hd⟩ := id hx
  simp only at hc1 hd
  subst hc1 hd
  simp only [tryCompare]
  exact wpAny_bind (wpAny_callSpecialIfBound?_slot ⟨_, ho, rfl⟩ F.slot_tuple_ne (call_meets F.slot_tuple_ne ⟨_, ho, rfl⟩ F.entry_tuple_ne (F.args_tuple_ne_2 _ _) (t_ne_declines_f x y items n dd sl oy hc) ⟨ho, hy, wpAny_pure h2⟩))
theorem ff_ne {Q : Value → Shared → Prop} (hu : A.units + 1 < cLine) (hx : s.heap.get? x = some ox) (hc : ox.cls = .type "function") (hy : s.heap.get? y = some oy) (hc2 : oy.cls = .type "function") (h : Q (.bool (!decide (x = y))) s) :
    wpAny (model prog w) A (richCompare .NotEq (.ref x) (.ref y)) Q E s := by
  have hu0 : A.units < cLine := Nat.lt_of_succ_lt hu
  have hT1 : s.TypeIs (.ref x) "function" := ⟨_, hx, hc⟩
  have hT2 : s.TypeIs (.ref y) "function" := ⟨_, hy, hc2⟩
  simp only [richCompare, cmpInfo_NotEq, oneThing_ref]
  refine wpAny_holding (wpAny_bind (wpAny_cRoomFor hu0 ?_))
  refine wpAny_bind (wpAny_typeOf hT1 (wpAny_bind (wpAny_typeOf hT2 ?_)))
  rw [if_neg (by simp)]
  refine wpAny_bind (wpAny_pure ?_)
  rw [if_neg (by decide)]
  by_cases e : x = y
  · subst e
    rw [decide_eq_true rfl] at h
    exact wpAny_bind (f_try_ne hu hx hc hy (fun _ => wpAny_pure h) fun q => absurd rfl q)
  · rw [decide_eq_false e] at h
    refine wpAny_bind (f_try_ne hu hx hc hy (fun q => absurd q e) fun _ => ?_)
    rw [if_pos (by decide)]
    refine wpAny_bind (f_try_ne hu hy hc2 hx (fun q => absurd q.symm e) fun _ => ?_)
    exact wpAny_bind (wpAny_rule (wpAny_bind (wpAny_isSame_ref_other e hx hy (by rw [hc]; decide) (wpAny_pure h))))
theorem tf_ne {Q : Value → Shared → Prop} {items : Array Value} (hu : A.units + 1 < cLine) (hx : s.heap.IsTuple x items) (hy : s.heap.get? y = some oy) (hc2 : oy.cls = .type "function") (h : Q (.bool true) s) :
    wpAny (model prog w) A (richCompare .NotEq (.ref x) (.ref y)) Q E s := by
  have hu0 : A.units < cLine := Nat.lt_of_succ_lt hu
  obtain ⟨ox, hox, hcx, _⟩ := id hx
  have hT1 : s.TypeIs (.ref x) "tuple" := ⟨_, hox, hcx⟩
  have hT2 : s.TypeIs (.ref y) "function" := ⟨_, hy, hc2⟩
  have e : y ≠ x := fun q => by
    rw [q, hox] at hy
    cases hy
    rw [hcx] at hc2
    exact absurd (Value.type.inj hc2) (by decide)
  simp only [richCompare, cmpInfo_NotEq, oneThing_ref]
  refine wpAny_holding (wpAny_bind (wpAny_cRoomFor hu0 ?_))
  refine wpAny_bind (wpAny_typeOf hT1 (wpAny_bind (wpAny_typeOf hT2 ?_)))
  rw [if_pos (by decide)]
  refine wpAny_bind (wpAny_of_eq sub_f_tuple ?_)
  rw [if_neg (by decide)]
  refine wpAny_bind (t_try_ne hx hy hc2 ?_)
  rw [if_pos (by decide)]
  refine wpAny_bind (f_try_ne hu hy hc2 hox (fun q => absurd q e) fun _ => ?_)
  exact wpAny_bind (wpAny_rule (wpAny_bind (SeqAt.wpAny_isSame_ref_other' (Ne.symm e) hox hy (by rw [hc2]; decide) (wpAny_pure h))))
end
end K76


set_option Elab.async false
set_option linter.all false
set_option maxRecDepth 100000
set_option maxHeartbeats 4000000
/-! Rules over the layer: set(xs), sorted of such a set, max(xs, default=d), a method by keywords, len of an own class, tuple(range(a, b, c)). -/
namespace K76
open PySem PySem.Spec PyProof.Rows L2
/-! ### set(xs), sorted(..) -/
def rSetL (K : PySem.W.Frag) (w : World) : List V → Hp → VK → Prop := fun xs H Q => ∃ (l : Addr) (ns : List Int), xs = [V.ref l] ∧ SqL K H l (ns.map V.int) ∧ ns.length ≤ 1000 ∧ ∀ (p : Addr) (n : Nat), n ≤ ns.length → H p = none → Q (.ref p) (upd H p (SetO w p (fun j => decide (j ∈ ns)) n))
theorem cr_setL {X : Cx} (hc : X.calm = true) : CallR X (.type "set") (rSetL X.K X.w) := by
  intro pins s σ H xs us Q I r h
  obtain ⟨l, ns, rfl, hs, hz, q⟩ := h
  obtain ⟨its, rv, hl, _⟩ := I.list hs
  rw [Vals.ref1 r]
  refine set_of_listI ns (I.ok.hd hc) hl.isList (by simpa using rv.ints) (by unfold scanBound; omega) fun h' tk c R hc' hk => ?_
  have np : H s.heap.objs.size = none := I.hok.fresh (Nat.le_refl _)
  exact ⟨.ref s.heap.objs.size, _, I.laid (t' := tk) hk (Nat.le_refl _) (setO_new R), rfl, q _ c hc' np⟩
def rSortedSetA (w : World) : List V → Hp → VK → Prop := fun vs H Q => ∃ (a : Addr) (S : Int → Bool) (n : Nat), vs = [V.ref a] ∧ H a = some (SetO w a S n) ∧ n ≤ 1000 ∧
  ∀ (ns : List Int) (p : Addr), ns.Pairwise (· < ·) → (∀ k : Int, k ∈ ns ↔ S k = true) → ns.length = n → H p = none → Q (.ref p) (upd H p (.lst (ns.map V.int)))
theorem cr_sortedSetA {X : Cx} (hc : X.calm = true) : CallR X (.builtin "sorted") (rSortedSetA X.w) := by
  intro pins s σ H vs us Q I r h
  obtain ⟨a, S, n, rfl, ha, hz, q⟩ := h
  have R := setO_get I ha
  rw [Vals.ref1 r]
  refine sorted_setAny R (I.ok.hd hc) fun s' p out c ns k g o hp hg hi hs hm hl => ?_
  have hlen : (ns.map V.int).length ≤ sizeLine := by rw [List.length_map, hl, sizeLine_eq]; omega
  have hn : H p = none := I.hok.fresh hp
  have J : Inv X pins σ (upd H p (.lst (ns.map V.int))) { s with heap := s'.heap, gens := s'.gens, drawn := s'.drawn, toks := s'.toks } :=
    I.call (ch := []) (Un.laid k hp hn) (I.hok.laid k hp ⟨hlen, out.toList, c, vals_of_ints hi, hg⟩) (by rw [g]; exact I.bare) (fun _ z => nomatch z)
  have e : s' = { s with heap := s'.heap, gens := s'.gens, drawn := s'.drawn, toks := s'.toks } := by
    cases s'
    cases s
    cases o
    rfl
  rw [e]
  exact ⟨.ref p, _, J, rfl, q ns p hs hm hl hn⟩
/-! ### max(xs, default=d) -/
def maxOr (d : Int) : List Int → Int
  | [] => d
  | n :: ns => ns.foldl max n
def rMaxD (K : PySem.W.Frag) : List V → List V → Hp → VK → Prop := fun vs zs H Q => ∃ (a : Addr) (ns : List Int) (d : Int), vs = [V.ref a] ∧ zs = [.int d] ∧ SqL K H a (ns.map V.int) ∧ Q (.int (maxOr d ns)) H
theorem alike_ints (ns : List Int) : PySem.W.AlikeAll (ns.map PyData.int) := by
  refine ⟨fun x hx y hy => ?_, fun x hx => ?_⟩
  · obtain ⟨i, _, rfl⟩ := List.mem_map.mp hx
    obtain ⟨j, _, rfl⟩ := List.mem_map.mp hy
    rfl
  · obtain ⟨i, _, rfl⟩ := List.mem_map.mp hx
    intro z
    cases z
theorem depth_ints : ∀ ns : List Int, PyData.depthAll (ns.map PyData.int) = 0
  | [] => rfl
  | n :: ns => by
    rw [List.map_cons]
    show max (PyData.depth (.int n)) (PyData.depthAll (ns.map PyData.int)) = 0
    rw [depth_ints ns]
    rfl
theorem cr_maxD {X : Cx} (hc : X.calm = true) (hu : X.A.units + 64 < cLine) : CallRK X (.builtin "max") ["default"] (rMaxD X.K) := by
  intro pins s σ H vs zs us ws Q I r r2 h
  obtain ⟨a, ns, d, rfl, rfl, hs, q⟩ := h
  obtain ⟨its, rv, hl, _⟩ := I.list hs
  rw [Vals.ref1 r]
  obtain ⟨u, rfl, t, rfl⟩ := vals1 r2
  have hr := ints_readAll s.heap rv.ints
  refine PySem.W.max_list_default (vs := its.toArray) (as := []) (I.ok.hd hc) hl.isList (by simpa using hr) (alike_ints ns) (by rw [depth_ints]; omega) (fun e h' tk hk => ?_) (fun y ys i v h' tk bs e hv hr' hk => ?_)
  · have e2 : ns = [] := List.map_eq_nil_iff.mp e
    subst e2
    exact ⟨.int d, H, I.kept hk, ⟨_, rfl⟩, q⟩
  · cases ns with
    | nil => cases e
    | cons n ns =>
      rw [List.map_cons] at e
      injection e with e1 e2
      subst e1 e2
      rw [PySem.W.maxD_ints] at hr'
      cases hr' with
      | int i t => exact ⟨.int (ns.foldl max n), H, I.kept hk, ⟨_, rfl⟩, q⟩
/-! ### o.m(e, .., k = v, ..) -/
def tMethN (C : Addr) (m : Str) (n mk : Nat) (sp : Sp) (gV : List V → List V → List V) (E : XK) (ta : TE) (t tk : TA) : TE := fun σ H Q => ta σ H fun x H1 => ∃ a dx fs, x = .ref a ∧ H1 a = some (.ins C dx fs) ∧ fs.lookup m = none ∧
  t σ H1 fun vs H2 => tk σ H2 fun zs H3 => vs.length = n ∧ zs.length = mk ∧ sp (gV (x :: vs) zs) H3 Q E
section
variable {X : Cx} {CX : CXT} {k n : Nat} {f C : Addr} {fd : FuncData} {ps ks : List Str} {sp : Sp} {E : XK} {m : Str} {p pos apos : Pos} {o e : Expr} {es : List Expr} {kws : List Keyword} {ta : TE} {t tk : TA} {g : List Value → List Value → List Value} {gV : List V → List V → List V}
theorem pe_methN {pl : Sem Bool} (he : PE X o ta) (c : Cls X.K C) (hm : Meth X.K C m f) (F : FnOk X.prog X.w X.K X.mg X.base CX k f fd ps sp) (hr : Room k X.A) (hb : KBn X.K fd ps (n + 1) ks g gV) (hx : Passes CX X E) (ha : PA X (e :: es) t) (hkw : PK X kws tk)
    (hall : (backToKw pos (keywordEach kws X.env)).all (·.1.isSome) = true := by rfl) (hks : (backToKw pos (keywordEach kws X.env)).filterMap (·.1) = ks := by rfl)
    (hst : starEach (e :: es) X.env = (false, eval e X.env) :: starEach es X.env := by rfl) (hpl : ((backTo pos (starEach (e :: es) X.env)).any (·.1) || (backToKw pos (keywordEach kws X.env)).any (·.1.isNone)) = false := by rfl)
    (ht : eval (.Call (.Attribute o m apos) (e :: es) kws pos) X.env = (do
      let ov ← eval o X.env
      standAt apos.atName
      let (f, first) ← holding [ov] (getMethod ov m pl)
      callWith pos f first (backTo pos (starEach (e :: es) X.env)) (backToKw pos (keywordEach kws X.env))) := by rfl) :
    PE X (.Call (.Attribute o m apos) (e :: es) kws pos) (tMethN C m n ks.length sp gV E ta t tk) := by
  refine ⟨fun pins s σ H Q I h => ?_⟩
  refine PySem.W.methodCall_KW (pl := pl) (thn (he.run pins s σ H _ I h) fun u s1 ⟨x, H1, I1, rx, a, dx, fs, ex, ea, l, q⟩ => ?_) ht
  subst ex
  obtain rfl : u = Value.ref a := rx
  refine getmeth_ok I1 ea c hm l ?_
  refine PySem.W.callWith_KW (first := [.ref a]) (h₀ := X.base) I.ok.mod.kin hm.kp hall (thn (ha.run pos pins s1 σ H1 _ I1 q) fun us s2 ⟨vs, H2, I2, r, q2⟩ => ?_) hpl hst
  refine thn (hkw.run pos pins s2 σ H2 _ I2 q2) fun ws s3 ⟨zs, H3, I3, rz, l1, l2, q3⟩ => ⟨I3.kIn, ?_⟩
  rw [hks]
  exact run_fnN (us := .ref a :: us) (vs := .ref a :: vs) F hr hb hx I3 (.cons rfl r) rz (by rw [List.length_cons, l1]) l2 q3
end
/-! ### len(o), o of an own class -/
section
variable {X : Cx} {CX : CXT} {k : Nat} {f C : Addr} {fd : FuncData} {ps : List Str} {sp : Sp} {E : XK}
def rLenO (C : Addr) (sp : Sp) (E : XK) : List V → Hp → VK → Prop := fun xs H Q => ∃ (a dx : Addr) (fs : List (Str × V)), xs = [.ref a] ∧ H a = some (.ins C dx fs) ∧ sp [.ref a] H (fun v H' => ∃ n : Int, v = .int n ∧ 0 ≤ n ∧ n < 2 ^ 63 ∧ Q (.int n) H') E
theorem cr_lenO (hm : Meth X.K C "__len__" f) (F : FnOk X.prog X.w X.K X.mg X.base CX k f fd ps sp) (hr : Room (k + 1) X.A) (hb : Binds X.K fd ps []) (hx : Passes CX X E) : CallR X (.builtin "len") (rLenO C sp E) := by
  intro pins s σ H xs us Q I r h
  obtain ⟨a, dx, fs, rfl, ha, q⟩ := h
  rw [Vals.ref1 r]
  obtain ⟨mA, O, _⟩ := ins_get I.hok ha
  obtain ⟨od, J, _⟩ := O.look
  obtain ⟨m, hF⟩ := I.fr
  refine PySem.W.len_K hF I.ok.mod.kin J hm.at_ hm.fn ?_
  have hl := F.len _ _ _ _ q
  have hb2 := hb s [.ref a] I.kIn (by simpa using hl)
  refine wpAny_call (codeAny_mono (F.run X.A.in1 X.stack s H ⟨[.ref a], []⟩ [.ref a] [.ref a] _ E hr.in1 I.env0.in1 (by simpa using hb2) (.cons rfl .nil) q) fun r s' hq => ?_)
  cases r with
  | error e => exact hx pins σ H s e s' I hq
  | ok fl =>
    cases fl with
    | ret u =>
      obtain ⟨v, H', I2, rv, n, ev, h0, h1, q3⟩ := I.after hq
      subst ev
      obtain ⟨t, rfl⟩ := rv
      exact ⟨⟨h0, h1⟩, .int n, H', I2.tok _, ⟨_, rfl⟩, q3⟩
    | next => exact False.elim hq
    | brk => exact False.elim hq
    | cont => exact False.elim hq
end
/-! ### tuple(range(a, b, c)) -/
section
variable {X : Cx}
def rgC (a c : Int) (n : Nat) : List V := (List.range n).map fun i => V.int (a + (i : Nat) * c)
theorem rgC_length (a c : Int) (n : Nat) : (rgC a c n).length = n := by unfold rgC; rw [List.length_map, List.length_range]
theorem vals_rgC {a c : Int} {n : Nat} {acc : Array Value} (h : ItemsOf (fun i v => ∃ t, v = .int (a + i * c) t) acc n) : Vals (rgC a c n) acc.toList := by
  have e : acc.toList.length = n := by rw [Array.length_toList]; exact h.1
  unfold rgC
  rw [← e]
  refine vals_of_get acc.toList _ fun j u hj => ?_
  obtain ⟨t, rfl⟩ := h.2 j u (by rw [← hj, Array.getElem?_toList])
  exact ⟨t, rfl⟩
def tTupR3 (ta : TA) : TE := fun σ H Q => ta σ H fun vs H1 => ∃ (i j c : Int) (n : Nat), vs = [.int i, .int j, .int c] ∧ RgC i j c n ∧ n ≤ 1000 ∧ ∀ q, H1 q = none → Q (.ref q) (upd H1 q (.tup (rgC i c n)))
theorem pe_tupR3 {p pos p2 pos2 : Pos} {a b c : Expr} {ta : TA} (hcm : X.calm = true) (hg : Gl X "tuple") (hm : X.mg "tuple" = none) (hg2 : Gl X "range") (hm2 : X.mg "range" = none) (ha : PA X [a, b, c] ta)
    (na : starEach [.Call (.Name "range" p2) [a, b, c] [] pos2] X.env = (false, eval (.Call (.Name "range" p2) [a, b, c] [] pos2) X.env) :: starEach [] X.env := by rfl)
    (hs : starEach [a, b, c] X.env = (false, eval a X.env) :: starEach [b, c] X.env := by rfl) (hpl : (backTo pos2 (starEach [b, c] X.env)).any (·.1) = false := by rfl) :
    PE X (.Call (.Name "tuple" p) [.Call (.Name "range" p2) [a, b, c] [] pos2] [] pos) (tTupR3 ta) := by
  refine ⟨fun pins s σ H Q I h => ?_⟩
  refine Call_ (ld_blt I hg hm boot_tuple (PyProof.Rows.callWith_type1 (args_cons ?_ na) na))
  refine Call_ (ld_blt I hg2 hm2 boot_range (PyProof.Rows.callWith_type1 (thn (ha.run pos2 pins s σ H _ I h) fun us s1 ⟨vs, H1, I1, r1, q1⟩ => ?_) hs hpl))
  obtain ⟨i, j, k, n, e, ⟨c0, c1, c2, c3⟩, hz, q⟩ := q1
  subst e
  cases r1 with
  | cons r rr =>
    cases rr with
    | cons r' rr =>
      cases rr with
      | cons r'' rr =>
        cases rr
        obtain ⟨t, rfl⟩ := r
        obtain ⟨t', rfl⟩ := r'
        obtain ⟨t'', rfl⟩ := r''
        refine call_range_3 c0 ?_ (.inl (PyProof.noPylong_small c1))
        refine args_nil ?_
        have I2 : Inv X pins σ H1 { s1 with heap := s1.heap.push { cls := .type "range", data := .fields #[.int i t, .int j t', .int k t''] } } := I1.kept (t' := s1.toks) fun b o e => Heap.get?_push_of_some _ e
        refine call_tuple_range (n := n) (I2.ok.hd hcm) (IsRange.new ..) c2 (by rw [c3]) (by omega) fun h' tk acc hk hi => ?_
        have I3 : Inv X pins σ H1 { s1 with heap := h', toks := tk } := I2.kept hk
        refine ⟨.ref h'.objs.size, upd H1 h'.objs.size (.tup (rgC i k n)), I3.laid (t' := tk) (fun c o e => Heap.get?_push_of_some _ e) (Nat.le_refl _) (show ObjOk X.prog X.w _ _ _ (.tup (rgC i k n)) from ⟨?_, acc.toList, vals_rgC hi, ?_⟩), rfl, q _ (I3.hok.fresh (Nat.le_refl _))⟩
        · rw [rgC_length, sizeLine_eq]; omega
        · rw [Array.toArray_toList]; exact IsTup.new _ _
end
end K76


set_option Elab.async false
set_option linter.all false
set_option maxRecDepth 100000
set_option maxHeartbeats 4000000
/-! Closures: made by a def and handed back, their cells known from then on; called from anywhere. -/
namespace K76
open PySem PySem.Spec PyProof.Rows L2 LamX NdefX
/-! ### a frame with captured cells and cells of its own -/
theorem cellsFrom_app : ∀ (names : List (Str × NameKind)) (n : Nat) (acc : List (Str × Addr)), cellsFrom n names acc = cellsFrom n names [] ++ acc
  | [], n, acc => rfl
  | (x, k) :: r, n, acc => by
    unfold cellsFrom
    split
    · rw [cellsFrom_app r (n + 1) ((x, n) :: acc), cellsFrom_app r (n + 1) [(x, n)], List.append_assoc]
      rfl
    · exact cellsFrom_app r n acc
theorem look_app {α : Type} {l m : List (Str × α)} {x : Str} {c : α} (h : l.lookup x = some c) : (l ++ m).lookup x = some c := by
  rw [List.lookup_append, h] <;> rfl
section
variable {M : Model} {A : Around} {E : Value → Shared → Prop} {s₀ s : Shared} {m cm : Str → Option Value} {env : Env} {cs : List (Str × Addr)}
theorem stL2 {n : Str} {v : Value} {Q : Unit → Shared → Prop} (x : InCallC s₀ env.locals m cs cm s) (hk : env.scope.kind = .function) (hl : env.kindOf n = some .local)
    (h : ∀ s', InCallC s₀ env.locals (fun y => if y = n then some v else m y) cs cm s' → Q () s') : wpAny M A (storeName env n v) Q E s := by
  refine wpAny_storeName_local hl x.toInCall.ns (fun h' hn' hs' => h _ ⟨⟨?_, hn', fun b o e => ?_, x.toInCall.fresh⟩, fun k c hc => ?_, x.apart, x.above⟩) (by rw [hk]; rfl)
  · obtain ⟨h1, tk, rfl⟩ := x.toInCall.same
    exact ⟨h', _, rfl⟩
  · exact hs'.extBut b o (Nat.ne_of_lt (Nat.lt_of_lt_of_le (Heap.lt_size e) x.toInCall.fresh)) (x.toInCall.keep b o e)
  · exact (x.cell k c hc).sameBut hs' (Nat.ne_of_gt (x.above k c (PySem.mem_of_lookup hc)))
theorem stC2 {n : Str} {c : Addr} {v : Value} {Q : Unit → Shared → Prop} (x : InCallC s₀ env.locals m cs cm s) (hk : env.scope.kind = .function) (hl : env.kindOf n = some .cell)
    (hc : cs.lookup n = some c) (hc2 : env.cells.lookup n = some c)
    (h : ∀ s', InCallC s₀ env.locals m cs (fun y => if y = n then some v else cm y) s' → Q () s') : wpAny M A (storeName env n v) Q E s := by
  have hLc := x.above n c (PySem.mem_of_lookup hc)
  refine wpAny_storeName_cell hk hl hc2 (x.cell n c hc) fun h' hc' hs' => h _ ⟨⟨?_, x.toInCall.ns.sameBut hs' (Nat.ne_of_lt hLc), fun b o e => ?_, x.toInCall.fresh⟩, fun k c' hk' => ?_, x.apart, x.above⟩
  · obtain ⟨h1, tk, rfl⟩ := x.toInCall.same
    exact ⟨h', _, rfl⟩
  · exact hs'.extBut b o (Nat.ne_of_lt (Nat.lt_trans (Nat.lt_of_lt_of_le (Heap.lt_size e) x.toInCall.fresh) hLc)) (x.toInCall.keep b o e)
  · by_cases hkn : k = n
    · subst hkn
      rw [hc] at hk'
      cases hk'
      simpa using hc'
    · rw [if_neg hkn]
      exact (x.cell k c' hk').sameBut hs' fun e => hkn (name_of_addr x.apart (PySem.mem_of_lookup hk') (e ▸ PySem.mem_of_lookup hc))
theorem bindParams2 (f : Str × Value → PUnit → Sem (ForInStep PUnit)) (hf : ∀ n v u, f (n, v) u = (do storeName env n v; pure (.yield ⟨⟩))) (hk : env.scope.kind = .function) (hcs : ∀ n c, cs.lookup n = some c → env.cells.lookup n = some c) :
    ∀ (binds : List (Str × Value)) (m cm : Str → Option Value) (s : Shared) (Q : PUnit → Shared → Prop), InCallC s₀ env.locals m cs cm s →
      (∀ x ∈ binds, env.kindOf x.1 = some .local ∨ (env.kindOf x.1 = some .cell ∧ (cs.lookup x.1).isSome = true)) →
      (∀ s', InCallC s₀ env.locals (bindL env.kindOf binds m) cs (bindC env.kindOf binds cm) s' → Q ⟨⟩ s') → wpAny M A (forIn binds ⟨⟩ f) Q E s
  | [], m, cm, s, Q, x, _, h => by rw [List.forIn_nil]; exact wpAny_pure (h s x)
  | (n, v) :: r, m, cm, s, Q, x, hkind, h => by
    rw [List.forIn_cons, hf]
    have hr : ∀ y ∈ r, env.kindOf y.1 = some .local ∨ (env.kindOf y.1 = some .cell ∧ (cs.lookup y.1).isSome = true) := fun y hy => hkind y (List.mem_cons_of_mem _ hy)
    rcases hkind (n, v) List.mem_cons_self with hl | ⟨hl, hc⟩
    · refine wpAny_bind (wpAny_bind (stL2 x hk hl fun s' x' => wpAny_pure (bindParams2 f hf hk hcs r _ _ s' Q x' hr fun s'' x'' => h s'' ?_)))
      unfold bindL bindC
      rw [if_pos hl, if_pos hl]
      exact x''
    · obtain ⟨c, hc⟩ := Option.isSome_iff_exists.mp hc
      have hnl : ¬ env.kindOf n = some .local := by rw [hl]; decide
      refine wpAny_bind (wpAny_bind (stC2 x hk hl hc (hcs n c hc) fun s' x' => wpAny_pure (bindParams2 f hf hk hcs r _ _ s' Q x' hr fun s'' x'' => h s'' ?_)))
      unfold bindL bindC
      rw [if_neg hnl, if_neg hnl]
      exact x''
end
theorem newEnv2 {M : Model} {A : Around} {E : Value → Shared → Prop} {s : Shared} {scope : Scope} {globals : Addr} {clo : List (Str × Addr)} {binds : List (Str × Value)} {qual : Str} {func : Option Addr} {code : Value} {builtins : Addr} {Q : Env → Shared → Prop} (hk : scope.kind = .function)
    (hkind : ∀ x ∈ binds, scope.names.lookup x.1 = some .local ∨ (scope.names.lookup x.1 = some .cell ∧ ((cellsFrom (s.heap.objs.size + 1) scope.names []).lookup x.1).isSome = true))
    (hQ : ∀ env, env = newEnv scope s.heap.objs.size globals (cellsFrom (s.heap.objs.size + 1) scope.names clo) qual func code none builtins →
      ∀ s', InCallC s env.locals (bindL env.kindOf binds fun _ => none) (cellsFrom (s.heap.objs.size + 1) scope.names []) (bindC env.kindOf binds fun _ => none) s' → Q env s') :
    wpAny M A (newFunctionEnv scope globals clo binds qual func code none builtins) Q E s := by
  simp only [newFunctionEnv, Option.isSome_none, Bool.false_eq_true, if_false]
  refine wpAny_bind (wpAny_alloc ?_)
  refine wpAny_bind (wpAny_layCells _ (fun name kind cells => by cases hkc : kind == NameKind.cell <;> simp [hkc]) _ _ _ _ ?_)
  have ok := cellsFrom_ok scope.names (s.heap.push { cls := .type "frame", data := .dict #[] }) (s.heap.objs.size + 1) [] ⟨fun _ _ hm => (nomatch hm), List.Pairwise.nil⟩ (by rw [Heap.size_push]; exact Nat.le_refl _)
  rw [Heap.size_push] at ok
  rw [show ({ s with heap := s.heap.push { cls := .type "frame", data := .dict #[] } } : Shared).heap.objs.size = s.heap.objs.size + 1 from Heap.size_push ..]
  refine wpAny_bind (bindParams2 (s₀ := s) (cs := cellsFrom (s.heap.objs.size + 1) scope.names []) (env := newEnv scope s.heap.objs.size globals (cellsFrom (s.heap.objs.size + 1) scope.names clo) qual func code none builtins)
    _ (fun _ _ _ => rfl) hk (fun n c h => ?_) binds (fun _ => none) (fun _ => none) _ _
    ⟨⟨⟨_, _, rfl⟩, (Heap.Ns.new s.heap (.type "frame")).keeps (pushCells_keeps _ _), fun b o e => pushCells_keeps _ _ b o (Heap.get?_push_of_some _ e), Nat.le_refl _⟩,
      fun n c hc => (ok.empty n c (PySem.mem_of_lookup hc)).1, ok.apart, fun n c hm => (ok.empty n c hm).2⟩
    hkind fun s' x => wpAny_pure (hQ _ rfl s' x))
  show (cellsFrom (s.heap.objs.size + 1) scope.names clo).lookup n = some c
  rw [cellsFrom_app]
  exact look_app h

/-! ### cells that are known -/
def CellO (c : Addr) (v : V) : HO := .ext fun h => ∃ u, RelV v u ∧ h.IsCell c (some u)
def hideC (cs : List (Addr × V)) (H : Hp) : Hp := fun b => match cs.lookup b with
  | some _ => none
  | none => H b
def trkC (cs : List (Addr × V)) (H : Hp) : Hp := fun b => match cs.lookup b with
  | some v => some (CellO b v)
  | none => H b
theorem hide_out {cs : List (Addr × V)} {H : Hp} {b : Addr} (h : cs.lookup b = none) : hideC cs H b = H b := by
  unfold hideC
  rw [h]
theorem hide_in {cs : List (Addr × V)} {H : Hp} {b : Addr} {v : V} (h : cs.lookup b = some v) : hideC cs H b = none := by
  unfold hideC
  rw [h]
theorem hide_none {cs : List (Addr × V)} {H : Hp} {b : Addr} (h : H b = none) : hideC cs H b = none := by
  cases e : cs.lookup b with
  | none => rw [hide_out e]; exact h
  | some v => exact hide_in e
theorem hide_some {cs : List (Addr × V)} {H : Hp} {b : Addr} {o : HO} (h : hideC cs H b = some o) : cs.lookup b = none ∧ H b = some o := by
  cases e : cs.lookup b with
  | none => rw [hide_out e] at h; exact ⟨rfl, h⟩
  | some v => rw [hide_in e] at h; cases h
theorem trk_out {cs : List (Addr × V)} {H : Hp} {b : Addr} (h : cs.lookup b = none) : trkC cs H b = H b := by
  unfold trkC
  rw [h]
theorem trk_in {cs : List (Addr × V)} {H : Hp} {b : Addr} {v : V} (h : cs.lookup b = some v) : trkC cs H b = some (CellO b v) := by
  unfold trkC
  rw [h]
/-- these cells are tracked so -/
def OnC (cs : List (Addr × V)) (H : Hp) : Prop := ∀ b v, cs.lookup b = some v → H b = some (CellO b v)
theorem OnC.out {cs : List (Addr × V)} {H : Hp} (h : OnC cs H) {b : Addr} {o : HO} (e : H b = some o) (n : ∀ c v, o ≠ CellO c v) : cs.lookup b = none := by
  cases q : cs.lookup b with
  | none => rfl
  | some v =>
    rw [h b v q] at e
    exact absurd (Option.some.inj e).symm (n b v)
theorem OnC.free {cs : List (Addr × V)} {H : Hp} (h : OnC cs H) {b : Addr} (e : H b = none) : cs.lookup b = none := by
  cases q : cs.lookup b with
  | none => rfl
  | some v =>
    rw [h b v q] at e
    cases e
theorem trk_hide {cs : List (Addr × V)} {H : Hp} (h : OnC cs H) : trkC cs (hideC cs H) = H := by
  funext b
  cases q : cs.lookup b with
  | none => rw [trk_out q, hide_out q]
  | some v => rw [trk_in q, h b v q]
section
variable {P : Program} {w : World} {K : PySem.W.Frag} {mg : Str → Option Value} {base : Heap} {A : Around} {outer : List Env} {s : Shared} {H H1 : Hp} {h h' : Heap} {cs : List (Addr × V)}
theorem hide_ok (x : HOk P w H h) (oc : OnC cs H) : HOk P w (hideC cs H) h := fun a o e => by
  obtain ⟨q, e2⟩ := hide_some e
  exact (x a o e2).stay (fun _ _ _ z => z) (fun b z => by rw [hide_out (oc.out z fun c v => by unfold CellO; intro y; cases y)]; exact z) fun b xs z => by rw [hide_out (oc.out z fun c v => by unfold CellO; intro y; cases y)]; exact z
theorem trk_ok (x : HOk P w H1 h) (hc : ∀ b v, cs.lookup b = some v → H1 b = none ∧ ∃ u, RelV v u ∧ h.IsCell b (some u)) : HOk P w (trkC cs H1) h := fun a o e => by
  cases q : cs.lookup a with
  | none =>
    rw [trk_out q] at e
    have nn : ∀ b o', H1 b = some o' → cs.lookup b = none := fun b o' z => by
      cases r : cs.lookup b with
      | none => rfl
      | some v =>
        rw [(hc b v r).1] at z
        cases z
    exact (x a o e).stay (fun _ _ _ z => z) (fun b z => by rw [trk_out (nn b _ z)]; exact z) fun b xs z => by rw [trk_out (nn b _ z)]; exact z
  | some v =>
    rw [trk_in q] at e
    cases e
    obtain ⟨u, ru, hu⟩ := (hc a v q).2
    obtain ⟨ob, ho, hd⟩ := id hu
    exact ⟨⟨u, ru, hu⟩, ⟨ob, ho⟩, fun h1 h2 ⟨u1, r1, o1, e1, d1⟩ st => ⟨u1, r1, o1, st _ e1, d1⟩⟩
theorem env0_hide (e : Env0 P w K mg base A outer s H) (oc : OnC cs H) : Env0 P w K mg base A outer s (hideC cs H) :=
  ⟨e.frames, e.mod, fun b o z => ⟨(e.bs b o z).1, hide_none (e.bs b o z).2⟩, e.bsz, e.funs, fun b z => hide_none (e.frf b z), hide_ok e.hok oc, e.bare⟩
/-- behind a run from the hidden heap: the cells are as they were -/
theorem un_trk {fs : List Addr} (oc : OnC cs H) (hf : ∀ b ∈ fs, H b = none) (u : Un fs [] (hideC cs H) H1 h h') : Un fs [] H (trkC cs H1) h h' where
  keep := fun b o q n hb hx => u.keep b o q (hide_none n) hb hx
  slot := fun b o q n hb hx => u.slot b o q (hide_none n) hb hx
  free := fun b o q n hx => by rw [trk_out (oc.free n)]; exact u.free b o q (hide_none n) hx
  there := u.there
  tups := fun b xs q => by
    have z := oc.out q fun c v => by unfold CellO; intro y; cases y
    rw [trk_out z]
    exact u.tups b xs (by rw [hide_out z]; exact q)
  frzs := fun b o xs q => by
    have z := oc.out q fun c v => by unfold CellO; intro y; cases y
    rw [trk_out z]
    exact u.frzs b o xs (by rw [hide_out z]; exact q)
  tbls := fun b ps q => by
    have z := oc.out q fun c v => by unfold CellO; intro y; cases y
    rw [trk_out z]
    exact u.tbls b ps (by rw [hide_out z]; exact q)
theorem ok_trk {fs : List Addr} (oc : OnC cs H) (hf : ∀ b ∈ fs, H b = none) (x : HOk P w H h) (u : Un fs [] (hideC cs H) H1 h h') (y : HOk P w H1 h') : HOk P w (trkC cs H1) h' := trk_ok y fun b v q => by
  obtain ⟨⟨z, rz, o, ho, hd⟩, _, _⟩ := x b _ (oc b v q)
  have nf : b ∉ fs := fun k => by
    have := hf b k
    rw [oc b v q] at this
    cases this
  exact ⟨u.free b o ho (hide_in q) (by simp), z, rz, o, u.keep b o ho (hide_in q) nf (by simp), hd⟩
end
/-! ### a closure, called -/
structure NSc (N ps fr : List Str) (sc : Scope) : Prop where
  kind : sc.kind = .function
  co : sc.isCoroutine = false
  gen : sc.isGenerator = false
  nd : N.Nodup
  pre : N.take (ps.length + fr.length) = ps ++ fr
  par : ∀ x ∈ ps, sc.names.lookup x = some .local ∨ sc.names.lookup x = some .cell
  free : ∀ y ∈ sc.names, y.2 = .free → y.1 ∈ fr
  frk : ∀ x ∈ fr, sc.names.lookup x = some .free
  cel : ∀ y ∈ sc.names, y.2 = .cell → y.1 ∉ fr
def nscC (N ps fr : List Str) (sc : Scope) : Bool :=
  decide (sc.kind = .function) && !sc.isCoroutine && !sc.isGenerator && decide N.Nodup && decide (N.take (ps.length + fr.length) = ps ++ fr) && ps.all (fun x => decide (sc.names.lookup x = some .local) || decide (sc.names.lookup x = some .cell)) && sc.names.all (fun y => !decide (y.2 = .free) || decide (y.1 ∈ fr)) && fr.all (fun x => decide (sc.names.lookup x = some .free)) && sc.names.all (fun y => !decide (y.2 = .cell) || !decide (y.1 ∈ fr))
theorem nsc_by {N ps fr : List Str} {sc : Scope} (h : nscC N ps fr sc = true) : NSc N ps fr sc := by
  unfold nscC at h
  simp only [Bool.and_eq_true, Bool.not_eq_true', decide_eq_true_eq, List.all_eq_true, Bool.or_eq_true, decide_eq_false_iff_not] at h
  obtain ⟨⟨⟨⟨⟨⟨⟨⟨h1, h2⟩, h3⟩, h4⟩, h5⟩, h6⟩, h7⟩, h8⟩, h9⟩ := h
  exact ⟨h1, h2, h3, h4, h5, h6, fun y hy e => (h7 y hy).elim (fun z => absurd e z) id, h8, fun y hy e => (h9 y hy).elim (fun z => absurd e z) id⟩
abbrev envC (F : NF) (f L : Addr) : Env := PySem.W.envX F.qual F.scope L f (.ref F.c) (cellsFrom (L + 1) F.scope.names F.cl)
def cxC (P : Program) (w : World) (K : PySem.W.Frag) (mg : Str → Option Value) (base : Heap) (N : List Str) (F : NF) (f : Addr) (A : Around) (outer : List Env) (s : Shared) (H : Hp) : Cx where
  prog := P
  w := w
  K := K
  mg := mg
  base := base
  A := A.deeper (envC F f s.heap.objs.size)
  N := N
  s_0 := s
  H_0 := H
  env := envC F f s.heap.objs.size
  outer := outer
  stack := envC F f s.heap.objs.size :: outer
  ex := []
  calm := true
  fn := fun x => decide (F.scope.names.lookup x = some .cell)
  pn := []
  xe := fun _ _ => False
section
variable {P : Program} {w : World} {K : PySem.W.Frag} {mg : Str → Option Value} {base : Heap} {N ps fr : List Str} {F : NF} {f : Addr} {A : Around} {outer : List Env} {s : Shared} {H : Hp} {us : List Value} {vs : List V} {ws : List (Option V)}
theorem mem_own : ∀ {names : List (Str × NameKind)} {n : Nat} {x : Str} {c : Addr}, (x, c) ∈ cellsFrom n names [] → (x, NameKind.cell) ∈ names
  | [], _, _, _, h => by cases h
  | (y, k) :: r, n, x, c, h => by
    unfold cellsFrom at h
    split at h
    · rename_i hk
      rw [cellsFrom_app] at h
      rcases List.mem_append.mp h with h | h
      · exact List.mem_cons_of_mem _ (mem_own h)
      · have e := List.mem_singleton.mp h
        injection e with e1 e2
        subst e1
        have ek : k = .cell := eq_of_beq hk
        subst ek
        exact List.mem_cons_self
    · exact List.mem_cons_of_mem _ (mem_own h)
theorem look_two {own cl : List (Str × Addr)} {x : Str} {c : Addr} (h : (own ++ cl).lookup x = some c) : own.lookup x = some c ∨ (own.lookup x = none ∧ cl.lookup x = some c) := by
  rw [List.lookup_append] at h
  cases e : own.lookup x with
  | none =>
    rw [e] at h
    exact .inr ⟨rfl, h⟩
  | some d =>
    rw [e] at h
    exact .inl h
theorem inv_startC {s1 : Shared} (S : NSc N ps fr F.scope) (hd : A.handled = none) (e0 : Env0 P w K mg base A outer s H) (hl : vs.length = ps.length) (r : Vals vs us) (C : CellsAt F.cl fr ws s.heap H)
    (x : InCallC s s.heap.objs.size (bindL (envC F f s.heap.objs.size).kindOf (ps.zip us) fun _ => none) (cellsFrom (s.heap.objs.size + 1) F.scope.names []) (bindC (envC F f s.heap.objs.size).kindOf (ps.zip us) fun _ => none) s1) :
    Inv (cxC P w K mg base N F f A outer s H) [] (startF N vs ws) H s1 := by
  have hpl : ps.length + fr.length ≤ N.length := by
    have q := congrArg List.length S.pre
    rw [List.length_take, List.length_append] at q
    omega
  obtain ⟨h1, tk, rfl, hk⟩ := x.done
  have noA : ∀ b : Addr, b ∉ (cxC P w K mg base N F f A outer s H).ex := fun b z => absurd (show b ∈ ([] : List Addr) from z) (by simp)
  have eC : (cxC P w K mg base N F f A outer s H).env.cells = cellsFrom (s.heap.objs.size + 1) F.scope.names [] ++ F.cl := cellsFrom_app _ _ _
  have old : ∀ y c, F.cl.lookup y = some c → c < s.heap.objs.size := fun y c z => by
    obtain ⟨_, v, o, ho, _⟩ := C.all y c z
    exact Heap.lt_size ho
  have young : ∀ y c, (cellsFrom (s.heap.objs.size + 1) F.scope.names []).lookup y = some c → s.heap.objs.size < c := fun y c z => x.above y c (PySem.mem_of_lookup z)
  have ndP : ps.Nodup := by
    have q := S.nd.sublist (List.take_sublist (ps.length + fr.length) N)
    rw [S.pre] at q
    exact (List.nodup_append.mp q).1
  refine ⟨⟨e0.mod, S.kind, rfl, rfl, Nat.le_refl _, fun y z c a1 a2 => ?_, fun y hy => ?_, fun y c hfn h => ?_, fun _ => hd, Around.frames_deeper e0.frames, .inr ⟨rfl, rfl⟩, fun b z => absurd z (noA b), e0.bs, e0.bsz, fun b _ _ => noA b, fun b z => absurd z (noA b), e0.funs, e0.frf⟩,
    rfl, e0.bare, Un.kept hk, ⟨_, x.toInCall.ns, fun i y v a1 a2 a3 => ?_⟩, fun y c h => ?_, e0.hok.fresh (Nat.le_refl _), fun y c h => ?_, fun p hp => absurd (show p ∈ ([] : List (Addr × Obj)) from hp) (by simp), e0.hok.kept hk, ?_⟩
  · rw [eC] at a1 a2
    rcases look_two a1 with b1 | ⟨_, b1⟩ <;> rcases look_two a2 with b2 | ⟨_, b2⟩
    · exact name_of_addr x.apart (PySem.mem_of_lookup b1) (PySem.mem_of_lookup b2)
    · exact absurd (young y c b1) (Nat.not_lt_of_lt (old z c b2))
    · exact absurd (young z c b2) (Nat.not_lt_of_lt (old y c b1))
    · exact C.inj y z c b1 b2
  · have hy : F.scope.names.lookup y = some .cell ∨ F.scope.names.lookup y = some .free := hy
    show ∃ c, (cxC P w K mg base N F f A outer s H).env.cells.lookup y = some c
    rw [eC, List.lookup_append]
    rcases hy with hy | hy
    · obtain ⟨c, hc⟩ := cell_has (n := s.heap.objs.size + 1) hy
      exact ⟨c, by rw [hc] <;> rfl⟩
    · obtain ⟨i, hi⟩ := List.mem_iff_getElem?.mp (S.free _ (PySem.mem_of_lookup hy) rfl)
      obtain ⟨c, hc, _⟩ := C.has i y hi
      cases e : (cellsFrom (s.heap.objs.size + 1) F.scope.names []).lookup y with
      | none => exact ⟨c, hc⟩
      | some d => exact ⟨d, rfl⟩
  · have hfn : F.scope.names.lookup y = some .cell := of_decide_eq_true hfn
    rw [eC] at h
    obtain ⟨d, hd2⟩ := cell_has (n := s.heap.objs.size + 1) hfn
    rw [look_app hd2] at h
    cases h
    exact Nat.le_of_lt (young y _ hd2)
  · have a1 : N[i]? = some y := a1
    have clen := C.len
    unfold startF at a2
    by_cases h1 : i < ps.length
    · have hq : (ps ++ fr)[i]? = some y := by
        rw [← S.pre, List.getElem?_take_of_lt (by omega)]
        exact a1
      rw [List.getElem?_append_left h1] at hq
      rw [List.getElem?_append_left (by rw [List.length_map]; omega), List.getElem?_map] at a2
      have ha : vs[i]? = some v := by
        cases e : vs[i]? with
        | none => rw [e] at a2; cases a2
        | some a => rw [e] at a2; cases a2; rfl
      obtain ⟨u, hu, rv⟩ := r.get ha
      refine ⟨u, rv, ?_⟩
      rcases S.par y (List.mem_of_getElem? hq) with k | k
      · exact .inl ⟨k, bindL_get ndP hq hu k⟩
      · obtain ⟨c, e⟩ := cell_has (n := s.heap.objs.size + 1) k
        refine .inr ⟨.inl k, c, by rw [eC]; exact look_app e, ?_⟩
        have q := x.cell y c e
        rw [bindC_get ndP hq hu (by show F.scope.names.lookup y ≠ _; rw [k]; decide)] at q
        exact q
    · rw [List.getElem?_append_right (by rw [List.length_map]; omega), List.length_map] at a2
      by_cases h2 : i < ps.length + fr.length
      · have hq : (ps ++ fr)[i]? = some y := by
          rw [← S.pre, List.getElem?_take_of_lt (by omega)]
          exact a1
        rw [List.getElem?_append_right (by omega)] at hq
        rw [List.getElem?_append_left (by omega), hl] at a2
        obtain ⟨c, hc, hv⟩ := C.has (i - ps.length) y hq
        obtain ⟨u, ru, o, ho, hdt⟩ := hv v a2
        have no : (cellsFrom (s.heap.objs.size + 1) F.scope.names []).lookup y = none := by
          cases e : (cellsFrom (s.heap.objs.size + 1) F.scope.names []).lookup y with
          | none => rfl
          | some d => exact absurd (List.mem_of_getElem? hq) (S.cel _ (mem_own (PySem.mem_of_lookup e)) rfl)
        exact ⟨u, ru, .inr ⟨.inr (S.frk y (List.mem_of_getElem? hq)), c, by rw [eC, List.lookup_append, no]; exact hc, o, hk _ _ ho, hdt⟩⟩
      · rw [List.getElem?_append_right (by omega), List.getElem?_replicate] at a2
        split at a2 <;> cases a2
  · rw [eC] at h
    rcases look_two h with b1 | ⟨_, b1⟩
    · exact ⟨_, x.cell y c b1⟩
    · obtain ⟨_, v, o, ho, hdt⟩ := C.all y c b1
      exact ⟨v, o, hk _ _ ho, hdt⟩
  · rw [eC] at h
    rcases look_two h with b1 | ⟨_, b1⟩
    · exact e0.hok.fresh (Nat.le_of_lt (young y c b1))
    · exact (C.all y c b1).1
  · have clen := C.len
    unfold startF
    show _ = N.length
    rw [List.length_append, List.length_append, List.length_map, List.length_replicate]
    omega
/-- the closure at f: its function object, its cells cs, which hold the values vs of the captured names fr -/
structure ClosH (H : Hp) (f : Addr) (F : NF) (fr : List Str) (vs : List V) (cs : List (Addr × V)) : Prop where
  fn : H f = some (FnO f F)
  code : H F.c = some (CodeO F.c F.qual)
  len : vs.length = fr.length
  inj : ∀ x y c, F.cl.lookup x = some c → F.cl.lookup y = some c → x = y
  dom : ∀ y c, F.cl.lookup y = some c → ∃ v, cs.lookup c = some v
  at_ : ∀ (i : Nat) (y : Str), fr[i]? = some y → ∃ c v, F.cl.lookup y = some c ∧ vs[i]? = some v ∧ cs.lookup c = some v
  on : OnC cs H
theorem ClosH.cells {cs : List (Addr × V)} {vs0 : List V} (C : ClosH H f F fr vs0 cs) {h : Heap} (ok : HOk P w H h) : CellsAt F.cl fr (vs0.map some) h (hideC cs H) where
  len := by rw [List.length_map, C.len]
  all := fun y c e => by
    obtain ⟨v, hv⟩ := C.dom y c e
    obtain ⟨⟨u, _, hu⟩, _⟩ := ok c _ (C.on c v hv)
    exact ⟨hide_in hv, _, hu⟩
  inj := C.inj
  has := fun i y e => by
    obtain ⟨c, v, h1, h2, h3⟩ := C.at_ i y e
    refine ⟨c, h1, fun v' e' => ?_⟩
    rw [List.getElem?_map, h2] at e'
    cases e'
    obtain ⟨⟨u, ru, hu⟩, _⟩ := ok c _ (C.on c v h3)
    exact ⟨u, ru, hu⟩
theorem clos_call {k : Nat} {cs : List (Addr × V)} {vs0 : List V} {Q : VK} {E : XK} (S : NSc N ps fr F.scope) (hb : ∀ (doc pm ctv : Value) (us : List Value), us.length = ps.length → bindArgs (F.fd doc pm ctv) ⟨us, []⟩ = pure (ps.zip us))
    (hr : Room (k + 1) A) (e0 : Env0 P w K mg base A outer s H) (C : ClosH H f F fr vs0 cs) (r : Vals vs us) (hl : vs.length = ps.length)
    (hbody : Room k (A.deeper (envC F f s.heap.objs.size)) → ∃ t, PSs (cxC P w K mg base N F f A outer s (hideC cs H)) F.body t ∧ t { nx := fun _ H' => Q .non (trkC cs H'), rt := fun v H' => Q v (trkC cs H') } (startF N vs (vs0.map some)) (hideC cs H)) :
    codeAny (model P w) A (.call (.ref f) ⟨us, []⟩) (CR CX0 outer P w H s Q E) s := by
  have lim : s.heap.NoLimit := e0.mod.nolimit.keeps fun b o e => (e0.bs b o e).1
  obtain ⟨od, sl, doc, pm, ctv, ho⟩ := fnO_at e0.hok C.fn
  refine codeAny_call_function hr.depth ho rfl S.co S.gen rfl (codeO_at e0.hok C.code) ?_
  rw [hb doc pm ctv us (by rw [← r.length]; exact hl)]
  have hkind : ∀ y ∈ ps.zip us, F.scope.names.lookup y.1 = some .local ∨ (F.scope.names.lookup y.1 = some .cell ∧ ((cellsFrom (s.heap.objs.size + 1) F.scope.names []).lookup y.1).isSome = true) := fun ⟨n, v⟩ hy => by
    rcases S.par n (List.of_mem_zip hy).1 with q | q
    · exact .inl q
    · exact .inr ⟨q, PySem.W.cellsFrom_some _ _ _ (.inl q)⟩
  refine wpAny_pure (newEnv2 S.kind hkind fun env he s1 x => ?_)
  subst he
  refine ⟨lim.keeps x.toInCall.keep, codeAny_func ?_⟩
  have e1 := env0_hide e0 C.on
  have I : Inv (cxC P w K mg base N F f A outer s (hideC cs H)) [] (startF N vs (vs0.map some)) (hideC cs H) s1 := inv_startC S hr.hd e1 hl r (C.cells e0.hok) x
  obtain ⟨t, ht, hq⟩ := hbody (hr.deeper _)
  refine wpAny_mono (ht.run [] s1 _ _ _ I hq) (fun fl s' hs => ?_) fun e s' hs => hs.elim
  have fin : ∀ {σ' : L2.St} {H' : Hp} {v : V} {u : Value}, Inv (cxC P w K mg base N F f A outer s (hideC cs H)) [] σ' H' s' → L2.RelV v u → Q v (trkC cs H') → CE outer P w H s Q u s' :=
    fun {σ' H' v u} J rv q => ⟨v, trkC cs H', J.os, J.bare, un_trk C.on e0.frf J.base, ok_trk C.on e0.frf e0.hok J.base J.hok, rv, q⟩
  cases fl with
  | ret u =>
    obtain ⟨v, σ', H', J, rv, q⟩ := hs
    exact fin J rv q
  | next =>
    obtain ⟨σ', H', J, q⟩ := hs
    exact fin (v := V.non) (u := Value.none) J rfl q
  | brk =>
    obtain ⟨_, _, _, q⟩ := hs
    exact False.elim q
  | cont =>
    obtain ⟨_, _, _, q⟩ := hs
    exact False.elim q
end
end K76


set_option Elab.async false
set_option linter.all false
set_option maxRecDepth 100000
set_option maxHeartbeats 4000000
/-! A def that makes a closure and hands it back; a call of a name that holds one. -/
namespace K76
open PySem PySem.Spec PyProof.Rows L2 LamX NdefX
/-- the function at f may be called where R holds, with the promise sp -/
structure CallC (P : Program) (w : World) (K : PySem.W.Frag) (mg : Str → Option Value) (base : Heap) (k : Nat) (f : Addr) (R : Hp → Prop) (sp : Sp) : Prop where
  run : ∀ (A : Around) (outer : List Env) (s : Shared) (H : Hp) (us : List Value) (vs : List V) (Q : VK) (E : XK), Room k A → Env0 P w K mg base A outer s H → R H → Vals vs us → sp vs H Q E → codeAny (model P w) A (.call (.ref f) ⟨us, []⟩) (CR CX0 outer P w H s Q E) s
def tCallC (X : Cx) (i : Nat) (t : TA) : TE := fun σ H Q => ∃ (f : Addr) (F0 : NF) (k : Nat) (R : Hp → Prop) (sp : Sp), σ[i]? = some (some (.ref f)) ∧ H f = some (FnO f F0) ∧ CallC X.prog X.w X.K X.mg X.base k f R sp ∧ Room k X.A ∧
  t σ H fun vs H1 => H1 f = some (FnO f F0) ∧ R H1 ∧ sp vs H1 Q E0
section
variable {X : Cx} {i : Nat} {x : Str} {p pos : Pos} {e : Expr} {es : List Expr} {t : TA}
theorem pe_callC (hN : X.N[i]? = some x := by rfl) (hv : Vis X.env.scope x := by first | exact Or.inl rfl | exact Or.inr (Or.inl rfl) | exact Or.inr (Or.inr rfl)) (ha : PA X (e :: es) t)
    (hdb : (x == ("__debug__" : Str)) = false := by decide) (hcd : (x == ("__classdict__" : Str)) = false := by decide)
    (he : starEach (e :: es) X.env = (false, eval e X.env) :: starEach es X.env := by rfl) (hpl : (backTo pos (starEach es X.env)).any (·.1) = false := by rfl) : PE X (.Call (.Name x p) (e :: es) [] pos) (tCallC X i t) := by
  refine ⟨fun pins s σ H Q I h => ?_⟩
  obtain ⟨f, F0, k, R, sp, hs, hf, CC, hr, ht⟩ := h
  refine wpAny_Call_Name_kw (thn ((pe_var (pos := p) hN hv hdb hcd).run pins s σ H (fun v H1 => v = .ref f ∧ H1 = H) I ⟨.ref f, hs, rfl, rfl⟩) fun u s1 ⟨v, H1, I1, r1, q1⟩ => ?_)
  obtain ⟨ev, eH⟩ := q1
  subst ev
  rw [eH] at I1
  obtain rfl : u = Value.ref f := r1
  refine PySem.W.callWith_F (first := []) (fnAt_of I1 hf) (thn (ha.run pos pins s1 σ H _ I1 ht) fun us s2 ⟨vs, H2, I2, r, h1, hR, q⟩ => ⟨fnAt_of I2 h1, ?_⟩) he hpl
  show wpAny _ _ (call (.ref f) us) _ _ _
  refine wpAny_call (codeAny_mono (CC.run X.A X.stack s2 H2 us vs Q E0 hr I2.env0 hR r q) fun r s' hq => ?_)
  cases r with
  | error e => exact False.elim hq
  | ok fl =>
    cases fl with
    | ret u => exact I2.after hq
    | next => exact False.elim hq
    | brk => exact False.elim hq
    | cont => exact False.elim hq
end
/-! ### the maker -/
/-- what stands behind a maker's call: a closure of the def st, its captured names fr holding vs -/
structure MadeC (T : List NTab) (H H' : Hp) (f : Addr) (st : Stmt) (name qual : Str) (fr : List Str) (vs : List V) : Prop where
  clo : ∃ (cl : List (Str × Addr)) (c : Addr) (cs : List (Addr × V)), ClosH H' f (NF.of st name qual cl c) fr vs cs ∧ ∀ b v, cs.lookup b = some v → H b = none
  ext : ExtN H H'
  tabs : TabsN T H'
  new : H f = none
  old : ∀ b, H' b = none → H b = none
def spMk (T : List NTab) (n : Nat) (st : Stmt) (name qual : Str) (fr : List Str) (pick : List V → List V) : Sp := fun vs H Q _ => vs.length = n ∧ TabsN T H ∧ ∀ f H', MadeC T H H' f st name qual fr (pick vs) → Q (.ref f) H'
theorem look_mem {α : Type} {a : Addr} {v : α} : ∀ {l : List (Addr × α)}, l.lookup a = some v → (a, v) ∈ l
  | [], h => by cases h
  | (b, w) :: r, h => by
    by_cases e : a = b
    · subst e
      rw [List.lookup_cons, beq_self_eq_true] at h
      cases h
      exact List.mem_cons_self
    · rw [List.lookup_cons, beq_false_of_ne e] at h
      exact List.mem_cons_of_mem _ (look_mem h)
theorem look_has {α : Type} {a : Addr} {v : α} : ∀ {l : List (Addr × α)}, (a, v) ∈ l → ∃ v', l.lookup a = some v'
  | [], h => by cases h
  | (b, w) :: r, h => by
    by_cases e : a = b
    · subst e
      exact ⟨w, by rw [List.lookup_cons, beq_self_eq_true]⟩
    · rw [List.lookup_cons, beq_false_of_ne e]
      exact look_has ((List.mem_cons.mp h).resolve_left fun z => e (congrArg Prod.fst z))
section
variable {P : Program} {w : World} {K : PySem.W.Frag} {mg : Str → Option Value} {base : Heap} {x qual : Str} {params : Arguments} {body : List Stmt} {scope : Scope} {kws : List (Str × V)} {f : Addr} {fd : FuncData} {N ps fr : List Str} {st : Stmt} {name : Str} {T : List NTab} {dp : He.Defn}
/-- the cells of the names fr, with the values that the parameters hold -/
def capC (cells : List (Str × Addr)) (ps : List Str) (vs : List V) (fr : List Str) : List (Addr × V) := fr.filterMap fun y => match cells.lookup y, (ps.zip vs).lookup y with
  | some c, some v => some (c, v)
  | _, _ => none
theorem capC_mem {cells : List (Str × Addr)} {ps : List Str} {vs : List V} {fr : List Str} {c : Addr} {v : V} (h : (c, v) ∈ capC cells ps vs fr) : ∃ y ∈ fr, cells.lookup y = some c ∧ (ps.zip vs).lookup y = some v := by
  obtain ⟨y, hy, e⟩ := List.mem_filterMap.mp h
  refine ⟨y, hy, ?_⟩
  cases a : cells.lookup y with
  | none => rw [a] at e; cases e
  | some c' =>
    cases b : (ps.zip vs).lookup y with
    | none => rw [a, b] at e; cases e
    | some v' =>
      rw [a, b] at e
      have e2 := Option.some.inj e
      injection e2 with e3 e4
      subst e3 e4
      exact ⟨rfl, rfl⟩
theorem capC_look {cells : List (Str × Addr)} {ps : List Str} {vs : List V} {fr : List Str} (inj : ∀ x y c, cells.lookup x = some c → cells.lookup y = some c → x = y) {y : Str} {c : Addr} {v : V} (hy : y ∈ fr) (hc : cells.lookup y = some c) (hv : (ps.zip vs).lookup y = some v) : (capC cells ps vs fr).lookup c = some v := by
  have hm : (c, v) ∈ capC cells ps vs fr := List.mem_filterMap.mpr ⟨y, hy, by rw [hc, hv]⟩
  obtain ⟨v', e⟩ := look_has hm
  obtain ⟨z, _, h1, h2⟩ := capC_mem (look_mem e)
  have ez := inj z y c h1 hc
  subst ez
  rw [hv] at h2
  cases h2
  exact e
def capV (ps fr : List Str) (vs : List V) : List V := fr.map fun y => ((ps.zip vs).lookup y).getD .non
theorem trk_un {fs : List Addr} {H H1 : Hp} {h h' : Heap} {cs : List (Addr × V)} (hc : ∀ b v, cs.lookup b = some v → H1 b = none ∧ h.objs.size ≤ b) (u : Un fs [] H H1 h h') : Un fs [] H (trkC cs H1) h h' where
  keep := u.keep
  slot := u.slot
  free := fun b o q n hx => by
    cases e : cs.lookup b with
    | none => rw [trk_out e]; exact u.free b o q n hx
    | some v => exact absurd (Heap.lt_size q) (Nat.not_lt_of_le (hc b v e).2)
  there := u.there
  tups := fun b xs q => by
    have z := u.tups b xs q
    cases e : cs.lookup b with
    | none => rw [trk_out e]; exact z
    | some v => rw [(hc b v e).1] at z; cases z
  frzs := fun b o xs q => by
    have z := u.frzs b o xs q
    cases e : cs.lookup b with
    | none => rw [trk_out e]; exact z
    | some v => rw [(hc b v e).1] at z; cases z
  tbls := fun b ps q => by
    obtain ⟨more, z⟩ := u.tbls b ps q
    cases e : cs.lookup b with
    | none => exact ⟨more, by rw [trk_out e]; exact z⟩
    | some v => rw [(hc b v e).1] at z; cases z
theorem trk_ext {H1 : Hp} {cs : List (Addr × V)} (hc : ∀ b v, cs.lookup b = some v → H1 b = none) : ∀ b o, H1 b = some o → trkC cs H1 b = some o := fun b o z => by
  cases e : cs.lookup b with
  | none => rw [trk_out e]; exact z
  | some v => rw [hc b v e] at z; cases z
theorem trk_none {H1 : Hp} {cs : List (Addr × V)} {b : Addr} (h : trkC cs H1 b = none) : H1 b = none := by
  cases e : cs.lookup b with
  | none => rw [trk_out e] at h; exact h
  | some v => rw [trk_in e] at h; cases h
/-- what is asked of the maker's words, by decide -/
def mkB (ps fr : List Str) (scope nsc : Scope) : Bool := ndefB scope nsc fr && nsc.names.all (fun y => !decide (y.2 = .free) || decide (y.1 ∈ fr)) && fr.all (fun y => decide (y ∈ ps) && decide (scope.names.lookup y = some .cell)) && decide ps.Nodup
theorem idx_zip {ps : List Str} {vs : List V} {i : Nat} {y : Str} {v : V} (nd : ps.Nodup) (h1 : ps[i]? = some y) (h2 : vs[i]? = some v) : (ps.zip vs).lookup y = some v := by
  induction ps generalizing vs i with
  | nil => cases h1
  | cons a r ih =>
    cases vs with
    | nil => cases h2
    | cons b q =>
      cases i with
      | zero =>
        cases h1
        cases h2
        show List.lookup y ((y, v) :: r.zip q) = some v
        rw [List.lookup_cons, beq_self_eq_true]
      | succ i =>
        have hm : y ∈ r := List.mem_of_getElem? (show r[i]? = some y from h1)
        have ne : y ≠ a := fun e => (List.nodup_cons.mp nd).1 (e ▸ hm)
        show List.lookup y ((a, b) :: r.zip q) = some v
        rw [List.lookup_cons, beq_false_of_ne ne]
        exact ih (List.nodup_cons.mp nd).2 h1 h2
set_option maxHeartbeats 1000000 in
theorem mk_fn {k j : Nat} {p1 p2 pos : Pos} (F : FunD K x qual params [st, .Return (some (.Name name p1)) p2] scope [] kws f fd) (S : FnScope N ps scope) (hf : f = He.fAd K dp) (TB : TabB base mg (He.cT K dp).1 (He.cT K dp).2)
    (hst : st = .FunctionDef name (C8.fnArgs st) (C8.fnBody st) [] none [] (C8.fnScope st) none name pos) (hm : ((He.cT K dp).2, fun _ _ => (qual ++ ".<locals>.") ++ name) ∈ T) (hu : ∀ p ∈ T, p.1 = (He.cT K dp).2 → p.2 = fun _ _ => (qual ++ ".<locals>.") ++ name)
    (hb : mkB ps fr scope (C8.fnScope st) = true) (hd0 : (C8.fnArgs st).defaults = []) (hk0 : (C8.fnArgs st).kw_defaults = []) (ha : ∀ env, annTrees (C8.fnArgs st) none env = []) (hi : N[j]? = some name) (hx : scope.names.lookup name = some .local)
    (hcd1 : (name == ("__debug__" : Str)) = false := by decide) (hcd2 : (name == ("__classdict__" : Str)) = false := by decide) :
    FnOk P w K mg base CX0 (k + 1) f fd ps (spMk T ps.length st name ((qual ++ ".<locals>.") ++ name) fr (capV ps fr)) := by
  obtain ⟨oc, od, dV, kV, doc, pm, an, cdv, ct, osl, rfl, lk, hcd, _, _⟩ := F.ex
  obtain ⟨c0, ec⟩ := He.codeIn_ref hcd
  have ecd : (He.cT K dp).1 = c0 := by
    have lk2 := lk
    rw [hf] at lk2
    exact He.codeOf_eq lk2 ec
  unfold mkB at hb
  simp only [Bool.and_eq_true, decide_eq_true_eq] at hb
  obtain ⟨⟨⟨hb1, hb2⟩, hb3⟩, ndP⟩ := hb
  have hb2 : ∀ y ∈ (C8.fnScope st).names, y.2 = .free → y.1 ∈ fr := fun y hy e => by
    have q := List.all_eq_true.mp hb2 y hy
    simp only [Bool.or_eq_true, Bool.not_eq_true', decide_eq_true_eq, decide_eq_false_iff_not] at q
    exact q.elim (fun z => absurd e z) id
  have hb3 : ∀ y ∈ fr, y ∈ ps ∧ scope.names.lookup y = some .cell := fun y hy => by
    have q := List.all_eq_true.mp hb3 y hy
    simp only [Bool.and_eq_true, decide_eq_true_eq] at q
    exact q
  refine ⟨fun vs H Q E h => h.1, fun A outer s H args us vs Q E hr e0 hbd r hsp => ?_⟩
  obtain ⟨hl, hT, hQ⟩ := hsp
  have KX : K.In s.heap := e0.mod.kin.keeps fun b o e => (e0.bs b o e).1
  have lim : s.heap.NoLimit := e0.mod.nolimit.keeps fun b o e => (e0.bs b o e).1
  have hkind : ∀ y ∈ ps.zip us, scope.names.lookup y.1 = some .local ∨ (scope.names.lookup y.1 = some .cell ∧ ((cellsFrom (s.heap.objs.size + 1) scope.names []).lookup y.1).isSome = true) := fun ⟨n, v⟩ hy => by
    rcases S.par n (List.of_mem_zip hy).1 with q | q
    · exact .inl q
    · exact .inr ⟨q, PySem.W.cellsFrom_some _ _ _ (.inl q)⟩
  refine codeAny_call_function hr.depth (KX _ _ lk) rfl S.co S.gen rfl (PySem.W.codeRec_of KX hcd) (hbd _ _ _ _ ?_)
  refine wpAny_newFunctionEnv_cells S.kind hkind fun env he s1 x => ?_
  subst he
  refine ⟨lim.keeps x.toInCall.keep, codeAny_func ?_⟩
  have I : Inv (cxOf CX0 P w K mg base N qual scope f cdv A outer s H E) [] (start N vs) H s1 := inv_start S hr.hd e0 hl r x
  have TB' : TabB base mg c0 (He.cT K dp).2 := by rw [← ecd]; exact TB
  have young : ∀ y c, (cellsFrom (s.heap.objs.size + 1) scope.names []).lookup y = some c → s.heap.objs.size < c := fun y c z => x.above y c (PySem.mem_of_lookup z)
  have nN : N.Nodup := S.nd
  have jl : j < N.length := (List.getElem?_eq_some_iff.mp hi).1
  have hps1 := ps_ndefMS (X := cxOf CX0 P w K mg base N qual scope f cdv A outer s H E) (T := T) (nm := fun _ _ => (qual ++ ".<locals>.") ++ name) hst TB' ec hm rfl hu (ndef_free hb1) hd0 hk0 (ha _) nN hi (.inl hx) (.inr hx)
  have qn : (envOfC qual scope s.heap.objs.size f cdv).qual ++ name = (qual ++ ".<locals>.") ++ name := rfl
  let nf := NF.of st name ((qual ++ ".<locals>.") ++ name) (cloFrom (cellsFrom (s.heap.objs.size + 1) scope.names []) (C8.fnScope st).names [])
  refine wpAny_execs_cons (thn (hps1.run [] s1 _ _ ⟨fun σ H1 => ∃ (f1 c1 : Addr), σ = (start N vs).set j (some (.ref f1)) ∧ ExtN H H1 ∧ (∀ b, H1 b = none → H b = none) ∧ TabsN T H1 ∧ H f1 = none ∧ H1 f1 = some (FnO f1 (nf c1)) ∧ H1 c1 = some (CodeO c1 (nf c1).qual), fun _ _ => False, fun _ _ => False, fun _ _ => False⟩ I
    ⟨hT, fun f1 c1 H1 a1 a2 a3 a4 a5 a6 => ⟨f1, c1, rfl, a1, a2, a3, a4, a5, a6⟩⟩) fun fl s2 hs => ?_)
  cases fl with
  | ret u =>
    obtain ⟨_, _, _, _, _, q⟩ := hs
    exact False.elim q
  | brk =>
    obtain ⟨_, _, _, q⟩ := hs
    exact False.elim q
  | cont =>
    obtain ⟨_, _, _, q⟩ := hs
    exact False.elim q
  | next =>
    obtain ⟨σ1, H1, J, f1, c1, eσ, x1, x2, x3, x4, x5, x6⟩ := hs
    subst eσ
    have slen : (start N vs).length = N.length := I.len
    have sj : ((start N vs).set j (some (V.ref f1)))[j]? = some (some (.ref f1)) := by
      rw [List.getElem?_set_self (by rw [slen]; exact jl)]
    refine wpAny_execs_cons (wpAny_Return_some (thn ((pe_var (X := cxOf CX0 P w K mg base N qual scope f cdv A outer s H E) (pos := p1) hi (.inl hx) hcd1 hcd2).run [] s2 _ H1 (fun v H2 => v = .ref f1 ∧ H2 = H1) J ⟨.ref f1, sj, rfl, rfl⟩) fun u s3 hs => ?_))
    obtain ⟨v, H2, J2, rv, ev, eH⟩ := hs
    subst ev
    rw [eH] at J2
    -- the cells
    have eC : (cxOf CX0 P w K mg base N qual scope f cdv A outer s H E).env.cells = cellsFrom (s.heap.objs.size + 1) scope.names [] := rfl
    have hin : ∀ y ∈ fr, ∃ (i : Nat) (c : Addr) (v : V), ps[i]? = some y ∧ (cellsFrom (s.heap.objs.size + 1) scope.names []).lookup y = some c ∧ vs[i]? = some v ∧ (ps.zip vs).lookup y = some v ∧ ∃ u, RelV v u ∧ s3.heap.IsCell c (some u) := fun y hy => by
      obtain ⟨hp, hc⟩ := hb3 y hy
      obtain ⟨i, hi1⟩ := List.mem_iff_getElem?.mp hp
      obtain ⟨c, hc1⟩ := cell_has (n := s.heap.objs.size + 1) hc
      have il : i < vs.length := by rw [hl]; exact (List.getElem?_eq_some_iff.mp hi1).1
      have hv1 : vs[i]? = some vs[i] := List.getElem?_eq_getElem il
      refine ⟨i, c, vs[i], hi1, hc1, hv1, idx_zip ndP hi1 hv1, ?_⟩
      have hNi : N[i]? = some y := by
        have q := hi1
        rw [← S.pre, List.getElem?_take_of_lt (by rw [← hl]; exact il)] at q
        exact q
      have ji : j ≠ i := fun e => by
        subst e
        rw [hi] at hNi
        cases hNi
        rw [hx] at hc
        cases hc
      have si : ((start N vs).set j (some (V.ref f1)))[i]? = some (some vs[i]) := by
        rw [List.getElem?_set_ne ji]
        unfold L2.start
        rw [List.getElem?_append_left (by rw [List.length_map]; exact il), List.getElem?_map, hv1] <;> rfl
      obtain ⟨m, _, hloc⟩ := J2.loc
      obtain ⟨u, ru, lk3⟩ := hloc i y vs[i] hNi si (.inr (.inl hc))
      rcases lk3 with ⟨z, _⟩ | ⟨_, c', hc', hcell⟩
      · have z : scope.names.lookup y = some .local := z
        rw [hc] at z
        cases z
      · rw [eC, hc1] at hc'
        cases hc'
        exact ⟨u, ru, hcell⟩
    have csP : ∀ b v, (capC (cellsFrom (s.heap.objs.size + 1) scope.names []) ps vs fr).lookup b = some v → H1 b = none ∧ s.heap.objs.size ≤ b ∧ ∃ u, RelV v u ∧ s3.heap.IsCell b (some u) := fun b v e => by
      obtain ⟨y, hy, e1, e2⟩ := capC_mem (look_mem e)
      obtain ⟨i, c, v', h1, h2, h3, h4, h5⟩ := hin y hy
      rw [h2] at e1
      cases e1
      rw [h4] at e2
      cases e2
      exact ⟨J2.freeC y _ h2, Nat.le_of_lt (young y _ h2), h5⟩
    refine ⟨.ref f1, trkC (capC (cellsFrom (s.heap.objs.size + 1) scope.names []) ps vs fr) H1, J2.os, J2.bare, trk_un (fun b v e => ⟨(csP b v e).1, (csP b v e).2.1⟩) J2.base, trk_ok J2.hok fun b v e => ⟨(csP b v e).1, (csP b v e).2.2⟩, rv, hQ f1 _ ?_⟩
    have te := trk_ext (H1 := H1) fun b v e => (csP b v e).1
    have nfree : ∀ y ∈ (C8.fnScope st).names, y.2 = .free → ∃ c, (cellsFrom (s.heap.objs.size + 1) scope.names []).lookup y.1 = some c := fun y hy e => by
      obtain ⟨i, c, v, _, h2, _⟩ := hin y.1 (hb2 y hy e)
      exact ⟨c, h2⟩
    have inj : ∀ x y c, (cellsFrom (s.heap.objs.size + 1) scope.names []).lookup x = some c → (cellsFrom (s.heap.objs.size + 1) scope.names []).lookup y = some c → x = y := fun x y c h1 h2 => J2.ok.inj x y c h1 h2
    refine ⟨⟨_, c1, _, ⟨te _ _ x5, te _ _ x6, ?_, fun x y c h1 h2 => inj x y c (clo_cm nfree h1) (clo_cm nfree h2), fun y c h1 => ?_, fun i y hy => ?_, fun b v e => trk_in e⟩, fun b v e => x2 b (csP b v e).1⟩, fun b o e n => te b o (x1 b o e n), x3.ext te, x4, fun b e => x2 b (trk_none e)⟩
    · unfold capV
      rw [List.length_map]
    · have h2 := clo_cm nfree h1
      have hyf : y ∈ fr := by
        rcases cloFrom_mem (PySem.mem_of_lookup h1) with hm1 | ⟨hm1, _⟩
        · cases hm1
        · exact hb2 _ hm1 rfl
      obtain ⟨i, c', v, g1, g2, g3, g4, _⟩ := hin y hyf
      rw [h2] at g2
      cases g2
      exact ⟨v, capC_look inj hyf h2 g4⟩
    · have hyf := List.mem_of_getElem? hy
      obtain ⟨i', c', v, g1, g2, g3, g4, _⟩ := hin y hyf
      refine ⟨c', v, clo_has nfree (ndef_fr hb1 y hyf) g2, ?_, capC_look inj hyf g2 g4⟩
      unfold capV
      rw [List.getElem?_map, hy]
      show some (((ps.zip vs).lookup y).getD .non) = some v
      rw [g4] <;> rfl
end
end K76


set_option Elab.async false
set_option linter.all false
set_option maxRecDepth 100000
set_option maxHeartbeats 4000000
/-! isinstance of a closure, != with a closure, repr of plain data where no repr is under way; defs of which that is known. -/
namespace K76
open PySem PySem.Spec PyProof.Rows L2 LamX NdefX
/-! ### isinstance(f, T) -/
def rIsiF (K : PySem.W.Frag) : List V → Hp → VK → Prop := fun xs H Q => ∃ (f : Addr) (F : NF) (c : V) (u : Value) (b : Bool), xs = [.ref f, c] ∧ H f = some (FnO f F) ∧ ClsV c u ∧ PySem.W.kitOne K (.type "function") u = some b ∧ Q (.bl b) H
theorem cr_isiF {X : Cx} : CallR X (.builtin "isinstance") (rIsiF X.K) := by
  intro pins s σ H xs us Q I r h
  obtain ⟨f, F, c, u, b, rfl, hf, k, e, q⟩ := h
  obtain ⟨u1, u2, rfl, r1, r2⟩ := vals2 r
  have e2 := k.eq r2
  subst e2
  obtain rfl : u1 = Value.ref f := r1
  obtain ⟨od, sl, doc, pm, ctv, ho⟩ := fnO_at I.hok hf
  exact PySem.W.kia_one kitx_f I.kIn ⟨_, ho, rfl⟩ e (fun z => nomatch z) fun tk => ⟨.bl b, H, I.tok tk, rfl, q⟩
/-- .. of either kind: what may be asked of a chooser -/
def rIsiE (K : PySem.W.Frag) : List V → Hp → VK → Prop := fun xs H Q => rIsiF K xs H Q ∨ rIsi K xs H Q
theorem cr_isiE {X : Cx} : CallR X (.builtin "isinstance") (rIsiE X.K) := by
  intro pins s σ H xs us Q I r h
  rcases h with h | h
  · exact cr_isiF pins s σ H xs us Q I r h
  · exact call_isi pins s σ H xs us Q I r h
/-! ### f != g -/
def rNeF (K : PySem.W.Frag) : R2 := fun x y H Q => ∃ (b : Addr) (G : NF), y = .ref b ∧ H b = some (FnO b G) ∧
  ((∃ (a : Addr) (F : NF), x = .ref a ∧ H a = some (FnO a F) ∧ Q (.bl (!decide (a = b))) H) ∨ (∃ (a : Addr) (xs : List V), x = .ref a ∧ SqT K H a xs ∧ Q (.bl true) H))
theorem op_neF {X : Cx} (hu : X.A.units + 64 < cLine) : OpR X (compareOp .NotEq) (rNeF X.K) := by
  intro pins s σ H x y v u Q I rx ry h
  obtain ⟨b, G, rfl, hb, h⟩ := h
  obtain rfl : u = Value.ref b := ry
  obtain ⟨od, sl, doc, pm, ctv, ho⟩ := fnO_at I.hok hb
  rcases h with ⟨a, F, rfl, ha, q⟩ | ⟨a, xs, rfl, ha, q⟩
  · obtain rfl : v = Value.ref a := rx
    obtain ⟨od2, sl2, doc2, pm2, ctv2, ho2⟩ := fnO_at I.hok ha
    exact ff_ne (by omega) ho2 rfl ho rfl ⟨.bl _, H, I, rfl, q⟩
  · obtain rfl : v = Value.ref a := rx
    obtain ⟨its, rv, hl, _⟩ := I.tuple ha
    exact tf_ne (by omega) hl ho rfl ⟨.bl true, H, I, rfl, q⟩
/-! ### repr -/
def rReprD (K : PySem.W.Frag) : List V → Hp → VK → Prop := fun xs H Q => ∃ (a : Addr) (d : PyData), xs = [.ref a] ∧ Dp K H (.ref a) d ∧ d.showable = true ∧ d.hasDict = false ∧ d.depth ≤ 64 ∧ d.shown.length ≤ sizeLine ∧ Q (.str d.shown) H
theorem cr_reprD {X : Cx} (hg : X.A.guards = some []) (hu : X.A.units + 80 < cLine) : CallR X (.builtin "repr") (rReprD X.K) := by
  intro pins s σ H xs us Q I r h
  obtain ⟨a, d, rfl, hd, h1, h2, h3, h4, q⟩ := h
  rw [Vals.ref1 r]
  obtain ⟨as, hr⟩ := Dp.reads I d (.ref a) (.ref a) hd rfl
  exact repr_of_reads' hr h1 (PyData.noDict_hsm h2) hg (by omega) (fun _ _ e => e) (fun h' u tk hk => ⟨.str _, H, I.kept hk, ⟨u, rfl⟩, q⟩) h4
/-! ### defs run where no repr is under way -/
structure FnOkG (P : Program) (w : World) (K : PySem.W.Frag) (mg : Str → Option Value) (base : Heap) (k : Nat) (f : Addr) (fd : FuncData) (ps : List Str) (sp : Sp) : Prop where
  len : ∀ vs H Q E, sp vs H Q E → vs.length = ps.length
  run : ∀ (A : Around) (outer : List Env) (s : Shared) (H : Hp) (args : Args) (us : List Value) (vs : List V) (Q : VK) (E : XK), A.guards = some [] → Room k A → Env0 P w K mg base A outer s H → BindsTo s fd args (ps.zip us) → Vals vs us → sp vs H Q E →
    codeAny (model P w) A (.call (.ref f) args) (CR CX0 outer P w H s Q E) s
section
variable {P : Program} {w : World} {K : PySem.W.Frag} {mg : Str → Option Value} {base : Heap} {x qual : Str} {params : Arguments} {body : List Stmt} {scope : Scope} {kws : List (Str × V)} {dvs : List V} {f : Addr} {fd : FuncData} {N ps : List Str} {k : Nat} {sp : Sp}
/-- the rule of FunD.ok, with what is under way -/
theorem okG (F : FunD K x qual params body scope dvs kws f fd) (S : FnScope N ps scope) (len : ∀ vs H Q E, sp vs H Q E → vs.length = ps.length)
    (hbody : ∀ (cdv : Value) (A : Around) (outer : List Env) (s : Shared) (H : Hp) (vs : List V) (Q : VK) (E : XK), (A.deeper (envOfC qual scope s.heap.objs.size f cdv)).guards = some [] → Room k (A.deeper (envOfC qual scope s.heap.objs.size f cdv)) → sp vs H Q E →
      ∃ t, PSs (cxOf CX0 P w K mg base N qual scope f cdv A outer s H E) body t ∧ t { nx := fun _ H' => Q .non H', rt := Q } (start N vs) H) : FnOkG P w K mg base (k + 1) f fd ps sp := by
  obtain ⟨oc, od, dV, kV, doc, pm, an, cdv, ct, osl, rfl, lk, hcd, _, _⟩ := F.ex
  refine ⟨len, fun A outer s H args us vs Q E hg hr e0 hb r hsp => ?_⟩
  have hl := len _ _ _ _ hsp
  have KX : K.In s.heap := e0.mod.kin.keeps fun b o e => (e0.bs b o e).1
  have lim : s.heap.NoLimit := e0.mod.nolimit.keeps fun b o e => (e0.bs b o e).1
  have hkind : ∀ y ∈ ps.zip us, scope.names.lookup y.1 = some .local ∨ (scope.names.lookup y.1 = some .cell ∧ ((cellsFrom (s.heap.objs.size + 1) scope.names []).lookup y.1).isSome = true) := fun ⟨n, v⟩ hy => by
    rcases S.par n (List.of_mem_zip hy).1 with q | q
    · exact .inl q
    · exact .inr ⟨q, PySem.W.cellsFrom_some _ _ _ (.inl q)⟩
  refine codeAny_call_function hr.depth (KX _ _ lk) rfl S.co S.gen rfl (PySem.W.codeRec_of KX hcd) (hb _ _ _ _ ?_)
  refine wpAny_newFunctionEnv_cells S.kind hkind fun env he s1 x => ?_
  subst he
  refine ⟨lim.keeps x.toInCall.keep, codeAny_func ?_⟩
  obtain ⟨t, ht, hq⟩ := hbody cdv A outer s H vs Q E hg (hr.deeper _) hsp
  have I : Inv (cxOf CX0 P w K mg base N qual scope f cdv A outer s H E) [] (start N vs) H s1 := inv_start S hr.hd e0 hl r x
  refine wpAny_mono (ht.run [] s1 (start N vs) H _ I hq) (fun fl s' hs => ?_) fun e s' hs => hs
  have fin : ∀ {σ' : L2.St} {H' : Hp} {v : V} {u : Value}, Inv (cxOf CX0 P w K mg base N qual scope f cdv A outer s H E) [] σ' H' s' → RelV v u → Q v H' → CE outer P w H s Q u s' :=
    fun {σ' H' v u} J rv q => ⟨v, H', J.os, J.bare, J.base, J.hok, rv, q⟩
  cases fl with
  | ret u =>
    obtain ⟨v, σ', H', J, rv, q⟩ := hs
    exact fin J rv q
  | next =>
    obtain ⟨σ', H', J, q⟩ := hs
    exact fin (v := V.non) (u := Value.none) J rfl q
  | brk =>
    obtain ⟨_, _, _, q⟩ := hs
    exact False.elim q
  | cont =>
    obtain ⟨_, _, _, q⟩ := hs
    exact False.elim q
end
section
variable {X : Cx} {k : Nat} {f : Addr} {fd : FuncData} {ps : List Str} {sp : Sp} {x : Str} {p pos : Pos} {e : Expr} {es : List Expr} {t : TA}
/-- a call of such a def: all its parameters are given -/
theorem pe_callG (F : FnOkG X.prog X.w X.K X.mg X.base k f fd ps sp) (hgd : X.A.guards = some []) (hr : Room k X.A) (hg : Gl X x) (hm : X.mg x = some (.ref f)) (hk : PySem.W.keepIn X.K (.ref f) = true) (hb : Binds X.K fd ps [])
    (ha : PA X (e :: es) t) (hdb : (x == ("__debug__" : Str)) = false := by decide) (he : starEach (e :: es) X.env = (false, eval e X.env) :: starEach es X.env := by rfl) (hpl : (backTo pos (starEach es X.env)).any (·.1) = false := by rfl) :
    PE X (.Call (.Name x p) (e :: es) [] pos) (tCall sp [] E0 t) := by
  refine ⟨fun pins s σ H Q I h => ?_⟩
  refine wpAny_Call_Name_kw (ld_glob I hg hm ?_ hdb)
  refine PySem.W.callWith_K (h₀ := X.base) I.ok.mod.kin hk (thn (ha.run pos pins s σ H _ I h) fun us s1 ⟨vs, H1, I1, r, q⟩ => ⟨I1.kIn, ?_⟩) he hpl
  have q : sp (vs ++ []) H1 Q E0 := q
  rw [List.append_nil] at q
  have hl : us.length = ps.length := by rw [← r.length]; exact F.len _ _ _ _ q
  have b := hb s1 us I1.kIn (by rw [List.append_nil]; exact hl)
  rw [List.append_nil] at b
  refine wpAny_call (codeAny_mono (F.run X.A X.stack s1 H1 ⟨us, []⟩ us vs Q E0 hgd hr I1.env0 b r q) fun r s' hq => ?_)
  cases r with
  | error e => exact False.elim hq
  | ok fl =>
    cases fl with
    | ret u => exact I1.after hq
    | next => exact False.elim hq
    | brk => exact False.elim hq
    | cont => exact False.elim hq
end
end K76


set_option Elab.async false
set_option linter.all false
set_option maxRecDepth 100000
set_option maxHeartbeats 4000000
/-! The end of a law row where it is known that no repr is under way (turned from the library's end with tables). -/
namespace K76
open PySem PySem.Spec PyProof.Rows L2 LamX NdefX
theorem law_callG {P : Program} {w : World} {K : PySem.W.Frag} {mg mb : Str → Option Value} {k : Nat} {fa a : Addr} {cs : List (Addr × Addr)} {fd : FuncData} {x : Str} {sp : Sp} {s₁ : Shared} {vs : List Value} {ns : List Int}
    (KX : K.In s₁.heap) (hns : s₁.heap.Ns mainGlobals mg) (hb : s₁.heap.Ns builtinsNs mb) (hbb : ∀ x : Str, x ≠ "__name__" → mb x = bootBuiltins x) (hlim : s₁.heap.NoLimit) (hg : s₁.gens = #[])
    (hT : ∀ p ∈ cs, s₁.heap.get? p.2 = some { cls := .none, data := .fields #[] }) (nT : ∀ p ∈ cs, K.lookup p.2 = none) (C : ∀ p ∈ cs, PySem.W.CodeHd s₁.heap p.1 p.2)
    (hbm : ∃ (bm : Addr) (ob : Obj), mg "__builtins__" = some (.ref bm) ∧ bm ≠ builtinsNs ∧ s₁.heap.get? bm = some ob ∧ ob.cls = .type "module" ∧ ob.dict = some builtinsNs ∧ ob.data = .plain)
    (ha : s₁.heap.get? a = some { cls := .type "list", data := .seq vs.toArray }) (hi : IntsAre vs ns) (hl : ns.length ≤ sizeLine) (hr : Room k callerA)
    (F : ∀ base : Heap, K.In base → base.Ns mainGlobals mg → (∀ p ∈ cs, TabB base mg p.1 p.2) → FnOkG P w K mg base k fa fd [x] sp) (hbind : ∀ (s : Shared) (u : Value), BindsTo s fd ⟨[u], []⟩ [(x, u)])
    (hsp : ∀ H : Hp, (∀ p ∈ cs, H p.2 = some (.tbl #[])) → SqL K H a (ns.map V.int) → sp [.ref a] H (fun v _ => v = .bl true) E0) :
    codeAny (model P w) callerA (.call (.ref fa) ⟨[.ref a], []⟩) (fun r s' => r = .ok (.ret (.bool true)) ∧ OldK s₁.heap s'.heap ∧ s'.os = s₁.os ∧ AllBare s'.gens) s₁ := by
  have rv := vals_ints hi
  have lenV := hi.length
  have isT : ∀ b : Addr, b ∈ cs.map (·.2) → s₁.heap.get? b = some { cls := .none, data := .fields #[] } := fun b hb => by
    obtain ⟨p, hp, e⟩ := List.mem_map.mp hb
    rw [← e]
    exact hT p hp
  have aT : a ∉ cs.map (·.2) := fun z => by
    have q := isT a z
    rw [ha] at q
    have z' : Data.seq vs.toArray _ = Data.fields #[] := congrArg Obj.data (Option.some.inj q)
    cases z'
  have memT : ∀ p ∈ cs, p.2 ∈ cs.map (·.2) := fun p hp => List.mem_map.mpr ⟨p, hp, rfl⟩
  -- from an abstract heap in which nothing but the script and the tables may be tracked
  have core : ∀ H : Hp, (∀ p ∈ cs, H p.2 = some (.tbl #[])) → (∀ b, H b = none ∨ b ∈ cs.map (·.2) ∨ ∃ o xs, H b = some (.frz o (.lst xs))) → SqL K H a (ns.map V.int) → HOk P w H s₁.heap → (∀ b, H b ≠ none → b = a ∨ b ∈ cs.map (·.2)) → (H a ≠ none → K.lookup a = none) →
      codeAny (model P w) callerA (.call (.ref fa) ⟨[.ref a], []⟩) (fun r s' => r = .ok (.ret (.bool true)) ∧ OldK s₁.heap s'.heap ∧ s'.os = s₁.os ∧ AllBare s'.gens) s₁ := by
    intro H hH hO hS hok hA hK
    have base_of : ∀ {b : Addr} {o : Obj}, s₁.heap.get? b = some o → H b = none → (hidT s₁.heap H).get? b = some o := fun e n => hidT_get e n
    have noD : ∀ {b : Addr} {o : Obj}, s₁.heap.get? b = some o → (∀ vs n, o.data ≠ .seq vs n) → o.data ≠ .fields #[] → H b = none := fun {b o} e h1 h2 => by
      cases q : H b with
      | none => rfl
      | some u =>
        rcases hA b (by rw [q]; simp) with e' | e'
        · rw [e', ha] at e
          cases e
          exact (h1 _ _ rfl).elim
        · rw [isT b e'] at e
          cases e
          exact (h2 rfl).elim
    have noA : ∀ {b : Addr} {o : Obj} {es : Array DictEntry} {ep : Nat}, s₁.heap.get? b = some o → o.data = .dict es ep → H b = none := fun {b o es ep} e d => by
      refine noD e (fun vs n z => ?_) fun z => ?_
      · rw [d] at z
        cases z
      · rw [d] at z
        cases z
    have nsK : ∀ {b : Addr} {m : Str → Option Value}, s₁.heap.Ns b m → (hidT s₁.heap H).Ns b m := fun {b m} ⟨o, es, ep, e, d, r⟩ => ⟨o, es, ep, base_of e (noA e d), d, r⟩
    have hKb : K.In (hidT s₁.heap H) := fun b o e => base_of (KX b o e) (by
      cases q : H b with
      | none => rfl
      | some u =>
        rcases hA b (by rw [q]; simp) with e' | e'
        · rw [e'] at e q
          rw [hK (by rw [q]; simp)] at e
          cases e
        · obtain ⟨p, hp, ep⟩ := List.mem_map.mp e'
          rw [← ep, nT p hp] at e
          cases e)
    have hM : L2.Mod K mg (hidT s₁.heap H) := ⟨hKb, nsK hns, ⟨mb, nsK hb, hbb⟩, let ⟨mc, h1, h2⟩ := hlim; ⟨mc, nsK h1, h2⟩⟩
    have TB : ∀ p ∈ cs, TabB (hidT s₁.heap H) mg p.1 p.2 := fun p hp => by
      have hTp := hT p hp
      refine ⟨?_, ?_, fun z => ?_⟩
      · obtain ⟨o, us, file, tf, flags, tg, inF, text, tt, e1, r1, r2, r3, r4, r5, r6, r7, r8, hne⟩ := C p hp
        refine ⟨o, us, file, tf, flags, tg, inF, text, tt, base_of e1 (noD e1 (fun vs n z => ?_) fun z => ?_), r1, r2, r3, r4, r5, r6, r7, r8, hne⟩
        · rw [r2] at z
          cases z
        · rw [r2] at z
          cases z
          simp at r3
      · obtain ⟨bm, ob, b1, b2, b3, b4, b5, b6⟩ := hbm
        have nG : bm ≠ mainGlobals := fun q => by
          obtain ⟨o, es, ep, e, hd, _⟩ := hns
          rw [q, e] at b3
          cases b3
          rw [hd] at b6
          cases b6
        have nP : bm ≠ p.2 := fun q => by
          rw [q, hTp] at b3
          cases b3
          cases b6
        refine ⟨bm, ob, b1, b2, nG, nP, base_of b3 (noD b3 (fun vs n z => ?_) fun z => ?_), b4, b5, b6⟩
        · rw [b6] at z
          cases z
        · rw [b6] at z
          cases z
      · obtain ⟨o, es, ep, e, hd, _⟩ := hns
        rw [z, hTp] at e
        cases e
        cases hd
    have e0 : Env0 P w K mg (hidT s₁.heap H) callerA [] s₁ H := ⟨rfl, hM, fun b o e => of_hidT e, Nat.le_of_eq (hidT_size _ _), trivial, fun b hb => absurd (show b ∈ ([] : List Addr) from hb) (by simp), hok, .of_eq hg⟩
    refine codeAny_mono ((F _ hKb (nsK hns) TB).run callerA [] s₁ H ⟨[.ref a], []⟩ [.ref a] [.ref a] _ _ rfl hr e0 (hbind s₁ (.ref a)) (.cons rfl .nil) (hsp H hH hS)) fun r s' h => ?_
    cases r with
    | error e => exact False.elim h
    | ok fl =>
      cases fl with
      | next => exact False.elim h
      | brk => exact False.elim h
      | cont => exact False.elim h
      | ret u =>
        obtain ⟨v, H', os, bare, un, hok', r', q⟩ := h
        have q' : v = .bl true := q
        subst q'
        obtain rfl : u = Value.bool true := r'
        have key : ∀ b o, b ∉ cs.map (·.2) → s₁.heap.get? b = some o → s'.heap.get? b = some o := fun b o nb e => by
          cases q : H b with
          | none => exact un.keep b o e q (by intro z; exact absurd (show b ∈ ([] : List Addr) from z) (by simp)) (by simp)
          | some u =>
            rcases hO b with z | z | ⟨ob, xs, z⟩
            · rw [q] at z; cases z
            · exact absurd z nb
            · have z2 := un.frzs b ob _ z
              obtain ⟨e1, _⟩ := hok b _ z
              obtain ⟨e2, _⟩ := hok' b _ z2
              rw [e] at e1; cases e1
              exact e2
        have grown : ∀ p ∈ cs, ∃ more : Array Value, s'.heap.get? p.2 = some { cls := .none, data := .fields more } := fun p hp => by
          obtain ⟨more, z⟩ := un.tbls p.2 #[] (hH p hp)
          exact ⟨_, hok' p.2 _ z⟩
        refine ⟨rfl, ⟨fun b o e => ?_, fun b o e => ?_⟩, os, bare⟩
        · by_cases hb : b ∈ cs.map (·.2)
          · obtain ⟨p, hp, ep⟩ := List.mem_map.mp hb
            obtain ⟨more, hm⟩ := grown p hp
            rw [← ep] at e ⊢
            rw [hT p hp] at e
            cases e
            exact .inr (.inl ⟨((C p hp).tab (hT p hp)).isCodeTable, rfl, #[], more, rfl, by rw [Array.empty_append]; exact hm⟩)
          · exact .inl (key b o hb e)
        · by_cases hb : b ∈ cs.map (·.2)
          · obtain ⟨p, hp, ep⟩ := List.mem_map.mp hb
            obtain ⟨more, hm⟩ := grown p hp
            rw [← ep]
            exact ⟨_, hm⟩
          · exact ⟨o, key b o hb e⟩
  cases hk : K.lookup a with
  | some o =>
    have e := KX a o hk
    rw [ha] at e
    cases e
    refine core (fun b => if b ∈ cs.map (·.2) then some (.tbl #[]) else none) (fun p hp => if_pos (memT p hp)) (fun b => ?_) (.inr ⟨_, vs.toArray, _, hk, rfl, rfl, rfl, by rw [List.size_toArray, lenV]; exact hl, by simpa using rv⟩) (fun b u z => ?_) (fun b z => ?_) fun z => absurd (show (if a ∈ cs.map (·.2) then some (HO.tbl #[]) else none) = none from if_neg aT) z
    · by_cases hb : b ∈ cs.map (·.2)
      · exact .inr (.inl hb)
      · exact .inl (if_neg hb)
    · by_cases hb : b ∈ cs.map (·.2)
      · have z' := (if_pos hb).symm.trans z
        cases z'
        exact isT b hb
      · have z' := (if_neg hb).symm.trans z
        cases z'
    · by_cases hb : b ∈ cs.map (·.2)
      · exact .inr hb
      · exact absurd (if_neg hb) z
  | none =>
    refine core (fun b => if b = a then some (.frz { cls := .type "list", data := .seq vs.toArray } (.lst (ns.map V.int))) else if b ∈ cs.map (·.2) then some (.tbl #[]) else none) (fun p hp => (if_neg (show ¬ p.2 = a from fun z => aT (by rw [← z]; exact memT p hp))).trans (if_pos (memT p hp))) (fun b => ?_)
      (.inl (.inr ⟨{ cls := .type "list", data := .seq vs.toArray }, if_pos rfl⟩)) (fun b u z => ?_) (fun b z => ?_) fun _ => hk
    · by_cases hb : b = a
      · exact .inr (.inr ⟨_, _, if_pos hb⟩)
      · by_cases hb2 : b ∈ cs.map (·.2)
        · exact .inr (.inl hb2)
        · exact .inl ((if_neg hb).trans (if_neg hb2))
    · by_cases hb : b = a
      · have z' := (if_pos hb).symm.trans z
        cases z'
        rw [hb]
        exact ⟨ha, by rw [List.length_map]; exact hl, vs, _, rv, ha⟩
      · have z1 := (if_neg hb).symm.trans z
        by_cases hb2 : b ∈ cs.map (·.2)
        · have z' := (if_pos hb2).symm.trans z1
          cases z'
          exact isT b hb2
        · have z' := (if_neg hb2).symm.trans z1
          cases z'
    · by_cases hb : b = a
      · exact .inl hb
      · by_cases hb2 : b ∈ cs.map (·.2)
        · exact .inr hb2
        · exact absurd ((if_neg hb).trans (if_neg hb2)) z
/-- the promise at the head's heap h, of a def that asks that no repr be under way -/
def LawAtG (l : PySem.W.OpenLaw) (w : World) (K : PySem.W.Frag) (k n : Nat) (x : Str) (mg : Str → Option Value) (fa : Addr) (h : Heap) : Prop :=
  ∃ (fd : FuncData) (cs : List (Addr × Addr)) (sp : Sp), (∀ p ∈ cs, h.get? p.2 = some { cls := .none, data := .fields #[] }) ∧ (∀ p ∈ cs, K.lookup p.2 = none) ∧ (∀ p ∈ cs, PySem.W.CodeHd h p.1 p.2) ∧ (∀ (s : Shared) (u : Value), BindsTo s fd ⟨[u], []⟩ [(x, u)]) ∧
    (∀ (H : Hp) (a : Addr) (ns : List Int), ns.length ≤ n → (∀ z ∈ ns, Builtin.Int.intBits z ≤ 1048576) → (∀ p ∈ cs, H p.2 = some (.tbl #[])) → SqL K H a (ns.map V.int) → sp [.ref a] H (fun v _ => v = .bl true) E0) ∧
    ∀ base : Heap, K.In base → base.Ns mainGlobals mg → (∀ p ∈ cs, TabB base mg p.1 p.2) → FnOkG l.prog w K mg base k fa fd [x] sp
theorem walk_ofG {l : PySem.W.OpenLaw} {n k : Nat} {q : Program} {loose : List Str} {XP : (Str → Option Value) → Heap → Prop} {YP : World → Heap → Prop} {d : DefRec} {x : Str} (hn : l.most = some n) (hn2 : n ≤ sizeLine) (hdf : d.params.defaults = []) (hr : Room k callerA)
    (F : ∀ (w : World) (mg : Str → Option Value) (fa : Addr) (h : Heap), YP w h → h.Ns mainGlobals mg → mg d.name = some (.ref fa) → ∃ K : PySem.W.Frag, K.In h ∧ LawAtG l w K k n x mg fa h) :
    PySem.W.WalkO q loose XP YP l.row.toRowW d [] (fun f vs => PySem.call f vs) := by
  refine Att.attach_callB hn hdf fun w s₀ s₁ mg mb fa o pm cd doc a vs ns G Y ho hd hcd hmg hobj hints hlen hbits hg => ?_
  obtain ⟨K, KX, fd, cs, sp, hT, nT, C, hb, hsp, hF⟩ := F w mg fa _ Y G.T.g hmg
  exact law_callG KX G.T.g G.T.b G.T.builtins G.T.nolimit hg hT nT C G.T.bmain hobj hints (Nat.le_trans hlen hn2) hr hF hb (fun H hH hS => hsp H a ns hlen hbits hH hS)
end K76


set_option Elab.async false
set_option linter.all false
set_option maxRecDepth 100000
set_option maxHeartbeats 4000000
/-! What the head tells, by names; each def by its body. -/
namespace K76
open PySem PySem.Spec PyProof.Rows L2 LamX NdefX
structure Tx (K : PySem.W.Frag) (mg : Str → Option Value) : Prop where
  df : ∀ d ∈ fnL, ∃ fd, FunD K d.name d.qual d.params d.body d.scope (d.dvs K) (d.kws K) (He.fAd K d.at_) fd
  gl : ∀ x, He.Fa.glo x ∈ faL → mg x = some (.ref (He.ga K x))
  fr : ∀ x, He.Fa.free x ∈ faL → mg x = none
  it : ∀ x i, He.Fa.int x i ∈ faL → ∃ t, mg x = some (.int i t)
  ok : ∀ f ∈ faL, f.ok K = true
  ex : exB K = true
theorem pass00 {X : Cx} {E : XK} : Passes CX0 X E := fun _ _ _ _ _ _ _ h => h.elim
/-- a function by its name -/
structure Cal (P : Program) (w : World) (K : PySem.W.Frag) (mg : Str → Option Value) (base : Heap) (k : Nat) (x : Str) (sp : Sp) : Prop where
  ex : ∃ (f : Addr) (fd : FuncData) (ps : List Str), FnOk P w K mg base CX0 k f fd ps sp ∧ mg x = some (.ref f) ∧ PySem.W.keepIn K (.ref f) = true ∧ Binds K fd ps []
structure Met (P : Program) (w : World) (K : PySem.W.Frag) (mg : Str → Option Value) (base : Heap) (k : Nat) (C : Addr) (m : Str) (sp : Sp) : Prop where
  ex : ∃ (f : Addr) (fd : FuncData) (ps : List Str), Cls K C ∧ Meth K C m f ∧ FnOk P w K mg base CX0 k f fd ps sp ∧ Binds K fd ps []
structure Mak (P : Program) (w : World) (K : PySem.W.Frag) (mg : Str → Option Value) (base : Heap) (k : Nat) (x : Str) (sp : Sp) : Prop where
  ex : ∃ (f : Addr) (fd : FuncData) (ps : List Str), Mk K (He.ga K x) f ∧ FnOk P w K mg base CX0 k f fd ps sp ∧ mg x = some (.ref (He.ga K x)) ∧ Binds K fd ps []
section
variable {X : Cx} {k j : Nat} {C : Addr} {x m : Str} {sp : Sp} {p pos apos : Pos} {e o : Expr} {es : List Expr} {ta : TE} {t : TA}
theorem pe_c (c : Cal X.prog X.w X.K X.mg X.base k x sp) (hr : Room j X.A) (hk : k ≤ j) (hg : Gl X x) (ha : PA X (e :: es) t)
    (hdb : (x == ("__debug__" : Str)) = false := by decide) (he : starEach (e :: es) X.env = (false, eval e X.env) :: starEach es X.env := by rfl) (hpl : (backTo pos (starEach es X.env)).any (·.1) = false := by rfl) :
    PE X (.Call (.Name x p) (e :: es) [] pos) (tCall sp [] E0 t) := by
  obtain ⟨f, fd, ps, F, hm, kp, b⟩ := c.ex
  exact pe_call F (hr.mono hk) hg hm kp b .nil pass00 ha hdb he hpl
theorem pe_c0 (c : Cal X.prog X.w X.K X.mg X.base k x sp) (hr : Room j X.A) (hk : k ≤ j) (hg : Gl X x) (hdb : (x == ("__debug__" : Str)) = false := by decide) : PE X (.Call (.Name x p) [] [] pos) (tCall sp [] E0 tNil) := by
  obtain ⟨f, fd, ps, F, hm, kp, b⟩ := c.ex
  exact pe_call0 F (hr.mono hk) hg hm kp b .nil pass00 hdb
theorem pe_mk (c : Mak X.prog X.w X.K X.mg X.base k x sp) (hr : Room j X.A) (hk : k + 1 ≤ j) (hg : Gl X x) (ha : PA X (e :: es) t)
    (hdb : (x == ("__debug__" : Str)) = false := by decide) (he : starEach (e :: es) X.env = (false, eval e X.env) :: starEach es X.env := by rfl) (hpl : (backTo pos (starEach es X.env)).any (·.1) = false := by rfl) :
    PE X (.Call (.Name x p) (e :: es) [] pos) (tMake (He.ga X.K x) sp [] E0 t) := by
  obtain ⟨f, fd, ps, M, F, hm, b⟩ := c.ex
  exact pe_make M F (hr.mono hk) hg hm b .nil pass00 ha hdb he hpl
theorem pe_mt {pl : Sem Bool} (c : Met X.prog X.w X.K X.mg X.base k C m sp) (hr : Room j X.A) (hk : k ≤ j) (he : PE X o ta) (ha : PA X (e :: es) t)
    (hst : starEach (e :: es) X.env = (false, eval e X.env) :: starEach es X.env := by rfl) (hpl : (backTo pos (starEach es X.env)).any (·.1) = false := by rfl)
    (ht : eval (.Call (.Attribute o m apos) (e :: es) [] pos) X.env = (do
      let ov ← eval o X.env
      standAt apos.atName
      let (f, first) ← holding [ov] (getMethod ov m pl)
      callWith pos f first (backTo pos (starEach (e :: es) X.env)) (backToKw pos (keywordEach [] X.env))) := by rfl) :
    PE X (.Call (.Attribute o m apos) (e :: es) [] pos) (tMeth C m sp [] E0 ta t) := by
  obtain ⟨f, fd, ps, hc, hm, F, b⟩ := c.ex
  exact pe_meth (pl := pl) he hc hm F (hr.mono hk) b .nil pass00 ha hst hpl ht
theorem pe_mt0 {pl : Sem Bool} (c : Met X.prog X.w X.K X.mg X.base k C m sp) (hr : Room j X.A) (hk : k ≤ j) (he : PE X o ta)
    (ht : eval (.Call (.Attribute o m apos) [] [] pos) X.env = (do
      let ov ← eval o X.env
      standAt apos.atName
      let (f, first) ← holding [ov] (getMethod ov m pl)
      callWith pos f first (backTo pos (starEach [] X.env)) (backToKw pos (keywordEach [] X.env))) := by rfl) :
    PE X (.Call (.Attribute o m apos) [] [] pos) (tMeth C m sp [] E0 ta tNil) := by
  obtain ⟨f, fd, ps, hc, hm, F, b⟩ := c.ex
  exact pe_meth0 (pl := pl) he hc hm F (hr.mono hk) b .nil pass00 ht
end
section
variable {K : PySem.W.Frag} {mg : Str → Option Value}
theorem Tx.g_is_rate (T : Tx K mg) : mg "is_rate" = some (.ref (He.ga K "is_rate")) := T.gl _ (List.mem_of_getElem? (l := faL) (i := 0) rfl)
theorem Tx.g_rate_by (T : Tx K mg) : mg "rate_by" = some (.ref (He.ga K "rate_by")) := T.gl _ (List.mem_of_getElem? (l := faL) (i := 1) rfl)
theorem Tx.g_seen_at (T : Tx K mg) : mg "seen_at" = some (.ref (He.ga K "seen_at")) := T.gl _ (List.mem_of_getElem? (l := faL) (i := 2) rfl)
theorem Tx.g_look_room (T : Tx K mg) : mg "look_room" = some (.ref (He.ga K "look_room")) := T.gl _ (List.mem_of_getElem? (l := faL) (i := 3) rfl)
theorem Tx.g_first_stand (T : Tx K mg) : mg "first_stand" = some (.ref (He.ga K "first_stand")) := T.gl _ (List.mem_of_getElem? (l := faL) (i := 4) rfl)
theorem Tx.g_is_over (T : Tx K mg) : mg "is_over" = some (.ref (He.ga K "is_over")) := T.gl _ (List.mem_of_getElem? (l := faL) (i := 5) rfl)
theorem Tx.g_has_room (T : Tx K mg) : mg "has_room" = some (.ref (He.ga K "has_room")) := T.gl _ (List.mem_of_getElem? (l := faL) (i := 6) rfl)
theorem Tx.g_chosen (T : Tx K mg) : mg "chosen" = some (.ref (He.ga K "chosen")) := T.gl _ (List.mem_of_getElem? (l := faL) (i := 7) rfl)
theorem Tx.g_begins (T : Tx K mg) : mg "begins" = some (.ref (He.ga K "begins")) := T.gl _ (List.mem_of_getElem? (l := faL) (i := 8) rfl)
theorem Tx.g_played_on (T : Tx K mg) : mg "played_on" = some (.ref (He.ga K "played_on")) := T.gl _ (List.mem_of_getElem? (l := faL) (i := 9) rfl)
theorem Tx.g_beat_on (T : Tx K mg) : mg "beat_on" = some (.ref (He.ga K "beat_on")) := T.gl _ (List.mem_of_getElem? (l := faL) (i := 10) rfl)
theorem Tx.g_run_of (T : Tx K mg) : mg "run_of" = some (.ref (He.ga K "run_of")) := T.gl _ (List.mem_of_getElem? (l := faL) (i := 11) rfl)
theorem Tx.g_is_whole (T : Tx K mg) : mg "is_whole" = some (.ref (He.ga K "is_whole")) := T.gl _ (List.mem_of_getElem? (l := faL) (i := 12) rfl)
theorem Tx.g_by_store (T : Tx K mg) : mg "by_store" = some (.ref (He.ga K "by_store")) := T.gl _ (List.mem_of_getElem? (l := faL) (i := 13) rfl)
theorem Tx.g_by_speed (T : Tx K mg) : mg "by_speed" = some (.ref (He.ga K "by_speed")) := T.gl _ (List.mem_of_getElem? (l := faL) (i := 14) rfl)
theorem Tx.g_calm (T : Tx K mg) : mg "calm" = some (.ref (He.ga K "calm")) := T.gl _ (List.mem_of_getElem? (l := faL) (i := 15) rfl)
theorem Tx.g__law_well (T : Tx K mg) : mg "_law_well" = some (.ref (He.ga K "_law_well")) := T.gl _ (List.mem_of_getElem? (l := faL) (i := 16) rfl)
theorem Tx.g__law_take (T : Tx K mg) : mg "_law_take" = some (.ref (He.ga K "_law_take")) := T.gl _ (List.mem_of_getElem? (l := faL) (i := 17) rfl)
theorem Tx.g__law_talk (T : Tx K mg) : mg "_law_talk" = some (.ref (He.ga K "_law_talk")) := T.gl _ (List.mem_of_getElem? (l := faL) (i := 18) rfl)
theorem Tx.g__law_road (T : Tx K mg) : mg "_law_road" = some (.ref (He.ga K "_law_road")) := T.gl _ (List.mem_of_getElem? (l := faL) (i := 19) rfl)
theorem Tx.g__law_options (T : Tx K mg) : mg "_law_options" = some (.ref (He.ga K "_law_options")) := T.gl _ (List.mem_of_getElem? (l := faL) (i := 20) rfl)
theorem Tx.g__law_rule (T : Tx K mg) : mg "_law_rule" = some (.ref (He.ga K "_law_rule")) := T.gl _ (List.mem_of_getElem? (l := faL) (i := 21) rfl)
theorem Tx.g__law_rates_right (T : Tx K mg) : mg "_law_rates_right" = some (.ref (He.ga K "_law_rates_right")) := T.gl _ (List.mem_of_getElem? (l := faL) (i := 22) rfl)
theorem Tx.g__law_fetched_right (T : Tx K mg) : mg "_law_fetched_right" = some (.ref (He.ga K "_law_fetched_right")) := T.gl _ (List.mem_of_getElem? (l := faL) (i := 23) rfl)
theorem Tx.g__law_played_right (T : Tx K mg) : mg "_law_played_right" = some (.ref (He.ga K "_law_played_right")) := T.gl _ (List.mem_of_getElem? (l := faL) (i := 24) rfl)
theorem Tx.g__law_stalls_right (T : Tx K mg) : mg "_law_stalls_right" = some (.ref (He.ga K "_law_stalls_right")) := T.gl _ (List.mem_of_getElem? (l := faL) (i := 25) rfl)
theorem Tx.g__law_right (T : Tx K mg) : mg "_law_right" = some (.ref (He.ga K "_law_right")) := T.gl _ (List.mem_of_getElem? (l := faL) (i := 26) rfl)
theorem Tx.g_law (T : Tx K mg) : mg "law" = some (.ref (He.ga K "law")) := T.gl _ (List.mem_of_getElem? (l := faL) (i := 27) rfl)
theorem Tx.g_Speed (T : Tx K mg) : mg "Speed" = some (.ref (He.ga K "Speed")) := T.gl _ (List.mem_of_getElem? (l := faL) (i := 28) rfl)
theorem Tx.g_Walk (T : Tx K mg) : mg "Walk" = some (.ref (He.ga K "Walk")) := T.gl _ (List.mem_of_getElem? (l := faL) (i := 29) rfl)
theorem Tx.g_Run (T : Tx K mg) : mg "Run" = some (.ref (He.ga K "Run")) := T.gl _ (List.mem_of_getElem? (l := faL) (i := 30) rfl)
theorem Tx.g_Road (T : Tx K mg) : mg "Road" = some (.ref (He.ga K "Road")) := T.gl _ (List.mem_of_getElem? (l := faL) (i := 31) rfl)
theorem Tx.g_Talk (T : Tx K mg) : mg "Talk" = some (.ref (He.ga K "Talk")) := T.gl _ (List.mem_of_getElem? (l := faL) (i := 32) rfl)
theorem Tx.f_isinstance (T : Tx K mg) : mg "isinstance" = none := T.fr _ (List.mem_of_getElem? (l := faL) (i := 33) rfl)
theorem Tx.f_int (T : Tx K mg) : mg "int" = none := T.fr _ (List.mem_of_getElem? (l := faL) (i := 34) rfl)
theorem Tx.f_bool (T : Tx K mg) : mg "bool" = none := T.fr _ (List.mem_of_getElem? (l := faL) (i := 35) rfl)
theorem Tx.f_tuple (T : Tx K mg) : mg "tuple" = none := T.fr _ (List.mem_of_getElem? (l := faL) (i := 36) rfl)
theorem Tx.f_len (T : Tx K mg) : mg "len" = none := T.fr _ (List.mem_of_getElem? (l := faL) (i := 37) rfl)
theorem Tx.f_enumerate (T : Tx K mg) : mg "enumerate" = none := T.fr _ (List.mem_of_getElem? (l := faL) (i := 38) rfl)
theorem Tx.f_range (T : Tx K mg) : mg "range" = none := T.fr _ (List.mem_of_getElem? (l := faL) (i := 39) rfl)
theorem Tx.f_list (T : Tx K mg) : mg "list" = none := T.fr _ (List.mem_of_getElem? (l := faL) (i := 40) rfl)
theorem Tx.f_max (T : Tx K mg) : mg "max" = none := T.fr _ (List.mem_of_getElem? (l := faL) (i := 41) rfl)
theorem Tx.f_min (T : Tx K mg) : mg "min" = none := T.fr _ (List.mem_of_getElem? (l := faL) (i := 42) rfl)
theorem Tx.f_sum (T : Tx K mg) : mg "sum" = none := T.fr _ (List.mem_of_getElem? (l := faL) (i := 43) rfl)
theorem Tx.f_set (T : Tx K mg) : mg "set" = none := T.fr _ (List.mem_of_getElem? (l := faL) (i := 44) rfl)
theorem Tx.f_sorted (T : Tx K mg) : mg "sorted" = none := T.fr _ (List.mem_of_getElem? (l := faL) (i := 45) rfl)
theorem Tx.f_dict (T : Tx K mg) : mg "dict" = none := T.fr _ (List.mem_of_getElem? (l := faL) (i := 46) rfl)
theorem Tx.f_repr (T : Tx K mg) : mg "repr" = none := T.fr _ (List.mem_of_getElem? (l := faL) (i := 47) rfl)
theorem Tx.i_NONE (T : Tx K mg) : ∃ u, mg "NONE" = some u ∧ RelV (V.int (-1)) u := by
  obtain ⟨t, e⟩ := T.it "NONE" (-1) (List.mem_of_getElem? (l := faL) (i := 48) rfl)
  exact ⟨_, e, t, rfl⟩
theorem Tx.i_AHEAD (T : Tx K mg) : ∃ u, mg "AHEAD" = some u ∧ RelV (V.int (0)) u := by
  obtain ⟨t, e⟩ := T.it "AHEAD" (0) (List.mem_of_getElem? (l := faL) (i := 49) rfl)
  exact ⟨_, e, t, rfl⟩
theorem Tx.i_PLAYS (T : Tx K mg) : ∃ u, mg "PLAYS" = some u ∧ RelV (V.int (1)) u := by
  obtain ⟨t, e⟩ := T.it "PLAYS" (1) (List.mem_of_getElem? (l := faL) (i := 50) rfl)
  exact ⟨_, e, t, rfl⟩
theorem Tx.i_STALLS (T : Tx K mg) : ∃ u, mg "STALLS" = some u ∧ RelV (V.int (2)) u := by
  obtain ⟨t, e⟩ := T.it "STALLS" (2) (List.mem_of_getElem? (l := faL) (i := 51) rfl)
  exact ⟨_, e, t, rfl⟩
theorem Tx.g_FIRST (T : Tx K mg) : mg "FIRST" = some (.ref (He.ga K "FIRST")) := T.gl _ (List.mem_of_getElem? (l := faL) (i := 52) rfl)
theorem Tx.g_PART (T : Tx K mg) : mg "PART" = some (.ref (He.ga K "PART")) := T.gl _ (List.mem_of_getElem? (l := faL) (i := 53) rfl)
theorem Tx.cl_Speed (T : Tx K mg) : Cls K (He.ga K "Speed") := He.cls_ok (T.ok _ (List.mem_of_getElem? (l := faL) (i := 54) rfl))
theorem Tx.mk_Speed (T : Tx K mg) : Mk K (He.ga K "Speed") (He.ma K (He.ga K "Speed") "__init__") := He.mkr_ok (T.ok _ (List.mem_of_getElem? (l := faL) (i := 55) rfl))
theorem Tx.n_Speed_bits (T : Tx K mg) : NoAttr K (He.ga K "Speed") "bits" := He.noat_ok (T.ok _ (List.mem_of_getElem? (l := faL) (i := 56) rfl))
theorem Tx.n_Speed_beats (T : Tx K mg) : NoAttr K (He.ga K "Speed") "beats" := He.noat_ok (T.ok _ (List.mem_of_getElem? (l := faL) (i := 57) rfl))
theorem Tx.cl_Walk (T : Tx K mg) : Cls K (He.ga K "Walk") := He.cls_ok (T.ok _ (List.mem_of_getElem? (l := faL) (i := 58) rfl))
theorem Tx.mk_Walk (T : Tx K mg) : Mk K (He.ga K "Walk") (He.ma K (He.ga K "Walk") "__init__") := He.mkr_ok (T.ok _ (List.mem_of_getElem? (l := faL) (i := 59) rfl))
theorem Tx.n_Walk_talk_walked (T : Tx K mg) : NoAttr K (He.ga K "Walk") "talk_walked" := He.noat_ok (T.ok _ (List.mem_of_getElem? (l := faL) (i := 60) rfl))
theorem Tx.n_Walk_chooser_asked (T : Tx K mg) : NoAttr K (He.ga K "Walk") "chooser_asked" := He.noat_ok (T.ok _ (List.mem_of_getElem? (l := faL) (i := 61) rfl))
theorem Tx.n_Walk_limits (T : Tx K mg) : NoAttr K (He.ga K "Walk") "limits" := He.noat_ok (T.ok _ (List.mem_of_getElem? (l := faL) (i := 62) rfl))
theorem Tx.n_Walk_waiting (T : Tx K mg) : NoAttr K (He.ga K "Walk") "waiting" := He.noat_ok (T.ok _ (List.mem_of_getElem? (l := faL) (i := 63) rfl))
theorem Tx.n_Walk_opening (T : Tx K mg) : NoAttr K (He.ga K "Walk") "opening" := He.noat_ok (T.ok _ (List.mem_of_getElem? (l := faL) (i := 64) rfl))
theorem Tx.n_Walk_stand_here (T : Tx K mg) : NoAttr K (He.ga K "Walk") "stand_here" := He.noat_ok (T.ok _ (List.mem_of_getElem? (l := faL) (i := 65) rfl))
theorem Tx.n_Walk_beat_here (T : Tx K mg) : NoAttr K (He.ga K "Walk") "beat_here" := He.noat_ok (T.ok _ (List.mem_of_getElem? (l := faL) (i := 66) rfl))
theorem Tx.n_Walk_rate_last (T : Tx K mg) : NoAttr K (He.ga K "Walk") "rate_last" := He.noat_ok (T.ok _ (List.mem_of_getElem? (l := faL) (i := 67) rfl))
theorem Tx.n_Walk_speed_last (T : Tx K mg) : NoAttr K (He.ga K "Walk") "speed_last" := He.noat_ok (T.ok _ (List.mem_of_getElem? (l := faL) (i := 68) rfl))
theorem Tx.n_Walk_rates (T : Tx K mg) : NoAttr K (He.ga K "Walk") "rates" := He.noat_ok (T.ok _ (List.mem_of_getElem? (l := faL) (i := 69) rfl))
theorem Tx.n_Walk_begun (T : Tx K mg) : NoAttr K (He.ga K "Walk") "begun" := He.noat_ok (T.ok _ (List.mem_of_getElem? (l := faL) (i := 70) rfl))
theorem Tx.n_Walk_whole (T : Tx K mg) : NoAttr K (He.ga K "Walk") "whole" := He.noat_ok (T.ok _ (List.mem_of_getElem? (l := faL) (i := 71) rfl))
theorem Tx.n_Walk_plays (T : Tx K mg) : NoAttr K (He.ga K "Walk") "plays" := He.noat_ok (T.ok _ (List.mem_of_getElem? (l := faL) (i := 72) rfl))
theorem Tx.n_Walk_stalls (T : Tx K mg) : NoAttr K (He.ga K "Walk") "stalls" := He.noat_ok (T.ok _ (List.mem_of_getElem? (l := faL) (i := 73) rfl))
theorem Tx.n_Walk_kept (T : Tx K mg) : NoAttr K (He.ga K "Walk") "kept" := He.noat_ok (T.ok _ (List.mem_of_getElem? (l := faL) (i := 74) rfl))
theorem Tx.m_Walk_is_at_end (T : Tx K mg) : Meth K (He.ga K "Walk") "is_at_end" (He.ma K (He.ga K "Walk") "is_at_end") := He.meth_ok (T.ok _ (List.mem_of_getElem? (l := faL) (i := 75) rfl))
theorem Tx.m_Walk_asks_here (T : Tx K mg) : Meth K (He.ga K "Walk") "asks_here" (He.ma K (He.ga K "Walk") "asks_here") := He.meth_ok (T.ok _ (List.mem_of_getElem? (l := faL) (i := 76) rfl))
theorem Tx.m_Walk_choose_here (T : Tx K mg) : Meth K (He.ga K "Walk") "choose_here" (He.ma K (He.ga K "Walk") "choose_here") := He.meth_ok (T.ok _ (List.mem_of_getElem? (l := faL) (i := 77) rfl))
theorem Tx.m_Walk_step_on (T : Tx K mg) : Meth K (He.ga K "Walk") "step_on" (He.ma K (He.ga K "Walk") "step_on") := He.meth_ok (T.ok _ (List.mem_of_getElem? (l := faL) (i := 78) rfl))
theorem Tx.cl_Run (T : Tx K mg) : Cls K (He.ga K "Run") := He.cls_ok (T.ok _ (List.mem_of_getElem? (l := faL) (i := 79) rfl))
theorem Tx.mk_Run (T : Tx K mg) : Mk K (He.ga K "Run") (He.ma K (He.ga K "Run") "__init__") := He.mkr_ok (T.ok _ (List.mem_of_getElem? (l := faL) (i := 80) rfl))
theorem Tx.n_Run_rates (T : Tx K mg) : NoAttr K (He.ga K "Run") "rates" := He.noat_ok (T.ok _ (List.mem_of_getElem? (l := faL) (i := 81) rfl))
theorem Tx.n_Run_begun (T : Tx K mg) : NoAttr K (He.ga K "Run") "begun" := He.noat_ok (T.ok _ (List.mem_of_getElem? (l := faL) (i := 82) rfl))
theorem Tx.n_Run_whole (T : Tx K mg) : NoAttr K (He.ga K "Run") "whole" := He.noat_ok (T.ok _ (List.mem_of_getElem? (l := faL) (i := 83) rfl))
theorem Tx.n_Run_plays (T : Tx K mg) : NoAttr K (He.ga K "Run") "plays" := He.noat_ok (T.ok _ (List.mem_of_getElem? (l := faL) (i := 84) rfl))
theorem Tx.n_Run_stalls (T : Tx K mg) : NoAttr K (He.ga K "Run") "stalls" := He.noat_ok (T.ok _ (List.mem_of_getElem? (l := faL) (i := 85) rfl))
theorem Tx.n_Run_ended (T : Tx K mg) : NoAttr K (He.ga K "Run") "ended" := He.noat_ok (T.ok _ (List.mem_of_getElem? (l := faL) (i := 86) rfl))
theorem Tx.n_Run_kept (T : Tx K mg) : NoAttr K (He.ga K "Run") "kept" := He.noat_ok (T.ok _ (List.mem_of_getElem? (l := faL) (i := 87) rfl))
theorem Tx.m_Run_all_told (T : Tx K mg) : Meth K (He.ga K "Run") "all_told" (He.ma K (He.ga K "Run") "all_told") := He.meth_ok (T.ok _ (List.mem_of_getElem? (l := faL) (i := 88) rfl))
theorem Tx.m_Run_eq (T : Tx K mg) : Meth K (He.ga K "Run") "__eq__" (He.ma K (He.ga K "Run") "__eq__") := He.meth_ok (T.ok _ (List.mem_of_getElem? (l := faL) (i := 89) rfl))
theorem Tx.m_Run_len (T : Tx K mg) : Meth K (He.ga K "Run") "__len__" (He.ma K (He.ga K "Run") "__len__") := He.meth_ok (T.ok _ (List.mem_of_getElem? (l := faL) (i := 90) rfl))
theorem Tx.cl_Road (T : Tx K mg) : Cls K (He.ga K "Road") := He.cls_ok (T.ok _ (List.mem_of_getElem? (l := faL) (i := 91) rfl))
theorem Tx.mk_Road (T : Tx K mg) : Mk K (He.ga K "Road") (He.ma K (He.ga K "Road") "__init__") := He.mkr_ok (T.ok _ (List.mem_of_getElem? (l := faL) (i := 92) rfl))
theorem Tx.n_Road_pieces (T : Tx K mg) : NoAttr K (He.ga K "Road") "pieces" := He.noat_ok (T.ok _ (List.mem_of_getElem? (l := faL) (i := 93) rfl))
theorem Tx.m_Road_speed_at (T : Tx K mg) : Meth K (He.ga K "Road") "speed_at" (He.ma K (He.ga K "Road") "speed_at") := He.meth_ok (T.ok _ (List.mem_of_getElem? (l := faL) (i := 94) rfl))
theorem Tx.m_Road_sum_of (T : Tx K mg) : Meth K (He.ga K "Road") "sum_of" (He.ma K (He.ga K "Road") "sum_of") := He.meth_ok (T.ok _ (List.mem_of_getElem? (l := faL) (i := 95) rfl))
theorem Tx.m_Road_fetched (T : Tx K mg) : Meth K (He.ga K "Road") "fetched" (He.ma K (He.ga K "Road") "fetched") := He.meth_ok (T.ok _ (List.mem_of_getElem? (l := faL) (i := 96) rfl))
theorem Tx.cl_Talk (T : Tx K mg) : Cls K (He.ga K "Talk") := He.cls_ok (T.ok _ (List.mem_of_getElem? (l := faL) (i := 97) rfl))
theorem Tx.mk_Talk (T : Tx K mg) : Mk K (He.ga K "Talk") (He.ma K (He.ga K "Talk") "__init__") := He.mkr_ok (T.ok _ (List.mem_of_getElem? (l := faL) (i := 98) rfl))
theorem Tx.n_Talk_lengths (T : Tx K mg) : NoAttr K (He.ga K "Talk") "lengths" := He.noat_ok (T.ok _ (List.mem_of_getElem? (l := faL) (i := 99) rfl))
theorem Tx.n_Talk_sizes (T : Tx K mg) : NoAttr K (He.ga K "Talk") "sizes" := He.noat_ok (T.ok _ (List.mem_of_getElem? (l := faL) (i := 100) rfl))
theorem Tx.m_Talk_len (T : Tx K mg) : Meth K (He.ga K "Talk") "__len__" (He.ma K (He.ga K "Talk") "__len__") := He.meth_ok (T.ok _ (List.mem_of_getElem? (l := faL) (i := 101) rfl))
theorem Tx.m_Talk_many_rates (T : Tx K mg) : Meth K (He.ga K "Talk") "many_rates" (He.ma K (He.ga K "Talk") "many_rates") := He.meth_ok (T.ok _ (List.mem_of_getElem? (l := faL) (i := 102) rfl))
end
/-! is_rate: 0 talk, 1 thing -/
abbrev nN_is_rate : List Str := ["talk", "thing"]
theorem sc_is_rate : FnScope nN_is_rate ["talk", "thing"] (defScope s_is_rate) := C8.fnScope_by (by decide +kernel)
theorem D_is_rate {K : PySem.W.Frag} {mg : Str → Option Value} (T : Tx K mg) : ∃ fd, FnP K "is_rate" "is_rate" s_is_rate [] (He.ga K "is_rate") fd := T.df d_is_rate (List.mem_of_getElem? (l := fnL) (i := 0) rfl)
theorem mk_is_rate {P : Program} {w : World} {K : PySem.W.Frag} {mg : Str → Option Value} {base : Heap} {k : Nat} {sp : Sp} (T : Tx K mg) (len : ∀ vs H Q E, sp vs H Q E → vs.length = 2)
    (hbody : ∀ (cdv : Value) (A : Around) (outer : List Env) (s : Shared) (H : Hp) (vs : List V) (Q : VK) (E : XK), Room k (A.deeper (envOfC "is_rate" (defScope s_is_rate) s.heap.objs.size (He.ga K "is_rate") cdv)) → sp vs H Q E →
      ∃ t, PSs (cxOf CX0 P w K mg base nN_is_rate "is_rate" (defScope s_is_rate) (He.ga K "is_rate") cdv A outer s H E).nox (defBody s_is_rate) t ∧ t { nx := fun _ H' => Q .non H', rt := Q } (start nN_is_rate vs) H) : Cal P w K mg base (k + 1) "is_rate" sp := by
  obtain ⟨fd, F⟩ := D_is_rate T
  exact ⟨_, fd, ["talk", "thing"], F.ok sc_is_rate len fun cdv A outer s H vs Q E hr h => let ⟨t, h1, h2⟩ := hbody cdv A outer s H vs Q E hr h; ⟨t, h1.nox, h2⟩, T.g_is_rate, F.kp, F.bindsN fun _ _ _ _ _ _ us hl => match us, hl with | [_, _], _ => rfl⟩
/-! rate_by: 0 talk, 1 chooser, 2 seen, 3 rate -/
abbrev nN_rate_by : List Str := ["talk", "chooser", "seen", "rate"]
theorem sc_rate_by : FnScope nN_rate_by ["talk", "chooser", "seen"] (defScope s_rate_by) := C8.fnScope_by (by decide +kernel)
theorem D_rate_by {K : PySem.W.Frag} {mg : Str → Option Value} (T : Tx K mg) : ∃ fd, FnP K "rate_by" "rate_by" s_rate_by [] (He.ga K "rate_by") fd := T.df d_rate_by (List.mem_of_getElem? (l := fnL) (i := 1) rfl)
theorem mk_rate_by {P : Program} {w : World} {K : PySem.W.Frag} {mg : Str → Option Value} {base : Heap} {k : Nat} {sp : Sp} (T : Tx K mg) (len : ∀ vs H Q E, sp vs H Q E → vs.length = 3)
    (hbody : ∀ (cdv : Value) (A : Around) (outer : List Env) (s : Shared) (H : Hp) (vs : List V) (Q : VK) (E : XK), Room k (A.deeper (envOfC "rate_by" (defScope s_rate_by) s.heap.objs.size (He.ga K "rate_by") cdv)) → sp vs H Q E →
      ∃ t, PSs (cxOf CX0 P w K mg base nN_rate_by "rate_by" (defScope s_rate_by) (He.ga K "rate_by") cdv A outer s H E).nox (defBody s_rate_by) t ∧ t { nx := fun _ H' => Q .non H', rt := Q } (start nN_rate_by vs) H) : Cal P w K mg base (k + 1) "rate_by" sp := by
  obtain ⟨fd, F⟩ := D_rate_by T
  exact ⟨_, fd, ["talk", "chooser", "seen"], F.ok sc_rate_by len fun cdv A outer s H vs Q E hr h => let ⟨t, h1, h2⟩ := hbody cdv A outer s H vs Q E hr h; ⟨t, h1.nox, h2⟩, T.g_rate_by, F.kp, F.bindsN fun _ _ _ _ _ _ us hl => match us, hl with | [_, _, _], _ => rfl⟩
/-! seen_at: 0 stand, 1 rate, 2 speed -/
abbrev nN_seen_at : List Str := ["stand", "rate", "speed"]
theorem sc_seen_at : FnScope nN_seen_at ["stand", "rate", "speed"] (defScope s_seen_at) := C8.fnScope_by (by decide +kernel)
theorem D_seen_at {K : PySem.W.Frag} {mg : Str → Option Value} (T : Tx K mg) : ∃ fd, FnP K "seen_at" "seen_at" s_seen_at [] (He.ga K "seen_at") fd := T.df d_seen_at (List.mem_of_getElem? (l := fnL) (i := 2) rfl)
theorem mk_seen_at {P : Program} {w : World} {K : PySem.W.Frag} {mg : Str → Option Value} {base : Heap} {k : Nat} {sp : Sp} (T : Tx K mg) (len : ∀ vs H Q E, sp vs H Q E → vs.length = 3)
    (hbody : ∀ (cdv : Value) (A : Around) (outer : List Env) (s : Shared) (H : Hp) (vs : List V) (Q : VK) (E : XK), Room k (A.deeper (envOfC "seen_at" (defScope s_seen_at) s.heap.objs.size (He.ga K "seen_at") cdv)) → sp vs H Q E →
      ∃ t, PSs (cxOf CX0 P w K mg base nN_seen_at "seen_at" (defScope s_seen_at) (He.ga K "seen_at") cdv A outer s H E).nox (defBody s_seen_at) t ∧ t { nx := fun _ H' => Q .non H', rt := Q } (start nN_seen_at vs) H) : Cal P w K mg base (k + 1) "seen_at" sp := by
  obtain ⟨fd, F⟩ := D_seen_at T
  exact ⟨_, fd, ["stand", "rate", "speed"], F.ok sc_seen_at len fun cdv A outer s H vs Q E hr h => let ⟨t, h1, h2⟩ := hbody cdv A outer s H vs Q E hr h; ⟨t, h1.nox, h2⟩, T.g_seen_at, F.kp, F.bindsN fun _ _ _ _ _ _ us hl => match us, hl with | [_, _, _], _ => rfl⟩
/-! Speed.__init__: 0 self, 1 bits, 2 beats -/
abbrev nN_Speed_init : List Str := ["self", "bits", "beats"]
theorem sc_Speed_init : FnScope nN_Speed_init ["self", "bits", "beats"] (defScope s_Speed_init) := C8.fnScope_by (by decide +kernel)
theorem D_Speed_init {K : PySem.W.Frag} {mg : Str → Option Value} (T : Tx K mg) : ∃ fd, FnP K "__init__" "Speed.__init__" s_Speed_init [] (He.ma K (He.ga K "Speed") "__init__") fd := T.df d_Speed_init (List.mem_of_getElem? (l := fnL) (i := 3) rfl)
theorem mk_Speed_init {P : Program} {w : World} {K : PySem.W.Frag} {mg : Str → Option Value} {base : Heap} {k : Nat} {sp : Sp} (T : Tx K mg) (len : ∀ vs H Q E, sp vs H Q E → vs.length = 3)
    (hbody : ∀ (cdv : Value) (A : Around) (outer : List Env) (s : Shared) (H : Hp) (vs : List V) (Q : VK) (E : XK), Room k (A.deeper (envOfC "Speed.__init__" (defScope s_Speed_init) s.heap.objs.size (He.ma K (He.ga K "Speed") "__init__") cdv)) → sp vs H Q E →
      ∃ t, PSs (cxOf CX0 P w K mg base nN_Speed_init "Speed.__init__" (defScope s_Speed_init) (He.ma K (He.ga K "Speed") "__init__") cdv A outer s H E).nox (defBody s_Speed_init) t ∧ t { nx := fun _ H' => Q .non H', rt := Q } (start nN_Speed_init vs) H) : Mak P w K mg base (k + 1) "Speed" sp := by
  obtain ⟨fd, F⟩ := D_Speed_init T
  exact ⟨_, fd, ["self", "bits", "beats"], T.mk_Speed, F.ok sc_Speed_init len fun cdv A outer s H vs Q E hr h => let ⟨t, h1, h2⟩ := hbody cdv A outer s H vs Q E hr h; ⟨t, h1.nox, h2⟩, T.g_Speed, F.bindsN fun _ _ _ _ _ _ us hl => match us, hl with | [_, _, _], _ => rfl⟩
/-! look_room: 0 talk, 1 most, 2 number, 3 length -/
abbrev nN_look_room : List Str := ["talk", "most", "number", "length"]
theorem sc_look_room : FnScope nN_look_room ["talk", "most"] (defScope s_look_room) := C8.fnScope_by (by decide +kernel)
theorem D_look_room {K : PySem.W.Frag} {mg : Str → Option Value} (T : Tx K mg) : ∃ fd, FnP K "look_room" "look_room" s_look_room [] (He.ga K "look_room") fd := T.df d_look_room (List.mem_of_getElem? (l := fnL) (i := 4) rfl)
theorem mk_look_room {P : Program} {w : World} {K : PySem.W.Frag} {mg : Str → Option Value} {base : Heap} {k : Nat} {sp : Sp} (T : Tx K mg) (len : ∀ vs H Q E, sp vs H Q E → vs.length = 2)
    (hbody : ∀ (cdv : Value) (A : Around) (outer : List Env) (s : Shared) (H : Hp) (vs : List V) (Q : VK) (E : XK), Room k (A.deeper (envOfC "look_room" (defScope s_look_room) s.heap.objs.size (He.ga K "look_room") cdv)) → sp vs H Q E →
      ∃ t, PSs (cxOf CX0 P w K mg base nN_look_room "look_room" (defScope s_look_room) (He.ga K "look_room") cdv A outer s H E).nox (defBody s_look_room) t ∧ t { nx := fun _ H' => Q .non H', rt := Q } (start nN_look_room vs) H) : Cal P w K mg base (k + 1) "look_room" sp := by
  obtain ⟨fd, F⟩ := D_look_room T
  exact ⟨_, fd, ["talk", "most"], F.ok sc_look_room len fun cdv A outer s H vs Q E hr h => let ⟨t, h1, h2⟩ := hbody cdv A outer s H vs Q E hr h; ⟨t, h1.nox, h2⟩, T.g_look_room, F.kp, F.bindsN fun _ _ _ _ _ _ us hl => match us, hl with | [_, _], _ => rfl⟩
/-! first_stand:  -/
abbrev nN_first_stand : List Str := []
theorem sc_first_stand : FnScope nN_first_stand [] (defScope s_first_stand) := C8.fnScope_by (by decide +kernel)
theorem D_first_stand {K : PySem.W.Frag} {mg : Str → Option Value} (T : Tx K mg) : ∃ fd, FnP K "first_stand" "first_stand" s_first_stand [] (He.ga K "first_stand") fd := T.df d_first_stand (List.mem_of_getElem? (l := fnL) (i := 5) rfl)
theorem mk_first_stand {P : Program} {w : World} {K : PySem.W.Frag} {mg : Str → Option Value} {base : Heap} {k : Nat} {sp : Sp} (T : Tx K mg) (len : ∀ vs H Q E, sp vs H Q E → vs.length = 0)
    (hbody : ∀ (cdv : Value) (A : Around) (outer : List Env) (s : Shared) (H : Hp) (vs : List V) (Q : VK) (E : XK), Room k (A.deeper (envOfC "first_stand" (defScope s_first_stand) s.heap.objs.size (He.ga K "first_stand") cdv)) → sp vs H Q E →
      ∃ t, PSs (cxOf CX0 P w K mg base nN_first_stand "first_stand" (defScope s_first_stand) (He.ga K "first_stand") cdv A outer s H E).nox (defBody s_first_stand) t ∧ t { nx := fun _ H' => Q .non H', rt := Q } (start nN_first_stand vs) H) : Cal P w K mg base (k + 1) "first_stand" sp := by
  obtain ⟨fd, F⟩ := D_first_stand T
  exact ⟨_, fd, [], F.ok sc_first_stand len fun cdv A outer s H vs Q E hr h => let ⟨t, h1, h2⟩ := hbody cdv A outer s H vs Q E hr h; ⟨t, h1.nox, h2⟩, T.g_first_stand, F.kp, F.bindsN fun _ _ _ _ _ _ us hl => match us, hl with | [], _ => rfl⟩
/-! is_over: 0 talk, 1 stand -/
abbrev nN_is_over : List Str := ["talk", "stand"]
theorem sc_is_over : FnScope nN_is_over ["talk", "stand"] (defScope s_is_over) := C8.fnScope_by (by decide +kernel)
theorem D_is_over {K : PySem.W.Frag} {mg : Str → Option Value} (T : Tx K mg) : ∃ fd, FnP K "is_over" "is_over" s_is_over [] (He.ga K "is_over") fd := T.df d_is_over (List.mem_of_getElem? (l := fnL) (i := 6) rfl)
theorem mk_is_over {P : Program} {w : World} {K : PySem.W.Frag} {mg : Str → Option Value} {base : Heap} {k : Nat} {sp : Sp} (T : Tx K mg) (len : ∀ vs H Q E, sp vs H Q E → vs.length = 2)
    (hbody : ∀ (cdv : Value) (A : Around) (outer : List Env) (s : Shared) (H : Hp) (vs : List V) (Q : VK) (E : XK), Room k (A.deeper (envOfC "is_over" (defScope s_is_over) s.heap.objs.size (He.ga K "is_over") cdv)) → sp vs H Q E →
      ∃ t, PSs (cxOf CX0 P w K mg base nN_is_over "is_over" (defScope s_is_over) (He.ga K "is_over") cdv A outer s H E).nox (defBody s_is_over) t ∧ t { nx := fun _ H' => Q .non H', rt := Q } (start nN_is_over vs) H) : Cal P w K mg base (k + 1) "is_over" sp := by
  obtain ⟨fd, F⟩ := D_is_over T
  exact ⟨_, fd, ["talk", "stand"], F.ok sc_is_over len fun cdv A outer s H vs Q E hr h => let ⟨t, h1, h2⟩ := hbody cdv A outer s H vs Q E hr h; ⟨t, h1.nox, h2⟩, T.g_is_over, F.kp, F.bindsN fun _ _ _ _ _ _ us hl => match us, hl with | [_, _], _ => rfl⟩
/-! has_room: 0 talk, 1 stand, 2 most, 3 number, 4 coming, 5 got, 6 kept, 7 others -/
abbrev nN_has_room : List Str := ["talk", "stand", "most", "number", "coming", "got", "kept", "others"]
theorem sc_has_room : FnScope nN_has_room ["talk", "stand", "most"] (defScope s_has_room) := C8.fnScope_by (by decide +kernel)
theorem D_has_room {K : PySem.W.Frag} {mg : Str → Option Value} (T : Tx K mg) : ∃ fd, FnP K "has_room" "has_room" s_has_room [] (He.ga K "has_room") fd := T.df d_has_room (List.mem_of_getElem? (l := fnL) (i := 7) rfl)
theorem mk_has_room {P : Program} {w : World} {K : PySem.W.Frag} {mg : Str → Option Value} {base : Heap} {k : Nat} {sp : Sp} (T : Tx K mg) (len : ∀ vs H Q E, sp vs H Q E → vs.length = 3)
    (hbody : ∀ (cdv : Value) (A : Around) (outer : List Env) (s : Shared) (H : Hp) (vs : List V) (Q : VK) (E : XK), Room k (A.deeper (envOfC "has_room" (defScope s_has_room) s.heap.objs.size (He.ga K "has_room") cdv)) → sp vs H Q E →
      ∃ t, PSs (cxOf CX0 P w K mg base nN_has_room "has_room" (defScope s_has_room) (He.ga K "has_room") cdv A outer s H E).nox (defBody s_has_room) t ∧ t { nx := fun _ H' => Q .non H', rt := Q } (start nN_has_room vs) H) : Cal P w K mg base (k + 1) "has_room" sp := by
  obtain ⟨fd, F⟩ := D_has_room T
  exact ⟨_, fd, ["talk", "stand", "most"], F.ok sc_has_room len fun cdv A outer s H vs Q E hr h => let ⟨t, h1, h2⟩ := hbody cdv A outer s H vs Q E hr h; ⟨t, h1.nox, h2⟩, T.g_has_room, F.kp, F.bindsN fun _ _ _ _ _ _ us hl => match us, hl with | [_, _, _], _ => rfl⟩
/-! chosen: 0 stand, 1 rate, 2 wait, 3 number, 4 coming, 5 got, 6 others -/
abbrev nN_chosen : List Str := ["stand", "rate", "wait", "number", "coming", "got", "others"]
theorem sc_chosen : FnScope nN_chosen ["stand", "rate", "wait"] (defScope s_chosen) := C8.fnScope_by (by decide +kernel)
theorem D_chosen {K : PySem.W.Frag} {mg : Str → Option Value} (T : Tx K mg) : ∃ fd, FnP K "chosen" "chosen" s_chosen [("wait", V.int 0)] (He.ga K "chosen") fd := T.df d_chosen (List.mem_of_getElem? (l := fnL) (i := 8) rfl)
theorem mk_chosen {P : Program} {w : World} {K : PySem.W.Frag} {mg : Str → Option Value} {base : Heap} {k : Nat} {sp : Sp} (T : Tx K mg) (len : ∀ vs H Q E, sp vs H Q E → vs.length = 3)
    (hbody : ∀ (cdv : Value) (A : Around) (outer : List Env) (s : Shared) (H : Hp) (vs : List V) (Q : VK) (E : XK), Room k (A.deeper (envOfC "chosen" (defScope s_chosen) s.heap.objs.size (He.ga K "chosen") cdv)) → sp vs H Q E →
      ∃ t, PSs (cxOf CX0 P w K mg base nN_chosen "chosen" (defScope s_chosen) (He.ga K "chosen") cdv A outer s H E).nox (defBody s_chosen) t ∧ t { nx := fun _ H' => Q .non H', rt := Q } (start nN_chosen vs) H) : ∃ fd, FnP K "chosen" "chosen" s_chosen [("wait", V.int 0)] (He.ga K "chosen") fd ∧ FnOk P w K mg base CX0 (k + 1) (He.ga K "chosen") fd ["stand", "rate", "wait"] sp := by
  obtain ⟨fd, F⟩ := D_chosen T
  exact ⟨fd, F, F.ok sc_chosen len fun cdv A outer s H vs Q E hr h => let ⟨t, h1, h2⟩ := hbody cdv A outer s H vs Q E hr h; ⟨t, h1.nox, h2⟩⟩
/-! begins: 0 talk, 1 stand, 2 begin, 3 again, 4 most, 5 number, 6 coming, 7 got, 8 kept, 9 played, 10 going -/
abbrev nN_begins : List Str := ["talk", "stand", "begin", "again", "most", "number", "coming", "got", "kept", "played", "going"]
theorem sc_begins : FnScope nN_begins ["talk", "stand", "begin", "again", "most"] (defScope s_begins) := C8.fnScope_by (by decide +kernel)
theorem D_begins {K : PySem.W.Frag} {mg : Str → Option Value} (T : Tx K mg) : ∃ fd, FnP K "begins" "begins" s_begins [] (He.ga K "begins") fd := T.df d_begins (List.mem_of_getElem? (l := fnL) (i := 9) rfl)
theorem mk_begins {P : Program} {w : World} {K : PySem.W.Frag} {mg : Str → Option Value} {base : Heap} {k : Nat} {sp : Sp} (T : Tx K mg) (len : ∀ vs H Q E, sp vs H Q E → vs.length = 5)
    (hbody : ∀ (cdv : Value) (A : Around) (outer : List Env) (s : Shared) (H : Hp) (vs : List V) (Q : VK) (E : XK), Room k (A.deeper (envOfC "begins" (defScope s_begins) s.heap.objs.size (He.ga K "begins") cdv)) → sp vs H Q E →
      ∃ t, PSs (cxOf CX0 P w K mg base nN_begins "begins" (defScope s_begins) (He.ga K "begins") cdv A outer s H E).nox (defBody s_begins) t ∧ t { nx := fun _ H' => Q .non H', rt := Q } (start nN_begins vs) H) : Cal P w K mg base (k + 1) "begins" sp := by
  obtain ⟨fd, F⟩ := D_begins T
  exact ⟨_, fd, ["talk", "stand", "begin", "again", "most"], F.ok sc_begins len fun cdv A outer s H vs Q E hr h => let ⟨t, h1, h2⟩ := hbody cdv A outer s H vs Q E hr h; ⟨t, h1.nox, h2⟩, T.g_begins, F.kp, F.bindsN fun _ _ _ _ _ _ us hl => match us, hl with | [_, _, _, _, _], _ => rfl⟩
/-! played_on: 0 talk, 1 stand, 2 begin, 3 again, 4 most, 5 number, 6 coming, 7 got, 8 kept, 9 played, 10 going -/
abbrev nN_played_on : List Str := ["talk", "stand", "begin", "again", "most", "number", "coming", "got", "kept", "played", "going"]
theorem sc_played_on : FnScope nN_played_on ["talk", "stand", "begin", "again", "most"] (defScope s_played_on) := C8.fnScope_by (by decide +kernel)
theorem D_played_on {K : PySem.W.Frag} {mg : Str → Option Value} (T : Tx K mg) : ∃ fd, FnP K "played_on" "played_on" s_played_on [] (He.ga K "played_on") fd := T.df d_played_on (List.mem_of_getElem? (l := fnL) (i := 10) rfl)
theorem mk_played_on {P : Program} {w : World} {K : PySem.W.Frag} {mg : Str → Option Value} {base : Heap} {k : Nat} {sp : Sp} (T : Tx K mg) (len : ∀ vs H Q E, sp vs H Q E → vs.length = 5)
    (hbody : ∀ (cdv : Value) (A : Around) (outer : List Env) (s : Shared) (H : Hp) (vs : List V) (Q : VK) (E : XK), Room k (A.deeper (envOfC "played_on" (defScope s_played_on) s.heap.objs.size (He.ga K "played_on") cdv)) → sp vs H Q E →
      ∃ t, PSs (cxOf CX0 P w K mg base nN_played_on "played_on" (defScope s_played_on) (He.ga K "played_on") cdv A outer s H E).nox (defBody s_played_on) t ∧ t { nx := fun _ H' => Q .non H', rt := Q } (start nN_played_on vs) H) : Cal P w K mg base (k + 1) "played_on" sp := by
  obtain ⟨fd, F⟩ := D_played_on T
  exact ⟨_, fd, ["talk", "stand", "begin", "again", "most"], F.ok sc_played_on len fun cdv A outer s H vs Q E hr h => let ⟨t, h1, h2⟩ := hbody cdv A outer s H vs Q E hr h; ⟨t, h1.nox, h2⟩, T.g_played_on, F.kp, F.bindsN fun _ _ _ _ _ _ us hl => match us, hl with | [_, _, _, _, _], _ => rfl⟩
/-! beat_on: 0 talk, 1 stand, 2 speed, 3 begin, 4 again, 5 most, 6 number, 7 coming, 8 got, 9 others, 10 kept, 11 played, 12 going -/
abbrev nN_beat_on : List Str := ["talk", "stand", "speed", "begin", "again", "most", "number", "coming", "got", "others", "kept", "played", "going"]
theorem sc_beat_on : FnScope nN_beat_on ["talk", "stand", "speed", "begin", "again", "most"] (defScope s_beat_on) := C8.fnScope_by (by decide +kernel)
theorem D_beat_on {K : PySem.W.Frag} {mg : Str → Option Value} (T : Tx K mg) : ∃ fd, FnP K "beat_on" "beat_on" s_beat_on [] (He.ga K "beat_on") fd := T.df d_beat_on (List.mem_of_getElem? (l := fnL) (i := 11) rfl)
theorem mk_beat_on {P : Program} {w : World} {K : PySem.W.Frag} {mg : Str → Option Value} {base : Heap} {k : Nat} {sp : Sp} (T : Tx K mg) (len : ∀ vs H Q E, sp vs H Q E → vs.length = 6)
    (hbody : ∀ (cdv : Value) (A : Around) (outer : List Env) (s : Shared) (H : Hp) (vs : List V) (Q : VK) (E : XK), Room k (A.deeper (envOfC "beat_on" (defScope s_beat_on) s.heap.objs.size (He.ga K "beat_on") cdv)) → sp vs H Q E →
      ∃ t, PSs (cxOf CX0 P w K mg base nN_beat_on "beat_on" (defScope s_beat_on) (He.ga K "beat_on") cdv A outer s H E).nox (defBody s_beat_on) t ∧ t { nx := fun _ H' => Q .non H', rt := Q } (start nN_beat_on vs) H) : Cal P w K mg base (k + 1) "beat_on" sp := by
  obtain ⟨fd, F⟩ := D_beat_on T
  exact ⟨_, fd, ["talk", "stand", "speed", "begin", "again", "most"], F.ok sc_beat_on len fun cdv A outer s H vs Q E hr h => let ⟨t, h1, h2⟩ := hbody cdv A outer s H vs Q E hr h; ⟨t, h1.nox, h2⟩, T.g_beat_on, F.kp, F.bindsN fun _ _ _ _ _ _ us hl => match us, hl with | [_, _, _, _, _, _], _ => rfl⟩
/-! Walk.__init__: 0 self, 1 talk, 2 chooser, 3 begin, 4 again, 5 most, 6 wait, 7 opens -/
abbrev nN_Walk_init : List Str := ["self", "talk", "chooser", "begin", "again", "most", "wait", "opens"]
theorem sc_Walk_init : FnScope nN_Walk_init ["self", "talk", "chooser", "begin", "again", "most", "wait", "opens"] (defScope s_Walk_init) := C8.fnScope_by (by decide +kernel)
theorem D_Walk_init {K : PySem.W.Frag} {mg : Str → Option Value} (T : Tx K mg) : ∃ fd, FnP K "__init__" "Walk.__init__" s_Walk_init [("begin", V.int 4), ("again", V.int 8), ("most", V.int 30), ("wait", V.int 0), ("opens", V.non)] (He.ma K (He.ga K "Walk") "__init__") fd := T.df d_Walk_init (List.mem_of_getElem? (l := fnL) (i := 12) rfl)
theorem mk_Walk_init {P : Program} {w : World} {K : PySem.W.Frag} {mg : Str → Option Value} {base : Heap} {k : Nat} {sp : Sp} (T : Tx K mg) (len : ∀ vs H Q E, sp vs H Q E → vs.length = 8)
    (hbody : ∀ (cdv : Value) (A : Around) (outer : List Env) (s : Shared) (H : Hp) (vs : List V) (Q : VK) (E : XK), Room k (A.deeper (envOfC "Walk.__init__" (defScope s_Walk_init) s.heap.objs.size (He.ma K (He.ga K "Walk") "__init__") cdv)) → sp vs H Q E →
      ∃ t, PSs (cxOf CX0 P w K mg base nN_Walk_init "Walk.__init__" (defScope s_Walk_init) (He.ma K (He.ga K "Walk") "__init__") cdv A outer s H E).nox (defBody s_Walk_init) t ∧ t { nx := fun _ H' => Q .non H', rt := Q } (start nN_Walk_init vs) H) : ∃ fd, FnP K "__init__" "Walk.__init__" s_Walk_init [("begin", V.int 4), ("again", V.int 8), ("most", V.int 30), ("wait", V.int 0), ("opens", V.non)] (He.ma K (He.ga K "Walk") "__init__") fd ∧ FnOk P w K mg base CX0 (k + 1) (He.ma K (He.ga K "Walk") "__init__") fd ["self", "talk", "chooser", "begin", "again", "most", "wait", "opens"] sp := by
  obtain ⟨fd, F⟩ := D_Walk_init T
  exact ⟨fd, F, F.ok sc_Walk_init len fun cdv A outer s H vs Q E hr h => let ⟨t, h1, h2⟩ := hbody cdv A outer s H vs Q E hr h; ⟨t, h1.nox, h2⟩⟩
/-! Walk.is_at_end: 0 self -/
abbrev nN_Walk_is_at_end : List Str := ["self"]
theorem sc_Walk_is_at_end : FnScope nN_Walk_is_at_end ["self"] (defScope s_Walk_is_at_end) := C8.fnScope_by (by decide +kernel)
theorem D_Walk_is_at_end {K : PySem.W.Frag} {mg : Str → Option Value} (T : Tx K mg) : ∃ fd, FnP K "is_at_end" "Walk.is_at_end" s_Walk_is_at_end [] (He.ma K (He.ga K "Walk") "is_at_end") fd := T.df d_Walk_is_at_end (List.mem_of_getElem? (l := fnL) (i := 13) rfl)
theorem mk_Walk_is_at_end {P : Program} {w : World} {K : PySem.W.Frag} {mg : Str → Option Value} {base : Heap} {k : Nat} {sp : Sp} (T : Tx K mg) (len : ∀ vs H Q E, sp vs H Q E → vs.length = 1)
    (hbody : ∀ (cdv : Value) (A : Around) (outer : List Env) (s : Shared) (H : Hp) (vs : List V) (Q : VK) (E : XK), Room k (A.deeper (envOfC "Walk.is_at_end" (defScope s_Walk_is_at_end) s.heap.objs.size (He.ma K (He.ga K "Walk") "is_at_end") cdv)) → sp vs H Q E →
      ∃ t, PSs (cxOf CX0 P w K mg base nN_Walk_is_at_end "Walk.is_at_end" (defScope s_Walk_is_at_end) (He.ma K (He.ga K "Walk") "is_at_end") cdv A outer s H E).nox (defBody s_Walk_is_at_end) t ∧ t { nx := fun _ H' => Q .non H', rt := Q } (start nN_Walk_is_at_end vs) H) : Met P w K mg base (k + 1) (He.ga K "Walk") "is_at_end" sp := by
  obtain ⟨fd, F⟩ := D_Walk_is_at_end T
  exact ⟨_, fd, ["self"], T.cl_Walk, T.m_Walk_is_at_end, F.ok sc_Walk_is_at_end len fun cdv A outer s H vs Q E hr h => let ⟨t, h1, h2⟩ := hbody cdv A outer s H vs Q E hr h; ⟨t, h1.nox, h2⟩, F.bindsN fun _ _ _ _ _ _ us hl => match us, hl with | [_], _ => rfl⟩
/-! Walk.asks_here: 0 self, 1 number, 2 coming, 3 others -/
abbrev nN_Walk_asks_here : List Str := ["self", "number", "coming", "others"]
theorem sc_Walk_asks_here : FnScope nN_Walk_asks_here ["self"] (defScope s_Walk_asks_here) := C8.fnScope_by (by decide +kernel)
theorem D_Walk_asks_here {K : PySem.W.Frag} {mg : Str → Option Value} (T : Tx K mg) : ∃ fd, FnP K "asks_here" "Walk.asks_here" s_Walk_asks_here [] (He.ma K (He.ga K "Walk") "asks_here") fd := T.df d_Walk_asks_here (List.mem_of_getElem? (l := fnL) (i := 14) rfl)
theorem mk_Walk_asks_here {P : Program} {w : World} {K : PySem.W.Frag} {mg : Str → Option Value} {base : Heap} {k : Nat} {sp : Sp} (T : Tx K mg) (len : ∀ vs H Q E, sp vs H Q E → vs.length = 1)
    (hbody : ∀ (cdv : Value) (A : Around) (outer : List Env) (s : Shared) (H : Hp) (vs : List V) (Q : VK) (E : XK), Room k (A.deeper (envOfC "Walk.asks_here" (defScope s_Walk_asks_here) s.heap.objs.size (He.ma K (He.ga K "Walk") "asks_here") cdv)) → sp vs H Q E →
      ∃ t, PSs (cxOf CX0 P w K mg base nN_Walk_asks_here "Walk.asks_here" (defScope s_Walk_asks_here) (He.ma K (He.ga K "Walk") "asks_here") cdv A outer s H E).nox (defBody s_Walk_asks_here) t ∧ t { nx := fun _ H' => Q .non H', rt := Q } (start nN_Walk_asks_here vs) H) : Met P w K mg base (k + 1) (He.ga K "Walk") "asks_here" sp := by
  obtain ⟨fd, F⟩ := D_Walk_asks_here T
  exact ⟨_, fd, ["self"], T.cl_Walk, T.m_Walk_asks_here, F.ok sc_Walk_asks_here len fun cdv A outer s H vs Q E hr h => let ⟨t, h1, h2⟩ := hbody cdv A outer s H vs Q E hr h; ⟨t, h1.nox, h2⟩, F.bindsN fun _ _ _ _ _ _ us hl => match us, hl with | [_], _ => rfl⟩
/-! Walk.choose_here: 0 self, 1 seen -/
abbrev nN_Walk_choose_here : List Str := ["self", "seen"]
theorem sc_Walk_choose_here : FnScope nN_Walk_choose_here ["self"] (defScope s_Walk_choose_here) := C8.fnScope_by (by decide +kernel)
theorem D_Walk_choose_here {K : PySem.W.Frag} {mg : Str → Option Value} (T : Tx K mg) : ∃ fd, FnP K "choose_here" "Walk.choose_here" s_Walk_choose_here [] (He.ma K (He.ga K "Walk") "choose_here") fd := T.df d_Walk_choose_here (List.mem_of_getElem? (l := fnL) (i := 15) rfl)
theorem mk_Walk_choose_here {P : Program} {w : World} {K : PySem.W.Frag} {mg : Str → Option Value} {base : Heap} {k : Nat} {sp : Sp} (T : Tx K mg) (len : ∀ vs H Q E, sp vs H Q E → vs.length = 1)
    (hbody : ∀ (cdv : Value) (A : Around) (outer : List Env) (s : Shared) (H : Hp) (vs : List V) (Q : VK) (E : XK), Room k (A.deeper (envOfC "Walk.choose_here" (defScope s_Walk_choose_here) s.heap.objs.size (He.ma K (He.ga K "Walk") "choose_here") cdv)) → sp vs H Q E →
      ∃ t, PSs (cxOf CX0 P w K mg base nN_Walk_choose_here "Walk.choose_here" (defScope s_Walk_choose_here) (He.ma K (He.ga K "Walk") "choose_here") cdv A outer s H E).nox (defBody s_Walk_choose_here) t ∧ t { nx := fun _ H' => Q .non H', rt := Q } (start nN_Walk_choose_here vs) H) : Met P w K mg base (k + 1) (He.ga K "Walk") "choose_here" sp := by
  obtain ⟨fd, F⟩ := D_Walk_choose_here T
  exact ⟨_, fd, ["self"], T.cl_Walk, T.m_Walk_choose_here, F.ok sc_Walk_choose_here len fun cdv A outer s H vs Q E hr h => let ⟨t, h1, h2⟩ := hbody cdv A outer s H vs Q E hr h; ⟨t, h1.nox, h2⟩, F.bindsN fun _ _ _ _ _ _ us hl => match us, hl with | [_], _ => rfl⟩
/-! Walk.step_on: 0 self, 1 speed, 2 begin, 3 again, 4 most, 5 ahead, 6 first, 7 many, 8 size -/
abbrev nN_Walk_step_on : List Str := ["self", "speed", "begin", "again", "most", "ahead", "first", "many", "size"]
theorem sc_Walk_step_on : FnScope nN_Walk_step_on ["self", "speed"] (defScope s_Walk_step_on) := C8.fnScope_by (by decide +kernel)
theorem D_Walk_step_on {K : PySem.W.Frag} {mg : Str → Option Value} (T : Tx K mg) : ∃ fd, FnP K "step_on" "Walk.step_on" s_Walk_step_on [] (He.ma K (He.ga K "Walk") "step_on") fd := T.df d_Walk_step_on (List.mem_of_getElem? (l := fnL) (i := 16) rfl)
theorem mk_Walk_step_on {P : Program} {w : World} {K : PySem.W.Frag} {mg : Str → Option Value} {base : Heap} {k : Nat} {sp : Sp} (T : Tx K mg) (len : ∀ vs H Q E, sp vs H Q E → vs.length = 2)
    (hbody : ∀ (cdv : Value) (A : Around) (outer : List Env) (s : Shared) (H : Hp) (vs : List V) (Q : VK) (E : XK), Room k (A.deeper (envOfC "Walk.step_on" (defScope s_Walk_step_on) s.heap.objs.size (He.ma K (He.ga K "Walk") "step_on") cdv)) → sp vs H Q E →
      ∃ t, PSs (cxOf CX0 P w K mg base nN_Walk_step_on "Walk.step_on" (defScope s_Walk_step_on) (He.ma K (He.ga K "Walk") "step_on") cdv A outer s H E).nox (defBody s_Walk_step_on) t ∧ t { nx := fun _ H' => Q .non H', rt := Q } (start nN_Walk_step_on vs) H) : Met P w K mg base (k + 1) (He.ga K "Walk") "step_on" sp := by
  obtain ⟨fd, F⟩ := D_Walk_step_on T
  exact ⟨_, fd, ["self", "speed"], T.cl_Walk, T.m_Walk_step_on, F.ok sc_Walk_step_on len fun cdv A outer s H vs Q E hr h => let ⟨t, h1, h2⟩ := hbody cdv A outer s H vs Q E hr h; ⟨t, h1.nox, h2⟩, F.bindsN fun _ _ _ _ _ _ us hl => match us, hl with | [_, _], _ => rfl⟩
/-! Run.__init__: 0 self, 1 rates, 2 begun, 3 whole, 4 plays, 5 stalls, 6 ended, 7 kept -/
abbrev nN_Run_init : List Str := ["self", "rates", "begun", "whole", "plays", "stalls", "ended", "kept"]
theorem sc_Run_init : FnScope nN_Run_init ["self", "rates", "begun", "whole", "plays", "stalls", "ended", "kept"] (defScope s_Run_init) := C8.fnScope_by (by decide +kernel)
theorem D_Run_init {K : PySem.W.Frag} {mg : Str → Option Value} (T : Tx K mg) : ∃ fd, FnP K "__init__" "Run.__init__" s_Run_init [] (He.ma K (He.ga K "Run") "__init__") fd := T.df d_Run_init (List.mem_of_getElem? (l := fnL) (i := 17) rfl)
theorem mk_Run_init {P : Program} {w : World} {K : PySem.W.Frag} {mg : Str → Option Value} {base : Heap} {k : Nat} {sp : Sp} (T : Tx K mg) (len : ∀ vs H Q E, sp vs H Q E → vs.length = 8)
    (hbody : ∀ (cdv : Value) (A : Around) (outer : List Env) (s : Shared) (H : Hp) (vs : List V) (Q : VK) (E : XK), Room k (A.deeper (envOfC "Run.__init__" (defScope s_Run_init) s.heap.objs.size (He.ma K (He.ga K "Run") "__init__") cdv)) → sp vs H Q E →
      ∃ t, PSs (cxOf CX0 P w K mg base nN_Run_init "Run.__init__" (defScope s_Run_init) (He.ma K (He.ga K "Run") "__init__") cdv A outer s H E).nox (defBody s_Run_init) t ∧ t { nx := fun _ H' => Q .non H', rt := Q } (start nN_Run_init vs) H) : Mak P w K mg base (k + 1) "Run" sp := by
  obtain ⟨fd, F⟩ := D_Run_init T
  exact ⟨_, fd, ["self", "rates", "begun", "whole", "plays", "stalls", "ended", "kept"], T.mk_Run, F.ok sc_Run_init len fun cdv A outer s H vs Q E hr h => let ⟨t, h1, h2⟩ := hbody cdv A outer s H vs Q E hr h; ⟨t, h1.nox, h2⟩, T.g_Run, F.bindsN fun _ _ _ _ _ _ us hl => match us, hl with | [_, _, _, _, _, _, _, _], _ => rfl⟩
/-! Run.all_told: 0 self -/
abbrev nN_Run_all_told : List Str := ["self"]
theorem sc_Run_all_told : FnScope nN_Run_all_told ["self"] (defScope s_Run_all_told) := C8.fnScope_by (by decide +kernel)
theorem D_Run_all_told {K : PySem.W.Frag} {mg : Str → Option Value} (T : Tx K mg) : ∃ fd, FnP K "all_told" "Run.all_told" s_Run_all_told [] (He.ma K (He.ga K "Run") "all_told") fd := T.df d_Run_all_told (List.mem_of_getElem? (l := fnL) (i := 18) rfl)
theorem mk_Run_all_told {P : Program} {w : World} {K : PySem.W.Frag} {mg : Str → Option Value} {base : Heap} {k : Nat} {sp : Sp} (T : Tx K mg) (len : ∀ vs H Q E, sp vs H Q E → vs.length = 1)
    (hbody : ∀ (cdv : Value) (A : Around) (outer : List Env) (s : Shared) (H : Hp) (vs : List V) (Q : VK) (E : XK), Room k (A.deeper (envOfC "Run.all_told" (defScope s_Run_all_told) s.heap.objs.size (He.ma K (He.ga K "Run") "all_told") cdv)) → sp vs H Q E →
      ∃ t, PSs (cxOf CX0 P w K mg base nN_Run_all_told "Run.all_told" (defScope s_Run_all_told) (He.ma K (He.ga K "Run") "all_told") cdv A outer s H E).nox (defBody s_Run_all_told) t ∧ t { nx := fun _ H' => Q .non H', rt := Q } (start nN_Run_all_told vs) H) : Met P w K mg base (k + 1) (He.ga K "Run") "all_told" sp := by
  obtain ⟨fd, F⟩ := D_Run_all_told T
  exact ⟨_, fd, ["self"], T.cl_Run, T.m_Run_all_told, F.ok sc_Run_all_told len fun cdv A outer s H vs Q E hr h => let ⟨t, h1, h2⟩ := hbody cdv A outer s H vs Q E hr h; ⟨t, h1.nox, h2⟩, F.bindsN fun _ _ _ _ _ _ us hl => match us, hl with | [_], _ => rfl⟩
/-! Run.__eq__: 0 self, 1 other -/
abbrev nN_Run_eq : List Str := ["self", "other"]
theorem sc_Run_eq : FnScope nN_Run_eq ["self", "other"] (defScope s_Run_eq) := C8.fnScope_by (by decide +kernel)
theorem D_Run_eq {K : PySem.W.Frag} {mg : Str → Option Value} (T : Tx K mg) : ∃ fd, FnP K "__eq__" "Run.__eq__" s_Run_eq [] (He.ma K (He.ga K "Run") "__eq__") fd := T.df d_Run_eq (List.mem_of_getElem? (l := fnL) (i := 19) rfl)
theorem mk_Run_eq {P : Program} {w : World} {K : PySem.W.Frag} {mg : Str → Option Value} {base : Heap} {k : Nat} {sp : Sp} (T : Tx K mg) (len : ∀ vs H Q E, sp vs H Q E → vs.length = 2)
    (hbody : ∀ (cdv : Value) (A : Around) (outer : List Env) (s : Shared) (H : Hp) (vs : List V) (Q : VK) (E : XK), Room k (A.deeper (envOfC "Run.__eq__" (defScope s_Run_eq) s.heap.objs.size (He.ma K (He.ga K "Run") "__eq__") cdv)) → sp vs H Q E →
      ∃ t, PSs (cxOf CX0 P w K mg base nN_Run_eq "Run.__eq__" (defScope s_Run_eq) (He.ma K (He.ga K "Run") "__eq__") cdv A outer s H E).nox (defBody s_Run_eq) t ∧ t { nx := fun _ H' => Q .non H', rt := Q } (start nN_Run_eq vs) H) : Met P w K mg base (k + 1) (He.ga K "Run") "__eq__" sp := by
  obtain ⟨fd, F⟩ := D_Run_eq T
  exact ⟨_, fd, ["self", "other"], T.cl_Run, T.m_Run_eq, F.ok sc_Run_eq len fun cdv A outer s H vs Q E hr h => let ⟨t, h1, h2⟩ := hbody cdv A outer s H vs Q E hr h; ⟨t, h1.nox, h2⟩, F.bindsN fun _ _ _ _ _ _ us hl => match us, hl with | [_, _], _ => rfl⟩
/-! Run.__len__: 0 self -/
abbrev nN_Run_len : List Str := ["self"]
theorem sc_Run_len : FnScope nN_Run_len ["self"] (defScope s_Run_len) := C8.fnScope_by (by decide +kernel)
theorem D_Run_len {K : PySem.W.Frag} {mg : Str → Option Value} (T : Tx K mg) : ∃ fd, FnP K "__len__" "Run.__len__" s_Run_len [] (He.ma K (He.ga K "Run") "__len__") fd := T.df d_Run_len (List.mem_of_getElem? (l := fnL) (i := 20) rfl)
theorem mk_Run_len {P : Program} {w : World} {K : PySem.W.Frag} {mg : Str → Option Value} {base : Heap} {k : Nat} {sp : Sp} (T : Tx K mg) (len : ∀ vs H Q E, sp vs H Q E → vs.length = 1)
    (hbody : ∀ (cdv : Value) (A : Around) (outer : List Env) (s : Shared) (H : Hp) (vs : List V) (Q : VK) (E : XK), Room k (A.deeper (envOfC "Run.__len__" (defScope s_Run_len) s.heap.objs.size (He.ma K (He.ga K "Run") "__len__") cdv)) → sp vs H Q E →
      ∃ t, PSs (cxOf CX0 P w K mg base nN_Run_len "Run.__len__" (defScope s_Run_len) (He.ma K (He.ga K "Run") "__len__") cdv A outer s H E).nox (defBody s_Run_len) t ∧ t { nx := fun _ H' => Q .non H', rt := Q } (start nN_Run_len vs) H) : Met P w K mg base (k + 1) (He.ga K "Run") "__len__" sp := by
  obtain ⟨fd, F⟩ := D_Run_len T
  exact ⟨_, fd, ["self"], T.cl_Run, T.m_Run_len, F.ok sc_Run_len len fun cdv A outer s H vs Q E hr h => let ⟨t, h1, h2⟩ := hbody cdv A outer s H vs Q E hr h; ⟨t, h1.nox, h2⟩, F.bindsN fun _ _ _ _ _ _ us hl => match us, hl with | [_], _ => rfl⟩
/-! run_of: 0 talk, 1 road, 2 chooser, 3 begin, 4 again, 5 most, 6 wait, 7 opens, 8 walk, 9 told, 10 rates, 11 begun, 12 whole, 13 plays, 14 stalls, 15 some -/
abbrev nN_run_of : List Str := ["talk", "road", "chooser", "begin", "again", "most", "wait", "opens", "walk", "told", "rates", "begun", "whole", "plays", "stalls", "some"]
theorem sc_run_of : FnScope nN_run_of ["talk", "road", "chooser", "begin", "again", "most", "wait", "opens"] (defScope s_run_of) := C8.fnScope_by (by decide +kernel)
theorem D_run_of {K : PySem.W.Frag} {mg : Str → Option Value} (T : Tx K mg) : ∃ fd, FnP K "run_of" "run_of" s_run_of [("begin", V.int 4), ("again", V.int 8), ("most", V.int 30), ("wait", V.int 0), ("opens", V.non)] (He.ga K "run_of") fd := T.df d_run_of (List.mem_of_getElem? (l := fnL) (i := 21) rfl)
theorem mk_run_of {P : Program} {w : World} {K : PySem.W.Frag} {mg : Str → Option Value} {base : Heap} {k : Nat} {sp : Sp} (T : Tx K mg) (len : ∀ vs H Q E, sp vs H Q E → vs.length = 8)
    (hbody : ∀ (cdv : Value) (A : Around) (outer : List Env) (s : Shared) (H : Hp) (vs : List V) (Q : VK) (E : XK), Room k (A.deeper (envOfC "run_of" (defScope s_run_of) s.heap.objs.size (He.ga K "run_of") cdv)) → sp vs H Q E →
      ∃ t, PSs (cxOf CX0 P w K mg base nN_run_of "run_of" (defScope s_run_of) (He.ga K "run_of") cdv A outer s H E).nox (defBody s_run_of) t ∧ t { nx := fun _ H' => Q .non H', rt := Q } (start nN_run_of vs) H) : ∃ fd, FnP K "run_of" "run_of" s_run_of [("begin", V.int 4), ("again", V.int 8), ("most", V.int 30), ("wait", V.int 0), ("opens", V.non)] (He.ga K "run_of") fd ∧ FnOk P w K mg base CX0 (k + 1) (He.ga K "run_of") fd ["talk", "road", "chooser", "begin", "again", "most", "wait", "opens"] sp := by
  obtain ⟨fd, F⟩ := D_run_of T
  exact ⟨fd, F, F.ok sc_run_of len fun cdv A outer s H vs Q E hr h => let ⟨t, h1, h2⟩ := hbody cdv A outer s H vs Q E hr h; ⟨t, h1.nox, h2⟩⟩
/-! Road.__init__: 0 self, 1 pieces -/
abbrev nN_Road_init : List Str := ["self", "pieces"]
theorem sc_Road_init : FnScope nN_Road_init ["self", "pieces"] (defScope s_Road_init) := C8.fnScope_by (by decide +kernel)
theorem D_Road_init {K : PySem.W.Frag} {mg : Str → Option Value} (T : Tx K mg) : ∃ fd, FnP K "__init__" "Road.__init__" s_Road_init [] (He.ma K (He.ga K "Road") "__init__") fd := T.df d_Road_init (List.mem_of_getElem? (l := fnL) (i := 22) rfl)
theorem mk_Road_init {P : Program} {w : World} {K : PySem.W.Frag} {mg : Str → Option Value} {base : Heap} {k : Nat} {sp : Sp} (T : Tx K mg) (len : ∀ vs H Q E, sp vs H Q E → vs.length = 2)
    (hbody : ∀ (cdv : Value) (A : Around) (outer : List Env) (s : Shared) (H : Hp) (vs : List V) (Q : VK) (E : XK), Room k (A.deeper (envOfC "Road.__init__" (defScope s_Road_init) s.heap.objs.size (He.ma K (He.ga K "Road") "__init__") cdv)) → sp vs H Q E →
      ∃ t, PSs (cxOf CX0 P w K mg base nN_Road_init "Road.__init__" (defScope s_Road_init) (He.ma K (He.ga K "Road") "__init__") cdv A outer s H E).nox (defBody s_Road_init) t ∧ t { nx := fun _ H' => Q .non H', rt := Q } (start nN_Road_init vs) H) : Mak P w K mg base (k + 1) "Road" sp := by
  obtain ⟨fd, F⟩ := D_Road_init T
  exact ⟨_, fd, ["self", "pieces"], T.mk_Road, F.ok sc_Road_init len fun cdv A outer s H vs Q E hr h => let ⟨t, h1, h2⟩ := hbody cdv A outer s H vs Q E hr h; ⟨t, h1.nox, h2⟩, T.g_Road, F.bindsN fun _ _ _ _ _ _ us hl => match us, hl with | [_, _], _ => rfl⟩
/-! Road.speed_at: 0 self, 1 beat, 2 left, 3 beats, 4 speed -/
abbrev nN_Road_speed_at : List Str := ["self", "beat", "left", "beats", "speed"]
theorem sc_Road_speed_at : FnScope nN_Road_speed_at ["self", "beat"] (defScope s_Road_speed_at) := C8.fnScope_by (by decide +kernel)
theorem D_Road_speed_at {K : PySem.W.Frag} {mg : Str → Option Value} (T : Tx K mg) : ∃ fd, FnP K "speed_at" "Road.speed_at" s_Road_speed_at [] (He.ma K (He.ga K "Road") "speed_at") fd := T.df d_Road_speed_at (List.mem_of_getElem? (l := fnL) (i := 23) rfl)
theorem mk_Road_speed_at {P : Program} {w : World} {K : PySem.W.Frag} {mg : Str → Option Value} {base : Heap} {k : Nat} {sp : Sp} (T : Tx K mg) (len : ∀ vs H Q E, sp vs H Q E → vs.length = 2)
    (hbody : ∀ (cdv : Value) (A : Around) (outer : List Env) (s : Shared) (H : Hp) (vs : List V) (Q : VK) (E : XK), Room k (A.deeper (envOfC "Road.speed_at" (defScope s_Road_speed_at) s.heap.objs.size (He.ma K (He.ga K "Road") "speed_at") cdv)) → sp vs H Q E →
      ∃ t, PSs (cxOf CX0 P w K mg base nN_Road_speed_at "Road.speed_at" (defScope s_Road_speed_at) (He.ma K (He.ga K "Road") "speed_at") cdv A outer s H E).nox (defBody s_Road_speed_at) t ∧ t { nx := fun _ H' => Q .non H', rt := Q } (start nN_Road_speed_at vs) H) : Met P w K mg base (k + 1) (He.ga K "Road") "speed_at" sp := by
  obtain ⟨fd, F⟩ := D_Road_speed_at T
  exact ⟨_, fd, ["self", "beat"], T.cl_Road, T.m_Road_speed_at, F.ok sc_Road_speed_at len fun cdv A outer s H vs Q E hr h => let ⟨t, h1, h2⟩ := hbody cdv A outer s H vs Q E hr h; ⟨t, h1.nox, h2⟩, F.bindsN fun _ _ _ _ _ _ us hl => match us, hl with | [_, _], _ => rfl⟩
/-! Road.sum_of: 0 self, 1 first, 2 last, 3 found, 4 at, 5 beats, 6 speed -/
abbrev nN_Road_sum_of : List Str := ["self", "first", "last", "found", "at", "beats", "speed"]
theorem sc_Road_sum_of : FnScope nN_Road_sum_of ["self", "first", "last"] (defScope s_Road_sum_of) := C8.fnScope_by (by decide +kernel)
theorem D_Road_sum_of {K : PySem.W.Frag} {mg : Str → Option Value} (T : Tx K mg) : ∃ fd, FnP K "sum_of" "Road.sum_of" s_Road_sum_of [] (He.ma K (He.ga K "Road") "sum_of") fd := T.df d_Road_sum_of (List.mem_of_getElem? (l := fnL) (i := 24) rfl)
theorem mk_Road_sum_of {P : Program} {w : World} {K : PySem.W.Frag} {mg : Str → Option Value} {base : Heap} {k : Nat} {sp : Sp} (T : Tx K mg) (len : ∀ vs H Q E, sp vs H Q E → vs.length = 3)
    (hbody : ∀ (cdv : Value) (A : Around) (outer : List Env) (s : Shared) (H : Hp) (vs : List V) (Q : VK) (E : XK), Room k (A.deeper (envOfC "Road.sum_of" (defScope s_Road_sum_of) s.heap.objs.size (He.ma K (He.ga K "Road") "sum_of") cdv)) → sp vs H Q E →
      ∃ t, PSs (cxOf CX0 P w K mg base nN_Road_sum_of "Road.sum_of" (defScope s_Road_sum_of) (He.ma K (He.ga K "Road") "sum_of") cdv A outer s H E).nox (defBody s_Road_sum_of) t ∧ t { nx := fun _ H' => Q .non H', rt := Q } (start nN_Road_sum_of vs) H) : Met P w K mg base (k + 1) (He.ga K "Road") "sum_of" sp := by
  obtain ⟨fd, F⟩ := D_Road_sum_of T
  exact ⟨_, fd, ["self", "first", "last"], T.cl_Road, T.m_Road_sum_of, F.ok sc_Road_sum_of len fun cdv A outer s H vs Q E hr h => let ⟨t, h1, h2⟩ := hbody cdv A outer s H vs Q E hr h; ⟨t, h1.nox, h2⟩, F.bindsN fun _ _ _ _ _ _ us hl => match us, hl with | [_, _, _], _ => rfl⟩
/-! Road.fetched: 0 self, 1 begin, 2 size, 3 wait, 4 here, 5 left, 6 at, 7 beats, 8 speed -/
abbrev nN_Road_fetched : List Str := ["self", "begin", "size", "wait", "here", "left", "at", "beats", "speed"]
theorem sc_Road_fetched : FnScope nN_Road_fetched ["self", "begin", "size", "wait"] (defScope s_Road_fetched) := C8.fnScope_by (by decide +kernel)
theorem D_Road_fetched {K : PySem.W.Frag} {mg : Str → Option Value} (T : Tx K mg) : ∃ fd, FnP K "fetched" "Road.fetched" s_Road_fetched [("wait", V.int 0)] (He.ma K (He.ga K "Road") "fetched") fd := T.df d_Road_fetched (List.mem_of_getElem? (l := fnL) (i := 25) rfl)
theorem mk_Road_fetched {P : Program} {w : World} {K : PySem.W.Frag} {mg : Str → Option Value} {base : Heap} {k : Nat} {sp : Sp} (T : Tx K mg) (len : ∀ vs H Q E, sp vs H Q E → vs.length = 4)
    (hbody : ∀ (cdv : Value) (A : Around) (outer : List Env) (s : Shared) (H : Hp) (vs : List V) (Q : VK) (E : XK), Room k (A.deeper (envOfC "Road.fetched" (defScope s_Road_fetched) s.heap.objs.size (He.ma K (He.ga K "Road") "fetched") cdv)) → sp vs H Q E →
      ∃ t, PSs (cxOf CX0 P w K mg base nN_Road_fetched "Road.fetched" (defScope s_Road_fetched) (He.ma K (He.ga K "Road") "fetched") cdv A outer s H E).nox (defBody s_Road_fetched) t ∧ t { nx := fun _ H' => Q .non H', rt := Q } (start nN_Road_fetched vs) H) : ∃ fd, FnP K "fetched" "Road.fetched" s_Road_fetched [("wait", V.int 0)] (He.ma K (He.ga K "Road") "fetched") fd ∧ FnOk P w K mg base CX0 (k + 1) (He.ma K (He.ga K "Road") "fetched") fd ["self", "begin", "size", "wait"] sp := by
  obtain ⟨fd, F⟩ := D_Road_fetched T
  exact ⟨fd, F, F.ok sc_Road_fetched len fun cdv A outer s H vs Q E hr h => let ⟨t, h1, h2⟩ := hbody cdv A outer s H vs Q E hr h; ⟨t, h1.nox, h2⟩⟩
/-! is_whole: 0 thing -/
abbrev nN_is_whole : List Str := ["thing"]
theorem sc_is_whole : FnScope nN_is_whole ["thing"] (defScope s_is_whole) := C8.fnScope_by (by decide +kernel)
theorem D_is_whole {K : PySem.W.Frag} {mg : Str → Option Value} (T : Tx K mg) : ∃ fd, FnP K "is_whole" "is_whole" s_is_whole [] (He.ga K "is_whole") fd := T.df d_is_whole (List.mem_of_getElem? (l := fnL) (i := 26) rfl)
theorem mk_is_whole {P : Program} {w : World} {K : PySem.W.Frag} {mg : Str → Option Value} {base : Heap} {k : Nat} {sp : Sp} (T : Tx K mg) (len : ∀ vs H Q E, sp vs H Q E → vs.length = 1)
    (hbody : ∀ (cdv : Value) (A : Around) (outer : List Env) (s : Shared) (H : Hp) (vs : List V) (Q : VK) (E : XK), Room k (A.deeper (envOfC "is_whole" (defScope s_is_whole) s.heap.objs.size (He.ga K "is_whole") cdv)) → sp vs H Q E →
      ∃ t, PSs (cxOf CX0 P w K mg base nN_is_whole "is_whole" (defScope s_is_whole) (He.ga K "is_whole") cdv A outer s H E).nox (defBody s_is_whole) t ∧ t { nx := fun _ H' => Q .non H', rt := Q } (start nN_is_whole vs) H) : Cal P w K mg base (k + 1) "is_whole" sp := by
  obtain ⟨fd, F⟩ := D_is_whole T
  exact ⟨_, fd, ["thing"], F.ok sc_is_whole len fun cdv A outer s H vs Q E hr h => let ⟨t, h1, h2⟩ := hbody cdv A outer s H vs Q E hr h; ⟨t, h1.nox, h2⟩, T.g_is_whole, F.kp, F.bindsN fun _ _ _ _ _ _ us hl => match us, hl with | [_], _ => rfl⟩
/-! by_store: 0 steps*, 1 rule -/
abbrev nN_by_store : List Str := ["steps", "rule"]
theorem sc_by_store : FnScope nN_by_store ["steps"] (defScope s_by_store) := C8.fnScope_by (by decide +kernel)
theorem D_by_store {K : PySem.W.Frag} {mg : Str → Option Value} (T : Tx K mg) : ∃ fd, FnP K "by_store" "by_store" s_by_store [] (He.ga K "by_store") fd := T.df d_by_store (List.mem_of_getElem? (l := fnL) (i := 27) rfl)
theorem mk_by_store {P : Program} {w : World} {K : PySem.W.Frag} {mg : Str → Option Value} {base : Heap} {k : Nat} {sp : Sp} (T : Tx K mg) (len : ∀ vs H Q E, sp vs H Q E → vs.length = 1)
    (hbody : ∀ (cdv : Value) (A : Around) (outer : List Env) (s : Shared) (H : Hp) (vs : List V) (Q : VK) (E : XK), Room k (A.deeper (envOfC "by_store" (defScope s_by_store) s.heap.objs.size (He.ga K "by_store") cdv)) → sp vs H Q E →
      ∃ t, PSs (cxOf CX0 P w K mg base nN_by_store "by_store" (defScope s_by_store) (He.ga K "by_store") cdv A outer s H E).nox (defBody s_by_store) t ∧ t { nx := fun _ H' => Q .non H', rt := Q } (start nN_by_store vs) H) : Cal P w K mg base (k + 1) "by_store" sp := by
  obtain ⟨fd, F⟩ := D_by_store T
  exact ⟨_, fd, ["steps"], F.ok sc_by_store len fun cdv A outer s H vs Q E hr h => let ⟨t, h1, h2⟩ := hbody cdv A outer s H vs Q E hr h; ⟨t, h1.nox, h2⟩, T.g_by_store, F.kp, F.bindsN fun _ _ _ _ _ _ us hl => match us, hl with | [_], _ => rfl⟩
/-! by_speed: 0 talk*, 1 part*, 2 rule -/
abbrev nN_by_speed : List Str := ["talk", "part", "rule"]
theorem sc_by_speed : FnScope nN_by_speed ["talk", "part"] (defScope s_by_speed) := C8.fnScope_by (by decide +kernel)
theorem D_by_speed {K : PySem.W.Frag} {mg : Str → Option Value} (T : Tx K mg) : ∃ fd, FnP K "by_speed" "by_speed" s_by_speed [("part", V.ref (He.ga K "PART"))] (He.ga K "by_speed") fd := T.df d_by_speed (List.mem_of_getElem? (l := fnL) (i := 28) rfl)
theorem mk_by_speed {P : Program} {w : World} {K : PySem.W.Frag} {mg : Str → Option Value} {base : Heap} {k : Nat} {sp : Sp} (T : Tx K mg) (len : ∀ vs H Q E, sp vs H Q E → vs.length = 2)
    (hbody : ∀ (cdv : Value) (A : Around) (outer : List Env) (s : Shared) (H : Hp) (vs : List V) (Q : VK) (E : XK), Room k (A.deeper (envOfC "by_speed" (defScope s_by_speed) s.heap.objs.size (He.ga K "by_speed") cdv)) → sp vs H Q E →
      ∃ t, PSs (cxOf CX0 P w K mg base nN_by_speed "by_speed" (defScope s_by_speed) (He.ga K "by_speed") cdv A outer s H E).nox (defBody s_by_speed) t ∧ t { nx := fun _ H' => Q .non H', rt := Q } (start nN_by_speed vs) H) : ∃ fd, FnP K "by_speed" "by_speed" s_by_speed [("part", V.ref (He.ga K "PART"))] (He.ga K "by_speed") fd ∧ FnOk P w K mg base CX0 (k + 1) (He.ga K "by_speed") fd ["talk", "part"] sp := by
  obtain ⟨fd, F⟩ := D_by_speed T
  exact ⟨fd, F, F.ok sc_by_speed len fun cdv A outer s H vs Q E hr h => let ⟨t, h1, h2⟩ := hbody cdv A outer s H vs Q E hr h; ⟨t, h1.nox, h2⟩⟩
/-! calm: 0 rule*, 1 calmed -/
abbrev nN_calm : List Str := ["rule", "calmed"]
theorem sc_calm : FnScope nN_calm ["rule"] (defScope s_calm) := C8.fnScope_by (by decide +kernel)
theorem D_calm {K : PySem.W.Frag} {mg : Str → Option Value} (T : Tx K mg) : ∃ fd, FnP K "calm" "calm" s_calm [] (He.ga K "calm") fd := T.df d_calm (List.mem_of_getElem? (l := fnL) (i := 29) rfl)
theorem mk_calm {P : Program} {w : World} {K : PySem.W.Frag} {mg : Str → Option Value} {base : Heap} {k : Nat} {sp : Sp} (T : Tx K mg) (len : ∀ vs H Q E, sp vs H Q E → vs.length = 1)
    (hbody : ∀ (cdv : Value) (A : Around) (outer : List Env) (s : Shared) (H : Hp) (vs : List V) (Q : VK) (E : XK), Room k (A.deeper (envOfC "calm" (defScope s_calm) s.heap.objs.size (He.ga K "calm") cdv)) → sp vs H Q E →
      ∃ t, PSs (cxOf CX0 P w K mg base nN_calm "calm" (defScope s_calm) (He.ga K "calm") cdv A outer s H E).nox (defBody s_calm) t ∧ t { nx := fun _ H' => Q .non H', rt := Q } (start nN_calm vs) H) : Cal P w K mg base (k + 1) "calm" sp := by
  obtain ⟨fd, F⟩ := D_calm T
  exact ⟨_, fd, ["rule"], F.ok sc_calm len fun cdv A outer s H vs Q E hr h => let ⟨t, h1, h2⟩ := hbody cdv A outer s H vs Q E hr h; ⟨t, h1.nox, h2⟩, T.g_calm, F.kp, F.bindsN fun _ _ _ _ _ _ us hl => match us, hl with | [_], _ => rfl⟩
/-! Talk.__init__: 0 self, 1 lengths, 2 sizes -/
abbrev nN_Talk_init : List Str := ["self", "lengths", "sizes"]
theorem sc_Talk_init : FnScope nN_Talk_init ["self", "lengths", "sizes"] (defScope s_Talk_init) := C8.fnScope_by (by decide +kernel)
theorem D_Talk_init {K : PySem.W.Frag} {mg : Str → Option Value} (T : Tx K mg) : ∃ fd, FnP K "__init__" "Talk.__init__" s_Talk_init [] (He.ma K (He.ga K "Talk") "__init__") fd := T.df d_Talk_init (List.mem_of_getElem? (l := fnL) (i := 30) rfl)
theorem mk_Talk_init {P : Program} {w : World} {K : PySem.W.Frag} {mg : Str → Option Value} {base : Heap} {k : Nat} {sp : Sp} (T : Tx K mg) (len : ∀ vs H Q E, sp vs H Q E → vs.length = 3)
    (hbody : ∀ (cdv : Value) (A : Around) (outer : List Env) (s : Shared) (H : Hp) (vs : List V) (Q : VK) (E : XK), Room k (A.deeper (envOfC "Talk.__init__" (defScope s_Talk_init) s.heap.objs.size (He.ma K (He.ga K "Talk") "__init__") cdv)) → sp vs H Q E →
      ∃ t, PSs (cxOf CX0 P w K mg base nN_Talk_init "Talk.__init__" (defScope s_Talk_init) (He.ma K (He.ga K "Talk") "__init__") cdv A outer s H E).nox (defBody s_Talk_init) t ∧ t { nx := fun _ H' => Q .non H', rt := Q } (start nN_Talk_init vs) H) : Mak P w K mg base (k + 1) "Talk" sp := by
  obtain ⟨fd, F⟩ := D_Talk_init T
  exact ⟨_, fd, ["self", "lengths", "sizes"], T.mk_Talk, F.ok sc_Talk_init len fun cdv A outer s H vs Q E hr h => let ⟨t, h1, h2⟩ := hbody cdv A outer s H vs Q E hr h; ⟨t, h1.nox, h2⟩, T.g_Talk, F.bindsN fun _ _ _ _ _ _ us hl => match us, hl with | [_, _, _], _ => rfl⟩
/-! Talk.__len__: 0 self -/
abbrev nN_Talk_len : List Str := ["self"]
theorem sc_Talk_len : FnScope nN_Talk_len ["self"] (defScope s_Talk_len) := C8.fnScope_by (by decide +kernel)
theorem D_Talk_len {K : PySem.W.Frag} {mg : Str → Option Value} (T : Tx K mg) : ∃ fd, FnP K "__len__" "Talk.__len__" s_Talk_len [] (He.ma K (He.ga K "Talk") "__len__") fd := T.df d_Talk_len (List.mem_of_getElem? (l := fnL) (i := 31) rfl)
theorem mk_Talk_len {P : Program} {w : World} {K : PySem.W.Frag} {mg : Str → Option Value} {base : Heap} {k : Nat} {sp : Sp} (T : Tx K mg) (len : ∀ vs H Q E, sp vs H Q E → vs.length = 1)
    (hbody : ∀ (cdv : Value) (A : Around) (outer : List Env) (s : Shared) (H : Hp) (vs : List V) (Q : VK) (E : XK), Room k (A.deeper (envOfC "Talk.__len__" (defScope s_Talk_len) s.heap.objs.size (He.ma K (He.ga K "Talk") "__len__") cdv)) → sp vs H Q E →
      ∃ t, PSs (cxOf CX0 P w K mg base nN_Talk_len "Talk.__len__" (defScope s_Talk_len) (He.ma K (He.ga K "Talk") "__len__") cdv A outer s H E).nox (defBody s_Talk_len) t ∧ t { nx := fun _ H' => Q .non H', rt := Q } (start nN_Talk_len vs) H) : Met P w K mg base (k + 1) (He.ga K "Talk") "__len__" sp := by
  obtain ⟨fd, F⟩ := D_Talk_len T
  exact ⟨_, fd, ["self"], T.cl_Talk, T.m_Talk_len, F.ok sc_Talk_len len fun cdv A outer s H vs Q E hr h => let ⟨t, h1, h2⟩ := hbody cdv A outer s H vs Q E hr h; ⟨t, h1.nox, h2⟩, F.bindsN fun _ _ _ _ _ _ us hl => match us, hl with | [_], _ => rfl⟩
/-! Talk.many_rates: 0 self, 1 first, 2 rest -/
abbrev nN_Talk_many_rates : List Str := ["self", "first", "rest"]
theorem sc_Talk_many_rates : FnScope nN_Talk_many_rates ["self"] (defScope s_Talk_many_rates) := C8.fnScope_by (by decide +kernel)
theorem D_Talk_many_rates {K : PySem.W.Frag} {mg : Str → Option Value} (T : Tx K mg) : ∃ fd, FnP K "many_rates" "Talk.many_rates" s_Talk_many_rates [] (He.ma K (He.ga K "Talk") "many_rates") fd := T.df d_Talk_many_rates (List.mem_of_getElem? (l := fnL) (i := 32) rfl)
theorem mk_Talk_many_rates {P : Program} {w : World} {K : PySem.W.Frag} {mg : Str → Option Value} {base : Heap} {k : Nat} {sp : Sp} (T : Tx K mg) (len : ∀ vs H Q E, sp vs H Q E → vs.length = 1)
    (hbody : ∀ (cdv : Value) (A : Around) (outer : List Env) (s : Shared) (H : Hp) (vs : List V) (Q : VK) (E : XK), Room k (A.deeper (envOfC "Talk.many_rates" (defScope s_Talk_many_rates) s.heap.objs.size (He.ma K (He.ga K "Talk") "many_rates") cdv)) → sp vs H Q E →
      ∃ t, PSs (cxOf CX0 P w K mg base nN_Talk_many_rates "Talk.many_rates" (defScope s_Talk_many_rates) (He.ma K (He.ga K "Talk") "many_rates") cdv A outer s H E).nox (defBody s_Talk_many_rates) t ∧ t { nx := fun _ H' => Q .non H', rt := Q } (start nN_Talk_many_rates vs) H) : Met P w K mg base (k + 1) (He.ga K "Talk") "many_rates" sp := by
  obtain ⟨fd, F⟩ := D_Talk_many_rates T
  exact ⟨_, fd, ["self"], T.cl_Talk, T.m_Talk_many_rates, F.ok sc_Talk_many_rates len fun cdv A outer s H vs Q E hr h => let ⟨t, h1, h2⟩ := hbody cdv A outer s H vs Q E hr h; ⟨t, h1.nox, h2⟩, F.bindsN fun _ _ _ _ _ _ us hl => match us, hl with | [_], _ => rfl⟩
/-! _law_well: 0 _law_script, 1 _law_k, 2 _law_cell -/
abbrev nN__law_well : List Str := ["_law_script", "_law_k", "_law_cell"]
theorem sc__law_well : FnScope nN__law_well ["_law_script", "_law_k"] (defScope s__law_well) := C8.fnScope_by (by decide +kernel)
theorem D__law_well {K : PySem.W.Frag} {mg : Str → Option Value} (T : Tx K mg) : ∃ fd, FnP K "_law_well" "_law_well" s__law_well [] (He.ga K "_law_well") fd := T.df d__law_well (List.mem_of_getElem? (l := fnL) (i := 33) rfl)
theorem mk__law_well {P : Program} {w : World} {K : PySem.W.Frag} {mg : Str → Option Value} {base : Heap} {k : Nat} {sp : Sp} (T : Tx K mg) (len : ∀ vs H Q E, sp vs H Q E → vs.length = 2)
    (hbody : ∀ (cdv : Value) (A : Around) (outer : List Env) (s : Shared) (H : Hp) (vs : List V) (Q : VK) (E : XK), Room k (A.deeper (envOfC "_law_well" (defScope s__law_well) s.heap.objs.size (He.ga K "_law_well") cdv)) → sp vs H Q E →
      ∃ t, PSs (cxOf CX0 P w K mg base nN__law_well "_law_well" (defScope s__law_well) (He.ga K "_law_well") cdv A outer s H E).nox (defBody s__law_well) t ∧ t { nx := fun _ H' => Q .non H', rt := Q } (start nN__law_well vs) H) : Cal P w K mg base (k + 1) "_law_well" sp := by
  obtain ⟨fd, F⟩ := D__law_well T
  exact ⟨_, fd, ["_law_script", "_law_k"], F.ok sc__law_well len fun cdv A outer s H vs Q E hr h => let ⟨t, h1, h2⟩ := hbody cdv A outer s H vs Q E hr h; ⟨t, h1.nox, h2⟩, T.g__law_well, F.kp, F.bindsN fun _ _ _ _ _ _ us hl => match us, hl with | [_, _], _ => rfl⟩
/-! _law_take: 0 _law_well_here, 1 _law_top, 2 _law_digit, 3 _law_number -/
abbrev nN__law_take : List Str := ["_law_well_here", "_law_top", "_law_digit", "_law_number"]
theorem sc__law_take : FnScope nN__law_take ["_law_well_here", "_law_top"] (defScope s__law_take) := C8.fnScope_by (by decide +kernel)
theorem D__law_take {K : PySem.W.Frag} {mg : Str → Option Value} (T : Tx K mg) : ∃ fd, FnP K "_law_take" "_law_take" s__law_take [] (He.ga K "_law_take") fd := T.df d__law_take (List.mem_of_getElem? (l := fnL) (i := 34) rfl)
theorem mk__law_take {P : Program} {w : World} {K : PySem.W.Frag} {mg : Str → Option Value} {base : Heap} {k : Nat} {sp : Sp} (T : Tx K mg) (len : ∀ vs H Q E, sp vs H Q E → vs.length = 2)
    (hbody : ∀ (cdv : Value) (A : Around) (outer : List Env) (s : Shared) (H : Hp) (vs : List V) (Q : VK) (E : XK), Room k (A.deeper (envOfC "_law_take" (defScope s__law_take) s.heap.objs.size (He.ga K "_law_take") cdv)) → sp vs H Q E →
      ∃ t, PSs (cxOf CX0 P w K mg base nN__law_take "_law_take" (defScope s__law_take) (He.ga K "_law_take") cdv A outer s H E).nox (defBody s__law_take) t ∧ t { nx := fun _ H' => Q .non H', rt := Q } (start nN__law_take vs) H) : Cal P w K mg base (k + 1) "_law_take" sp := by
  obtain ⟨fd, F⟩ := D__law_take T
  exact ⟨_, fd, ["_law_well_here", "_law_top"], F.ok sc__law_take len fun cdv A outer s H vs Q E hr h => let ⟨t, h1, h2⟩ := hbody cdv A outer s H vs Q E hr h; ⟨t, h1.nox, h2⟩, T.g__law_take, F.kp, F.bindsN fun _ _ _ _ _ _ us hl => match us, hl with | [_, _], _ => rfl⟩
/-! _law_talk: 0 _law_well_here, 1 _law_great, 2 _law_way, 3 _law_many, 4 _law_wide, 5 _law_lengths, 6 _law_sizes, 7 _law_k, 8 _law_row, 9 _law_j -/
abbrev nN__law_talk : List Str := ["_law_well_here", "_law_great", "_law_way", "_law_many", "_law_wide", "_law_lengths", "_law_sizes", "_law_k", "_law_row", "_law_j"]
theorem sc__law_talk : FnScope nN__law_talk ["_law_well_here"] (defScope s__law_talk) := C8.fnScope_by (by decide +kernel)
theorem D__law_talk {K : PySem.W.Frag} {mg : Str → Option Value} (T : Tx K mg) : ∃ fd, FnP K "_law_talk" "_law_talk" s__law_talk [] (He.ga K "_law_talk") fd := T.df d__law_talk (List.mem_of_getElem? (l := fnL) (i := 35) rfl)
theorem mk__law_talk {P : Program} {w : World} {K : PySem.W.Frag} {mg : Str → Option Value} {base : Heap} {k : Nat} {sp : Sp} (T : Tx K mg) (len : ∀ vs H Q E, sp vs H Q E → vs.length = 1)
    (hbody : ∀ (cdv : Value) (A : Around) (outer : List Env) (s : Shared) (H : Hp) (vs : List V) (Q : VK) (E : XK), Room k (A.deeper (envOfC "_law_talk" (defScope s__law_talk) s.heap.objs.size (He.ga K "_law_talk") cdv)) → sp vs H Q E →
      ∃ t, PSs (cxOf CX0 P w K mg base nN__law_talk "_law_talk" (defScope s__law_talk) (He.ga K "_law_talk") cdv A outer s H E).nox (defBody s__law_talk) t ∧ t { nx := fun _ H' => Q .non H', rt := Q } (start nN__law_talk vs) H) : Cal P w K mg base (k + 1) "_law_talk" sp := by
  obtain ⟨fd, F⟩ := D__law_talk T
  exact ⟨_, fd, ["_law_well_here"], F.ok sc__law_talk len fun cdv A outer s H vs Q E hr h => let ⟨t, h1, h2⟩ := hbody cdv A outer s H vs Q E hr h; ⟨t, h1.nox, h2⟩, T.g__law_talk, F.kp, F.bindsN fun _ _ _ _ _ _ us hl => match us, hl with | [_], _ => rfl⟩
/-! _law_road: 0 _law_well_here, 1 _law_found, 2 _law_k, 3 _law_speed -/
abbrev nN__law_road : List Str := ["_law_well_here", "_law_found", "_law_k", "_law_speed"]
theorem sc__law_road : FnScope nN__law_road ["_law_well_here"] (defScope s__law_road) := C8.fnScope_by (by decide +kernel)
theorem D__law_road {K : PySem.W.Frag} {mg : Str → Option Value} (T : Tx K mg) : ∃ fd, FnP K "_law_road" "_law_road" s__law_road [] (He.ga K "_law_road") fd := T.df d__law_road (List.mem_of_getElem? (l := fnL) (i := 36) rfl)
theorem mk__law_road {P : Program} {w : World} {K : PySem.W.Frag} {mg : Str → Option Value} {base : Heap} {k : Nat} {sp : Sp} (T : Tx K mg) (len : ∀ vs H Q E, sp vs H Q E → vs.length = 1)
    (hbody : ∀ (cdv : Value) (A : Around) (outer : List Env) (s : Shared) (H : Hp) (vs : List V) (Q : VK) (E : XK), Room k (A.deeper (envOfC "_law_road" (defScope s__law_road) s.heap.objs.size (He.ga K "_law_road") cdv)) → sp vs H Q E →
      ∃ t, PSs (cxOf CX0 P w K mg base nN__law_road "_law_road" (defScope s__law_road) (He.ga K "_law_road") cdv A outer s H E).nox (defBody s__law_road) t ∧ t { nx := fun _ H' => Q .non H', rt := Q } (start nN__law_road vs) H) : Cal P w K mg base (k + 1) "_law_road" sp := by
  obtain ⟨fd, F⟩ := D__law_road T
  exact ⟨_, fd, ["_law_well_here"], F.ok sc__law_road len fun cdv A outer s H vs Q E hr h => let ⟨t, h1, h2⟩ := hbody cdv A outer s H vs Q E hr h; ⟨t, h1.nox, h2⟩, T.g__law_road, F.kp, F.bindsN fun _ _ _ _ _ _ us hl => match us, hl with | [_], _ => rfl⟩
/-! _law_options: 0 _law_well_here, 1 _law_lengths, 2 _law_far, 3 _law_top, 4 _law_some, 5 _law_opened, 6 _law_at, 7 _law_length -/
abbrev nN__law_options : List Str := ["_law_well_here", "_law_lengths", "_law_far", "_law_top", "_law_some", "_law_opened", "_law_at", "_law_length"]
theorem sc__law_options : FnScope nN__law_options ["_law_well_here", "_law_lengths"] (defScope s__law_options) := C8.fnScope_by (by decide +kernel)
theorem D__law_options {K : PySem.W.Frag} {mg : Str → Option Value} (T : Tx K mg) : ∃ fd, FnP K "_law_options" "_law_options" s__law_options [] (He.ga K "_law_options") fd := T.df d__law_options (List.mem_of_getElem? (l := fnL) (i := 37) rfl)
theorem mk__law_options {P : Program} {w : World} {K : PySem.W.Frag} {mg : Str → Option Value} {base : Heap} {k : Nat} {sp : Sp} (T : Tx K mg) (len : ∀ vs H Q E, sp vs H Q E → vs.length = 2)
    (hbody : ∀ (cdv : Value) (A : Around) (outer : List Env) (s : Shared) (H : Hp) (vs : List V) (Q : VK) (E : XK), Room k (A.deeper (envOfC "_law_options" (defScope s__law_options) s.heap.objs.size (He.ga K "_law_options") cdv)) → sp vs H Q E →
      ∃ t, PSs (cxOf CX0 P w K mg base nN__law_options "_law_options" (defScope s__law_options) (He.ga K "_law_options") cdv A outer s H E).nox (defBody s__law_options) t ∧ t { nx := fun _ H' => Q .non H', rt := Q } (start nN__law_options vs) H) : Cal P w K mg base (k + 1) "_law_options" sp := by
  obtain ⟨fd, F⟩ := D__law_options T
  exact ⟨_, fd, ["_law_well_here", "_law_lengths"], F.ok sc__law_options len fun cdv A outer s H vs Q E hr h => let ⟨t, h1, h2⟩ := hbody cdv A outer s H vs Q E hr h; ⟨t, h1.nox, h2⟩, T.g__law_options, F.kp, F.bindsN fun _ _ _ _ _ _ us hl => match us, hl with | [_, _], _ => rfl⟩
/-! _law_rule: 0 _law_asked*, 1 _law_seed*, 2 _law_wide*, 3 _law_told_by -/
abbrev nN__law_rule : List Str := ["_law_asked", "_law_seed", "_law_wide", "_law_told_by"]
theorem sc__law_rule : FnScope nN__law_rule ["_law_asked", "_law_seed", "_law_wide"] (defScope s__law_rule) := C8.fnScope_by (by decide +kernel)
theorem D__law_rule {K : PySem.W.Frag} {mg : Str → Option Value} (T : Tx K mg) : ∃ fd, FnP K "_law_rule" "_law_rule" s__law_rule [] (He.ga K "_law_rule") fd := T.df d__law_rule (List.mem_of_getElem? (l := fnL) (i := 38) rfl)
theorem mk__law_rule {P : Program} {w : World} {K : PySem.W.Frag} {mg : Str → Option Value} {base : Heap} {k : Nat} {sp : Sp} (T : Tx K mg) (len : ∀ vs H Q E, sp vs H Q E → vs.length = 3)
    (hbody : ∀ (cdv : Value) (A : Around) (outer : List Env) (s : Shared) (H : Hp) (vs : List V) (Q : VK) (E : XK), Room k (A.deeper (envOfC "_law_rule" (defScope s__law_rule) s.heap.objs.size (He.ga K "_law_rule") cdv)) → sp vs H Q E →
      ∃ t, PSs (cxOf CX0 P w K mg base nN__law_rule "_law_rule" (defScope s__law_rule) (He.ga K "_law_rule") cdv A outer s H E).nox (defBody s__law_rule) t ∧ t { nx := fun _ H' => Q .non H', rt := Q } (start nN__law_rule vs) H) : Cal P w K mg base (k + 1) "_law_rule" sp := by
  obtain ⟨fd, F⟩ := D__law_rule T
  exact ⟨_, fd, ["_law_asked", "_law_seed", "_law_wide"], F.ok sc__law_rule len fun cdv A outer s H vs Q E hr h => let ⟨t, h1, h2⟩ := hbody cdv A outer s H vs Q E hr h; ⟨t, h1.nox, h2⟩, T.g__law_rule, F.kp, F.bindsN fun _ _ _ _ _ _ us hl => match us, hl with | [_, _, _], _ => rfl⟩
/-! _law_rates_right: 0 _law_run, 1 _law_asked, 2 _law_told_by, 3 _law_wide*, 4 _law_many, 5 _law_seen, 6 _law_rate, 7 _law_due, 8 _law_good -/
abbrev nN__law_rates_right : List Str := ["_law_run", "_law_asked", "_law_told_by", "_law_wide", "_law_many", "_law_seen", "_law_rate", "_law_due", "_law_good"]
theorem sc__law_rates_right : FnScope nN__law_rates_right ["_law_run", "_law_asked", "_law_told_by", "_law_wide", "_law_many"] (defScope s__law_rates_right) := C8.fnScope_by (by decide +kernel)
theorem D__law_rates_right {K : PySem.W.Frag} {mg : Str → Option Value} (T : Tx K mg) : ∃ fd, FnP K "_law_rates_right" "_law_rates_right" s__law_rates_right [] (He.ga K "_law_rates_right") fd := T.df d__law_rates_right (List.mem_of_getElem? (l := fnL) (i := 39) rfl)
theorem mk__law_rates_right {P : Program} {w : World} {K : PySem.W.Frag} {mg : Str → Option Value} {base : Heap} {k : Nat} {sp : Sp} (T : Tx K mg) (len : ∀ vs H Q E, sp vs H Q E → vs.length = 5)
    (hbody : ∀ (cdv : Value) (A : Around) (outer : List Env) (s : Shared) (H : Hp) (vs : List V) (Q : VK) (E : XK), Room k (A.deeper (envOfC "_law_rates_right" (defScope s__law_rates_right) s.heap.objs.size (He.ga K "_law_rates_right") cdv)) → sp vs H Q E →
      ∃ t, PSs (cxOf CX0 P w K mg base nN__law_rates_right "_law_rates_right" (defScope s__law_rates_right) (He.ga K "_law_rates_right") cdv A outer s H E).nox (defBody s__law_rates_right) t ∧ t { nx := fun _ H' => Q .non H', rt := Q } (start nN__law_rates_right vs) H) : Cal P w K mg base (k + 1) "_law_rates_right" sp := by
  obtain ⟨fd, F⟩ := D__law_rates_right T
  exact ⟨_, fd, ["_law_run", "_law_asked", "_law_told_by", "_law_wide", "_law_many"], F.ok sc__law_rates_right len fun cdv A outer s H vs Q E hr h => let ⟨t, h1, h2⟩ := hbody cdv A outer s H vs Q E hr h; ⟨t, h1.nox, h2⟩, T.g__law_rates_right, F.kp, F.bindsN fun _ _ _ _ _ _ us hl => match us, hl with | [_, _, _, _, _], _ => rfl⟩
/-! _law_fetched_right: 0 _law_run, 1 _law_row, 2 _law_road_here, 3 _law_options_here, 4 _law_free, 5 _law_k, 6 _law_first, 7 _law_behind, 8 _law_size, 9 _law_ready -/
abbrev nN__law_fetched_right : List Str := ["_law_run", "_law_row", "_law_road_here", "_law_options_here", "_law_free", "_law_k", "_law_first", "_law_behind", "_law_size", "_law_ready"]
theorem sc__law_fetched_right : FnScope nN__law_fetched_right ["_law_run", "_law_row", "_law_road_here", "_law_options_here"] (defScope s__law_fetched_right) := C8.fnScope_by (by decide +kernel)
theorem D__law_fetched_right {K : PySem.W.Frag} {mg : Str → Option Value} (T : Tx K mg) : ∃ fd, FnP K "_law_fetched_right" "_law_fetched_right" s__law_fetched_right [] (He.ga K "_law_fetched_right") fd := T.df d__law_fetched_right (List.mem_of_getElem? (l := fnL) (i := 40) rfl)
theorem mk__law_fetched_right {P : Program} {w : World} {K : PySem.W.Frag} {mg : Str → Option Value} {base : Heap} {k : Nat} {sp : Sp} (T : Tx K mg) (len : ∀ vs H Q E, sp vs H Q E → vs.length = 4)
    (hbody : ∀ (cdv : Value) (A : Around) (outer : List Env) (s : Shared) (H : Hp) (vs : List V) (Q : VK) (E : XK), Room k (A.deeper (envOfC "_law_fetched_right" (defScope s__law_fetched_right) s.heap.objs.size (He.ga K "_law_fetched_right") cdv)) → sp vs H Q E →
      ∃ t, PSs (cxOf CX0 P w K mg base nN__law_fetched_right "_law_fetched_right" (defScope s__law_fetched_right) (He.ga K "_law_fetched_right") cdv A outer s H E).nox (defBody s__law_fetched_right) t ∧ t { nx := fun _ H' => Q .non H', rt := Q } (start nN__law_fetched_right vs) H) : Cal P w K mg base (k + 1) "_law_fetched_right" sp := by
  obtain ⟨fd, F⟩ := D__law_fetched_right T
  exact ⟨_, fd, ["_law_run", "_law_row", "_law_road_here", "_law_options_here"], F.ok sc__law_fetched_right len fun cdv A outer s H vs Q E hr h => let ⟨t, h1, h2⟩ := hbody cdv A outer s H vs Q E hr h; ⟨t, h1.nox, h2⟩, T.g__law_fetched_right, F.kp, F.bindsN fun _ _ _ _ _ _ us hl => match us, hl with | [_, _, _, _], _ => rfl⟩
/-! _law_played_right: 0 _law_run, 1 _law_row, 2 _law_options_here, 3 _law_whole*, 4 _law_come, 5 _law_k, 6 _law_plays*, 7 _law_beat, 8 _law_played_in, 9 _law_kept -/
abbrev nN__law_played_right : List Str := ["_law_run", "_law_row", "_law_options_here", "_law_whole", "_law_come", "_law_k", "_law_plays", "_law_beat", "_law_played_in", "_law_kept"]
theorem sc__law_played_right : FnScope nN__law_played_right ["_law_run", "_law_row", "_law_options_here"] (defScope s__law_played_right) := C8.fnScope_by (by decide +kernel)
theorem D__law_played_right {K : PySem.W.Frag} {mg : Str → Option Value} (T : Tx K mg) : ∃ fd, FnP K "_law_played_right" "_law_played_right" s__law_played_right [] (He.ga K "_law_played_right") fd := T.df d__law_played_right (List.mem_of_getElem? (l := fnL) (i := 41) rfl)
theorem mk__law_played_right {P : Program} {w : World} {K : PySem.W.Frag} {mg : Str → Option Value} {base : Heap} {k : Nat} {sp : Sp} (T : Tx K mg) (len : ∀ vs H Q E, sp vs H Q E → vs.length = 3)
    (hbody : ∀ (cdv : Value) (A : Around) (outer : List Env) (s : Shared) (H : Hp) (vs : List V) (Q : VK) (E : XK), Room k (A.deeper (envOfC "_law_played_right" (defScope s__law_played_right) s.heap.objs.size (He.ga K "_law_played_right") cdv)) → sp vs H Q E →
      ∃ t, PSs (cxOf CX0 P w K mg base nN__law_played_right "_law_played_right" (defScope s__law_played_right) (He.ga K "_law_played_right") cdv A outer s H E).nox (defBody s__law_played_right) t ∧ t { nx := fun _ H' => Q .non H', rt := Q } (start nN__law_played_right vs) H) : Cal P w K mg base (k + 1) "_law_played_right" sp := by
  obtain ⟨fd, F⟩ := D__law_played_right T
  exact ⟨_, fd, ["_law_run", "_law_row", "_law_options_here"], F.ok sc__law_played_right len fun cdv A outer s H vs Q E hr h => let ⟨t, h1, h2⟩ := hbody cdv A outer s H vs Q E hr h; ⟨t, h1.nox, h2⟩, T.g__law_played_right, F.kp, F.bindsN fun _ _ _ _ _ _ us hl => match us, hl with | [_, _, _], _ => rfl⟩
/-! _law_stalls_right: 0 _law_run, 1 _law_beat, 2 _law_played_in, 3 _law_silent -/
abbrev nN__law_stalls_right : List Str := ["_law_run", "_law_beat", "_law_played_in", "_law_silent"]
theorem sc__law_stalls_right : FnScope nN__law_stalls_right ["_law_run"] (defScope s__law_stalls_right) := C8.fnScope_by (by decide +kernel)
theorem D__law_stalls_right {K : PySem.W.Frag} {mg : Str → Option Value} (T : Tx K mg) : ∃ fd, FnP K "_law_stalls_right" "_law_stalls_right" s__law_stalls_right [] (He.ga K "_law_stalls_right") fd := T.df d__law_stalls_right (List.mem_of_getElem? (l := fnL) (i := 42) rfl)
theorem mk__law_stalls_right {P : Program} {w : World} {K : PySem.W.Frag} {mg : Str → Option Value} {base : Heap} {k : Nat} {sp : Sp} (T : Tx K mg) (len : ∀ vs H Q E, sp vs H Q E → vs.length = 1)
    (hbody : ∀ (cdv : Value) (A : Around) (outer : List Env) (s : Shared) (H : Hp) (vs : List V) (Q : VK) (E : XK), Room k (A.deeper (envOfC "_law_stalls_right" (defScope s__law_stalls_right) s.heap.objs.size (He.ga K "_law_stalls_right") cdv)) → sp vs H Q E →
      ∃ t, PSs (cxOf CX0 P w K mg base nN__law_stalls_right "_law_stalls_right" (defScope s__law_stalls_right) (He.ga K "_law_stalls_right") cdv A outer s H E).nox (defBody s__law_stalls_right) t ∧ t { nx := fun _ H' => Q .non H', rt := Q } (start nN__law_stalls_right vs) H) : Cal P w K mg base (k + 1) "_law_stalls_right" sp := by
  obtain ⟨fd, F⟩ := D__law_stalls_right T
  exact ⟨_, fd, ["_law_run"], F.ok sc__law_stalls_right len fun cdv A outer s H vs Q E hr h => let ⟨t, h1, h2⟩ := hbody cdv A outer s H vs Q E hr h; ⟨t, h1.nox, h2⟩, T.g__law_stalls_right, F.kp, F.bindsN fun _ _ _ _ _ _ us hl => match us, hl with | [_], _ => rfl⟩
/-! _law_right: 0 _law_row, 1 _law_road_here, 2 _law_chooser, 3 _law_options_here, 4 _law_asked, 5 _law_talk_here, 6 _law_first, 7 _law_behind, 8 _law_top, 9 _law_ahead, 10 _law_opened, 11 _law_run, 12 _law_seens, 13 _law_again_told -/
abbrev nN__law_right : List Str := ["_law_row", "_law_road_here", "_law_chooser", "_law_options_here", "_law_asked", "_law_talk_here", "_law_first", "_law_behind", "_law_top", "_law_ahead", "_law_opened", "_law_run", "_law_seens", "_law_again_told"]
theorem sc__law_right : FnScope nN__law_right ["_law_row", "_law_road_here", "_law_chooser", "_law_options_here", "_law_asked"] (defScope s__law_right) := C8.fnScope_by (by decide +kernel)
theorem D__law_right {K : PySem.W.Frag} {mg : Str → Option Value} (T : Tx K mg) : ∃ fd, FnP K "_law_right" "_law_right" s__law_right [] (He.ga K "_law_right") fd := T.df d__law_right (List.mem_of_getElem? (l := fnL) (i := 43) rfl)
theorem mk__law_right {P : Program} {w : World} {K : PySem.W.Frag} {mg : Str → Option Value} {base : Heap} {k : Nat} {sp : Sp} (T : Tx K mg) (len : ∀ vs H Q E, sp vs H Q E → vs.length = 5)
    (hbody : ∀ (cdv : Value) (A : Around) (outer : List Env) (s : Shared) (H : Hp) (vs : List V) (Q : VK) (E : XK), Room k (A.deeper (envOfC "_law_right" (defScope s__law_right) s.heap.objs.size (He.ga K "_law_right") cdv)) → sp vs H Q E →
      ∃ t, PSs (cxOf CX0 P w K mg base nN__law_right "_law_right" (defScope s__law_right) (He.ga K "_law_right") cdv A outer s H E).nox (defBody s__law_right) t ∧ t { nx := fun _ H' => Q .non H', rt := Q } (start nN__law_right vs) H) : Cal P w K mg base (k + 1) "_law_right" sp := by
  obtain ⟨fd, F⟩ := D__law_right T
  exact ⟨_, fd, ["_law_row", "_law_road_here", "_law_chooser", "_law_options_here", "_law_asked"], F.ok sc__law_right len fun cdv A outer s H vs Q E hr h => let ⟨t, h1, h2⟩ := hbody cdv A outer s H vs Q E hr h; ⟨t, h1.nox, h2⟩, T.g__law_right, F.kp, F.bindsN fun _ _ _ _ _ _ us hl => match us, hl with | [_, _, _, _, _], _ => rfl⟩
/-! law: 0 _law_script, 1 _law_well_here*, 2 _law_turn, 3 _law_row, 4 _law_road_here, 5 _law_talk_here, 6 _law_wide*, 7 _law_asked, 8 _law_steps_by, 9 _law_plan, 10 _law_own, 11 _law_slow_by, 12 _law_some, 13 _law_options_here, 14 _law_chooser, 15 _law_length -/
abbrev nN_law : List Str := ["_law_script", "_law_well_here", "_law_turn", "_law_row", "_law_road_here", "_law_talk_here", "_law_wide", "_law_asked", "_law_steps_by", "_law_plan", "_law_own", "_law_slow_by", "_law_some", "_law_options_here", "_law_chooser", "_law_length"]
theorem sc_law : FnScope nN_law ["_law_script"] (defScope s_law) := C8.fnScope_by (by decide +kernel)
theorem D_law {K : PySem.W.Frag} {mg : Str → Option Value} (T : Tx K mg) : ∃ fd, FnP K "law" "law" s_law [] (He.ga K "law") fd := T.df d_law (List.mem_of_getElem? (l := fnL) (i := 44) rfl)
theorem mk_law {P : Program} {w : World} {K : PySem.W.Frag} {mg : Str → Option Value} {base : Heap} {k : Nat} {sp : Sp} (T : Tx K mg) (len : ∀ vs H Q E, sp vs H Q E → vs.length = 1)
    (hbody : ∀ (cdv : Value) (A : Around) (outer : List Env) (s : Shared) (H : Hp) (vs : List V) (Q : VK) (E : XK), Room k (A.deeper (envOfC "law" (defScope s_law) s.heap.objs.size (He.ga K "law") cdv)) → sp vs H Q E →
      ∃ t, PSs (cxOf CX0 P w K mg base nN_law "law" (defScope s_law) (He.ga K "law") cdv A outer s H E).nox (defBody s_law) t ∧ t { nx := fun _ H' => Q .non H', rt := Q } (start nN_law vs) H) : Cal P w K mg base (k + 1) "law" sp := by
  obtain ⟨fd, F⟩ := D_law T
  exact ⟨_, fd, ["_law_script"], F.ok sc_law len fun cdv A outer s H vs Q E hr h => let ⟨t, h1, h2⟩ := hbody cdv A outer s H vs Q E hr h; ⟨t, h1.nox, h2⟩, T.g_law, F.kp, F.bindsN fun _ _ _ _ _ _ us hl => match us, hl with | [_], _ => rfl⟩
end K76


set_option Elab.async false
set_option linter.all false
set_option maxRecDepth 100000
set_option maxHeartbeats 4000000
/-! What stays as it is; fields by place; an attribute as a target. -/
namespace K76
open PySem PySem.Spec PyProof.Rows L2 LamX NdefX
/-! ### what stays -/
/-- a list, or an instance of fifteen fields (a Walk) -/
def Mv (o : HO) : Prop := (∃ xs, o = .lst xs) ∨ ∃ C dx fs, o = .ins C dx fs ∧ fs.length = 15
/-- everything stays but the lists and instances at S -/
def Kp (S : List Addr) (H H' : Hp) : Prop := ∀ b o, H b = some o → (b ∈ S → ¬ Mv o) → H' b = some o
/-- .. and the tables -/
def KpN (S : List Addr) (H H' : Hp) : Prop := ∀ b o, H b = some o → (b ∈ S → ¬ Mv o) → (∀ ps, o ≠ .tbl ps) → H' b = some o
theorem mv_tup {xs : List V} : ¬ Mv (.tup xs) := fun h => by
  rcases h with ⟨_, h⟩ | ⟨_, _, _, h, _⟩ <;> cases h
theorem mv_frz {o : Obj} {u : HO} : ¬ Mv (.frz o u) := fun h => by
  rcases h with ⟨_, h⟩ | ⟨_, _, _, h, _⟩ <;> cases h
theorem mv_tbl {ps : Array Value} : ¬ Mv (.tbl ps) := fun h => by
  rcases h with ⟨_, h⟩ | ⟨_, _, _, h, _⟩ <;> cases h
theorem mv_fn {f : Addr} {F : NF} : ¬ Mv (FnO f F) := fun h => by
  unfold FnO at h
  rcases h with ⟨_, h⟩ | ⟨_, _, _, h, _⟩ <;> cases h
theorem mv_code {c : Addr} {q : Str} : ¬ Mv (CodeO c q) := fun h => by
  unfold CodeO at h
  rcases h with ⟨_, h⟩ | ⟨_, _, _, h, _⟩ <;> cases h
theorem mv_cell {c : Addr} {v : V} : ¬ Mv (CellO c v) := fun h => by
  unfold CellO at h
  rcases h with ⟨_, h⟩ | ⟨_, _, _, h, _⟩ <;> cases h
section
variable {K : PySem.W.Frag} {S S' : List Addr} {H H' H1 H2 : Hp} {a b p : Addr} {o u : HO} {xs : List V}
theorem Kp.refl : Kp S H H := fun _ _ h _ => h
theorem Kp.trans (h : Kp S H H1) (k : Kp S H1 H2) : Kp S H H2 := fun b o e n => k b o (h b o e n) n
theorem Kp.mono (h : Kp S H H1) (e : ∀ x ∈ S, x ∈ S') : Kp S' H H1 := fun b o e1 n => h b o e1 fun z => n (e b z)
theorem Kp.none (h : Kp S H H1) (hb : H1 b = Option.none) (hS : b ∉ S) : H b = Option.none := by
  cases e : H b with
  | none => rfl
  | some o => rw [h b o e fun z => absurd z hS] at hb; cases hb
/-- a thing that was not tracked is put in -/
theorem Kp.new (h : Kp S H H1) (hp : H p = Option.none) : Kp S H (upd H1 p o) := fun b u e n => by
  rw [upd_ne (ne_of_none e hp)]
  exact h b u e n
/-- a thing of S is changed -/
theorem Kp.put (h : Kp S H H1) (hS : p ∈ S) (hp : H1 p = some u) (m : Mv u) : Kp S H (upd H1 p o) := fun b v e n => by
  have z := h b v e n
  by_cases q : b = p
  · rw [q] at z
    rw [hp] at z
    cases z
    exact absurd m (n (q ▸ hS))
  · rw [upd_ne q]
    exact z
theorem Kp.same (h : Same H H1) : Kp S H H1 := fun b o e _ => h b o e
theorem Kp.toSame (h : Kp [] H H1) : Same H H1 := fun b o e => h b o e fun z => absurd z (by simp)
theorem Kp.toN (h : Kp S H H1) : KpN S H H1 := fun b o e n _ => h b o e n
theorem KpN.refl : KpN S H H := fun _ _ h _ _ => h
theorem KpN.trans (h : KpN S H H1) (k : KpN S H1 H2) : KpN S H H2 := fun b o e n t => k b o (h b o e n t) n t
theorem KpN.mono (h : KpN S H H1) (e : ∀ x ∈ S, x ∈ S') : KpN S' H H1 := fun b o e1 n t => h b o e1 (fun z => n (e b z)) t
theorem KpN.new (h : KpN S H H1) (hp : H p = Option.none) : KpN S H (upd H1 p o) := fun b u e n t => by
  rw [upd_ne (ne_of_none e hp)]
  exact h b u e n t
theorem KpN.ext (h : ExtN H H1) : KpN S H H1 := fun b o e _ t => h b o e t
theorem KpN.tup (k : KpN S H H1) (h : SqT K H a xs) : SqT K H1 a xs :=
  h.elim (fun h => .inl (h.elim (fun h => .inl (k _ _ h (fun _ => mv_tup) fun _ z => by cases z)) fun ⟨o, h⟩ => .inr ⟨o, k _ _ h (fun _ => mv_frz) fun _ z => by cases z⟩)) fun h => .inr h
theorem Kp.tup (k : Kp S H H1) (h : SqT K H a xs) : SqT K H1 a xs := k.toN.tup h
theorem KpN.ins {C dx : Addr} {fs : List (Str × V)} (k : KpN S H H1) (hS : a ∉ S) (h : H a = some (.ins C dx fs)) : H1 a = some (.ins C dx fs) := k _ _ h (fun z => absurd z hS) fun _ z => by cases z
theorem mv_ins {C dx : Addr} {fs : List (Str × V)} (h : fs.length ≠ 15) : ¬ Mv (.ins C dx fs) := fun z => by
  rcases z with ⟨_, z⟩ | ⟨_, _, _, z, e⟩
  · cases z
  · cases z
    exact h e
theorem KpN.insF {C dx : Addr} {fs : List (Str × V)} (k : KpN S H H1) (h : H a = some (.ins C dx fs)) (hl : fs.length ≠ 15) : H1 a = some (.ins C dx fs) := k _ _ h (fun _ => mv_ins hl) fun _ z => by cases z
theorem KpN.lst (k : KpN S H H1) (hS : a ∉ S) (h : H a = some (.lst xs)) : H1 a = some (.lst xs) := k _ _ h (fun z => absurd z hS) fun _ z => by cases z
theorem Kp.ins {C dx : Addr} {fs : List (Str × V)} (k : Kp S H H1) (hS : a ∉ S) (h : H a = some (.ins C dx fs)) : H1 a = some (.ins C dx fs) := k.toN.ins hS h
theorem Kp.lst (k : Kp S H H1) (hS : a ∉ S) (h : H a = some (.lst xs)) : H1 a = some (.lst xs) := k.toN.lst hS h
theorem KpN.sql (k : KpN S H H1) (hS : a ∉ S) (h : SqL K H a xs) : SqL K H1 a xs :=
  h.elim (fun h => .inl (h.elim (fun h => .inl (k _ _ h (fun z => absurd z hS) fun _ z => by cases z)) fun ⟨o, h⟩ => .inr ⟨o, k _ _ h (fun _ => mv_frz) fun _ z => by cases z⟩)) fun h => .inr h
theorem Kp.tabs {T : List NTab} (k : Kp S H H1) (h : TabsN T H) : TabsN T H1 := fun p hp => by
  obtain ⟨ps, h1, h2, h3⟩ := h p hp
  refine ⟨ps, k _ _ h1 fun _ => mv_tbl, h2, fun pos cv hc => ?_⟩
  obtain ⟨c, e1, e2⟩ := h3 pos cv hc
  exact ⟨c, e1, k _ _ e2 fun _ => mv_code⟩
theorem code_tbl {c : Addr} {q : Str} (ps : Array Value) : CodeO c q ≠ .tbl ps := codeO_ne ps
theorem cell_tbl {c : Addr} {v : V} (ps : Array Value) : CellO c v ≠ .tbl ps := fun h => by
  unfold CellO at h
  cases h
end
/-! ### fields by place -/
section
variable {ks : List Str} {vs : List V} {k : Str} {v : V} {i : Nat}
theorem lookF (nd : ks.Nodup) (h1 : ks[i]? = some k) (h2 : vs[i]? = some v) : (ks.zip vs).lookup k = some v := idx_zip nd h1 h2
theorem lookNo : ∀ {ks : List Str} {vs : List V}, k ∉ ks → (ks.zip vs).lookup k = none
  | [], _, _ => rfl
  | _ :: _, [], _ => rfl
  | a :: ks, b :: vs, h => by
    show List.lookup k ((a, b) :: ks.zip vs) = none
    rw [List.lookup_cons, beq_false_of_ne (fun e => h (by rw [e]; exact List.mem_cons_self))]
    exact lookNo fun z => h (List.mem_cons_of_mem _ z)
theorem putF_at : ∀ {ks : List Str} {vs : List V} {i : Nat}, ks.Nodup → ks[i]? = some k → i < vs.length → putF k v (ks.zip vs) = ks.zip (vs.set i v)
  | [], _, _, _, h, _ => by cases h
  | _ :: _, [], _, _, _, h => absurd h (by simp)
  | a :: ks, b :: vs, 0, nd, h, _ => by
    cases h
    show (if k = k then _ else _) = _
    rw [if_pos rfl]
    rfl
  | a :: ks, b :: vs, i + 1, nd, h, hl => by
    have hm : k ∈ ks := List.mem_of_getElem? (show ks[i]? = some k from h)
    have ne : a ≠ k := fun e => (List.nodup_cons.mp nd).1 (e ▸ hm)
    show (if a = k then _ else (a, b) :: putF k v (ks.zip vs)) = _
    rw [if_neg ne, putF_at (List.nodup_cons.mp nd).2 h (by simpa using hl)]
    rfl
theorem putF_end : ∀ {ks : List Str} {vs : List V}, k ∉ ks → ks.length = vs.length → putF k v (ks.zip vs) = (ks ++ [k]).zip (vs ++ [v])
  | [], [], _, _ => rfl
  | [], _ :: _, _, h => by cases h
  | _ :: _, [], _, h => by cases h
  | a :: ks, b :: vs, h, hl => by
    show (if a = k then _ else (a, b) :: putF k v (ks.zip vs)) = _
    rw [if_neg (fun e : a = k => h (by rw [← e]; exact List.mem_cons_self)), putF_end (fun z => h (List.mem_cons_of_mem _ z)) (by simpa using hl)]
    rfl
/-- the next field is put -/
theorem putN (nd : ks.Nodup) (n : Nat) (h : ks[n]? = some k) (hl : vs.length = n) : putF k v ((ks.take n).zip vs) = (ks.take (n + 1)).zip (vs ++ [v]) := by
  have hn : n < ks.length := (List.getElem?_eq_some_iff.mp h).1
  have e : ks.take (n + 1) = ks.take n ++ [k] := by
    rw [List.take_succ, h] <;> rfl
  rw [e]
  refine putF_end (fun z => ?_) (by rw [List.length_take, hl]; omega)
  obtain ⟨i, hi, e2⟩ := List.mem_iff_getElem.mp z
  rw [List.length_take] at hi
  rw [List.getElem_take] at e2
  have h1 : ks[i]? = some k := by rw [List.getElem?_eq_getElem (by omega), e2]
  have := nd_ix nd h1 h
  omega
theorem zipLen (hl : vs.length ≤ n) : (ks.zip vs).length ≤ n := by
  rw [List.length_zip]
  omega
end
/-! ### o.f as a target -/
def gFld (K : PySem.W.Frag) (ta : TE) (f : Str) : TG := fun v σ H Q => ta σ H fun x H1 => ∃ a C dx fs, x = .ref a ∧ H1 a = some (.ins C dx fs) ∧ Cls K C ∧ NoAttr K C f ∧ fs.length < 1000 ∧ Q σ (upd H1 a (.ins C dx (putF f v fs)))
theorem pg_fld {X : Cx} {o : Expr} {f : Str} {pos : Pos} {ta : TE} (ho : PE X o ta) : PG X (.Attribute o f pos) (gFld X.K ta f) := by
  refine ⟨fun pins s σ H v u Q I r hw => ?_⟩
  refine PySem.W.kas_attr (thn (ho.run pins s σ H _ I hw) fun ov s1 ⟨x, H1, I1, rx, a, C, dx, fs, ex, ea, c, n, l, q⟩ => ?_)
  subst ex
  obtain rfl : ov = Value.ref a := rx
  exact setattr_ok I1 ea c n l r fun s2 I2 => ⟨σ, _, I2, q⟩
/-! ### numbers -/
theorem at_nat {α : Type} {xs : List α} {z : Int} {v : α} (h0 : 0 ≤ z) (h : xs[z.toNat]? = some v) : atI xs z = some v := by
  have e : z = (z.toNat : Int) := (Int.toNat_of_nonneg h0).symm
  rw [e]
  exact atI_nat (by simpa using h)
theorem at_int {ns : List Int} {z : Int} (h0 : 0 ≤ z) (h1 : z < ns.length) : atI (ns.map V.int) z = some (.int (ns.getD z.toNat 0)) := by
  refine at_nat h0 ?_
  rw [List.getElem?_map, List.getElem?_eq_getElem (by omega), List.getD_eq_getElem?_getD, List.getElem?_eq_getElem (by omega)]
  rfl
end K76


set_option Elab.async false
set_option linter.all false
set_option maxRecDepth 100000
set_option maxHeartbeats 4000000
/-! The data; the small defs. -/
namespace K76
open PySem PySem.Spec PyProof.Rows L2 LamX NdefX
/-! ### len of a range -/
theorem cr_range1 {X : Cx} : CallR X (.type "range") (fun vs H Q => ∃ i, vs = [V.int i] ∧ ∀ p, H p = none → Q (.ref p) (upd H p (.rng 0 i))) := by
  intro pins s σ H vs us Q I r h
  obtain ⟨i, rfl, q⟩ := h
  obtain ⟨u1, rfl, t, rfl⟩ := vals1 r
  refine call_range_1 ⟨.ref s.heap.objs.size, upd H s.heap.objs.size (.rng 0 i), I.laid (t' := s.toks + 1 + 1) (fun b o e => Heap.get?_push_of_some _ e) (Nat.le_refl _) ?_, rfl, q _ (I.hok.fresh (Nat.le_refl _))⟩
  exact ⟨s.toks, t, s.toks + 1, Heap.get?_push_size _ rfl⟩
theorem cr_lenRng {X : Cx} : CallR X (.builtin "len") (fun vs H Q => ∃ (a : Addr) (n : Nat), vs = [V.ref a] ∧ H a = some (.rng 0 n) ∧ n < 2 ^ 62 ∧ Q (.int n) H) := by
  intro pins s σ H vs us Q I r h
  obtain ⟨a, n, rfl, ha, hn, q⟩ := h
  rw [Vals.ref1 r]
  obtain ⟨t, u, v, ho⟩ := (show ObjOk X.prog X.w H s.heap a (.rng 0 n) from I.hok a _ ha)
  refine call_len_range (n := n) ho ?_ (by omega) ⟨.int n, H, I.tok _, ⟨_, rfl⟩, q⟩
  unfold Builtin.Range.rangeSize
  by_cases hz : (0 : Int) < n
  · simp [hz]
    omega
  · have : n = 0 := by omega
    subst this
    simp
/-! ### the data -/
abbrev kSpeed : List Str := ["bits", "beats"]
abbrev kRoad : List Str := ["pieces"]
abbrev kTalk : List Str := ["lengths", "sizes"]
abbrev kRun : List Str := ["rates", "begun", "whole", "plays", "stalls", "ended", "kept"]
abbrev kWalk : List Str := ["talk_walked", "chooser_asked", "limits", "waiting", "opening", "stand_here", "beat_here", "rate_last", "speed_last", "rates", "begun", "whole", "plays", "stalls", "kept"]
theorem nd_Speed : kSpeed.Nodup := by decide +kernel
theorem nd_Road : kRoad.Nodup := by decide +kernel
theorem nd_Talk : kTalk.Nodup := by decide +kernel
theorem nd_Run : kRun.Nodup := by decide +kernel
theorem nd_Walk : kWalk.Nodup := by decide +kernel
abbrev cSpeed (K : PySem.W.Frag) : Addr := He.ga K "Speed"
abbrev cRoad (K : PySem.W.Frag) : Addr := He.ga K "Road"
abbrev cTalk (K : PySem.W.Frag) : Addr := He.ga K "Talk"
abbrev cRun (K : PySem.W.Frag) : Addr := He.ga K "Run"
abbrev cWalk (K : PySem.W.Frag) : Addr := He.ga K "Walk"
def TupsAt (K : PySem.W.Frag) (H : Hp) (ts : Addr) (rows : List (List Int)) : Prop := ∃ as : List Addr, SqT K H ts (as.map V.ref) ∧ as.length = rows.length ∧ ∀ (i : Nat) (a : Addr), as[i]? = some a → ∃ r, rows[i]? = some r ∧ SqT K H a (r.map V.int)
def TalkAt (K : PySem.W.Frag) (H : Hp) (t : Addr) (lens : List Int) (sizes : List (List Int)) : Prop := ∃ dx tl ts, H t = some (.ins (cTalk K) dx (kTalk.zip [.ref tl, .ref ts])) ∧ SqT K H tl (lens.map V.int) ∧ TupsAt K H ts sizes
def prs (ps : List (Int × Int)) : List (List Int) := ps.map fun p => [p.1, p.2]
def RoadAt (K : PySem.W.Frag) (H : Hp) (r : Addr) (pieces : List (Int × Int)) : Prop := ∃ dx tp, H r = some (.ins (cRoad K) dx (kRoad.zip [.ref tp])) ∧ TupsAt K H tp (prs pieces)
section
variable {K : PySem.W.Frag} {S : List Addr} {H H' : Hp} {a t r : Addr} {rows sizes : List (List Int)} {lens : List Int} {pieces : List (Int × Int)} {xs : List V}
theorem TupsAt.kp (h : TupsAt K H t rows) (k : KpN S H H') : TupsAt K H' t rows := by
  obtain ⟨as, h1, h2, h3⟩ := h
  refine ⟨as, k.tup h1, h2, fun i a e => ?_⟩
  obtain ⟨r, e1, e2⟩ := h3 i a e
  exact ⟨r, e1, k.tup e2⟩
theorem TupsAt.at_ (h : TupsAt K H t rows) : ∃ as : List Addr, SqT K H t (as.map V.ref) ∧ as.length = rows.length ∧ ∀ (i : Nat) (r : List Int), rows[i]? = some r → ∃ a, as[i]? = some a ∧ SqT K H a (r.map V.int) := by
  obtain ⟨as, h1, h2, h3⟩ := h
  refine ⟨as, h1, h2, fun i r e => ?_⟩
  have hi : i < as.length := by rw [h2]; exact (List.getElem?_eq_some_iff.mp e).1
  obtain ⟨r', e1, e2⟩ := h3 i as[i] (List.getElem?_eq_getElem hi)
  rw [e] at e1
  cases e1
  exact ⟨_, List.getElem?_eq_getElem hi, e2⟩
theorem TalkAt.kp2 (h : TalkAt K H t lens sizes) (k : KpN S H H') : TalkAt K H' t lens sizes := by
  obtain ⟨dx, tl, ts, h1, h2, h3⟩ := h
  exact ⟨dx, tl, ts, k.insF h1 (by show 2 ≠ 15; decide), k.tup h2, h3.kp k⟩
theorem RoadAt.kp2 (h : RoadAt K H r pieces) (k : KpN S H H') : RoadAt K H' r pieces := by
  obtain ⟨dx, tp, h1, h3⟩ := h
  exact ⟨dx, tp, k.insF h1 (by show 1 ≠ 15; decide), h3.kp k⟩
theorem TalkAt.kp (h : TalkAt K H t lens sizes) (k : KpN S H H') (hS : t ∉ S) : TalkAt K H' t lens sizes := by
  obtain ⟨dx, tl, ts, h1, h2, h3⟩ := h
  exact ⟨dx, tl, ts, k.ins hS h1, k.tup h2, h3.kp k⟩
theorem RoadAt.kp (h : RoadAt K H r pieces) (k : KpN S H H') (hS : r ∉ S) : RoadAt K H' r pieces := by
  obtain ⟨dx, tp, h1, h3⟩ := h
  exact ⟨dx, tp, k.ins hS h1, h3.kp k⟩
theorem tyx_tup (h : SqT K H a xs) : TyX K H (.ref a) (.type "tuple") := by
  rcases h with (h | ⟨o, h⟩) | ⟨o, its, n, hk, hc, _⟩
  · exact .base (.tup h)
  · exact .fTuple h
  · exact .kTuple hk hc
theorem first_at {mg : Str → Option Value} (T : Tx K mg) (H : Hp) : SqT K H (He.ga K "FIRST") [.int 0, .int (-1), .int 0, .int 0, .int 0, .int 0] := by
  have e := T.ex
  unfold exB at e
  exact He.tupB_ok (He.ba e).1 H
theorem part_at {mg : Str → Option Value} (T : Tx K mg) (H : Hp) : SqT K H (He.ga K "PART") [.int 4, .int 5] := by
  have e := T.ex
  unfold exB at e
  exact He.tupB_ok (He.ba (He.ba e).2).1 H
end
/-! ### reading words for fields -/
section
variable {K : PySem.W.Frag} {σ : L2.St} {H H1 : Hp} {C dx p : Addr} {ks : List Str} {vs : List V} {n i : Nat} {f : Str} {y : V} {Q : L2.St → Prop}
/-- self.f = y, the next field (behind y's own reading) -/
theorem rd_new {R : L2.St → Hp → Prop} (n : Nat) (h0 : σ[0]? = some (some (.ref p))) (hp : H1 p = some (.ins C dx ((ks.take n).zip vs))) (cl : Cls K C) (no : NoAttr K C f) (nd : ks.Nodup) (hf : ks[n]? = some f) (hl : vs.length = n) (hn : n < 1000)
    (q : R σ (upd H1 p (.ins C dx ((ks.take (n + 1)).zip (vs ++ [y]))))) :
    tVar 0 σ H1 fun x H2 => ∃ a C dx fs, x = .ref a ∧ H2 a = some (.ins C dx fs) ∧ Cls K C ∧ NoAttr K C f ∧ fs.length < 1000 ∧ R σ (upd H2 a (.ins C dx (putF f y fs))) := by
  refine ⟨_, h0, p, C, dx, _, rfl, hp, cl, no, Nat.lt_of_le_of_lt (zipLen (Nat.le_of_eq hl)) hn, ?_⟩
  rw [putN nd n hf hl]
  exact q
/-- self.f = y, a field that stands -/
theorem rd_put {R : L2.St → Hp → Prop} (i : Nat) (h0 : σ[0]? = some (some (.ref p))) (hp : H1 p = some (.ins C dx (ks.zip vs))) (cl : Cls K C) (no : NoAttr K C f) (nd : ks.Nodup) (hf : ks[i]? = some f) (hl : i < vs.length) (hn : vs.length < 1000)
    (q : R σ (upd H1 p (.ins C dx (ks.zip (vs.set i y))))) :
    tVar 0 σ H1 fun x H2 => ∃ a C dx fs, x = .ref a ∧ H2 a = some (.ins C dx fs) ∧ Cls K C ∧ NoAttr K C f ∧ fs.length < 1000 ∧ R σ (upd H2 a (.ins C dx (putF f y fs))) := by
  refine ⟨_, h0, p, C, dx, _, rfl, hp, cl, no, Nat.lt_of_le_of_lt (zipLen (Nat.le_refl _)) hn, ?_⟩
  rw [putF_at nd hf hl]
  exact q
end
/-! ### the inits -/
def spInit (C : Addr) (ks : List Str) : Sp := fun vs H Q _ => ∃ (p dx : Addr) (ws : List V), vs = .ref p :: ws ∧ ws.length = ks.length ∧ H p = some (.ins C dx []) ∧ Q .non (upd H p (.ins C dx (ks.zip ws)))
section
variable {P : Program} {w : World} {K : PySem.W.Frag} {mg : Str → Option Value} {base : Heap}
theorem c_Speed (T : Tx K mg) : Mak P w K mg base 1 "Speed" (spInit (cSpeed K) kSpeed) := by
  refine mk_Speed_init T (fun vs H Q E h => ?_) (fun cdv A outer s H vs Q E hr h => ?_)
  · obtain ⟨p, dx, ws, rfl, hl, _⟩ := h
    simpa using hl
  · obtain ⟨p, dx, ws, rfl, hl, hp, k⟩ := h
    match ws, hl with
    | [a, b], _ =>
      refine ⟨_, (pss_cons (ps_fld (pv 0) (pv 1) rfl) (pss_one (ps_fld (pv 0) (pv 2) rfl))), ?_⟩
      refine ⟨_, rfl, rd_new (ks := kSpeed) (vs := []) 0 rfl hp T.cl_Speed T.n_Speed_bits nd_Speed rfl rfl (by decide) ?_⟩
      refine ⟨_, rfl, rd_new (ks := kSpeed) (vs := [a]) 1 rfl upd_same T.cl_Speed T.n_Speed_beats nd_Speed rfl rfl (by decide) ?_⟩
      rw [upd_upd]
      exact k
theorem c_Road (T : Tx K mg) : Mak P w K mg base 1 "Road" (spInit (cRoad K) kRoad) := by
  refine mk_Road_init T (fun vs H Q E h => ?_) (fun cdv A outer s H vs Q E hr h => ?_)
  · obtain ⟨p, dx, ws, rfl, hl, _⟩ := h
    simpa using hl
  · obtain ⟨p, dx, ws, rfl, hl, hp, k⟩ := h
    match ws, hl with
    | [a], _ =>
      refine ⟨_, (pss_one (ps_fld (pv 0) (pv 1) rfl)), ?_⟩
      exact ⟨_, rfl, rd_new (ks := kRoad) (vs := []) 0 rfl hp T.cl_Road T.n_Road_pieces nd_Road rfl rfl (by decide) k⟩
theorem c_Talk (T : Tx K mg) : Mak P w K mg base 1 "Talk" (spInit (cTalk K) kTalk) := by
  refine mk_Talk_init T (fun vs H Q E h => ?_) (fun cdv A outer s H vs Q E hr h => ?_)
  · obtain ⟨p, dx, ws, rfl, hl, _⟩ := h
    simpa using hl
  · obtain ⟨p, dx, ws, rfl, hl, hp, k⟩ := h
    match ws, hl with
    | [a, b], _ =>
      refine ⟨_, (pss_cons (ps_fld (pv 0) (pv 1) rfl) (pss_one (ps_fld (pv 0) (pv 2) rfl))), ?_⟩
      refine ⟨_, rfl, rd_new (ks := kTalk) (vs := []) 0 rfl hp T.cl_Talk T.n_Talk_lengths nd_Talk rfl rfl (by decide) ?_⟩
      refine ⟨_, rfl, rd_new (ks := kTalk) (vs := [a]) 1 rfl upd_same T.cl_Talk T.n_Talk_sizes nd_Talk rfl rfl (by decide) ?_⟩
      rw [upd_upd]
      exact k
theorem c_Run (T : Tx K mg) : Mak P w K mg base 1 "Run" (spInit (cRun K) kRun) := by
  refine mk_Run_init T (fun vs H Q E h => ?_) (fun cdv A outer s H vs Q E hr h => ?_)
  · obtain ⟨p, dx, ws, rfl, hl, _⟩ := h
    simpa using hl
  · obtain ⟨p, dx, ws, rfl, hl, hp, k⟩ := h
    match ws, hl with
    | [a, b, c, d, e, f, g], _ =>
      refine ⟨_, (pss_cons (ps_fld (pv 0) (pv 1) rfl)
        (pss_cons (ps_fld (pv 0) (pv 2) rfl)
        (pss_cons (ps_fld (pv 0) (pv 3) rfl)
        (pss_cons (ps_fld (pv 0) (pv 4) rfl)
        (pss_cons (ps_fld (pv 0) (pv 5) rfl)
        (pss_cons (ps_fld (pv 0) (pv 6) rfl)
        (pss_one (ps_fld (pv 0) (pv 7) rfl)))))))), ?_⟩
      refine ⟨_, rfl, rd_new (ks := kRun) (vs := []) 0 rfl hp T.cl_Run T.n_Run_rates nd_Run rfl rfl (by decide) ?_⟩
      refine ⟨_, rfl, rd_new (ks := kRun) (vs := [a]) 1 rfl upd_same T.cl_Run T.n_Run_begun nd_Run rfl rfl (by decide) ?_⟩
      refine ⟨_, rfl, rd_new (ks := kRun) (vs := [a, b]) 2 rfl upd_same T.cl_Run T.n_Run_whole nd_Run rfl rfl (by decide) ?_⟩
      refine ⟨_, rfl, rd_new (ks := kRun) (vs := [a, b, c]) 3 rfl upd_same T.cl_Run T.n_Run_plays nd_Run rfl rfl (by decide) ?_⟩
      refine ⟨_, rfl, rd_new (ks := kRun) (vs := [a, b, c, d]) 4 rfl upd_same T.cl_Run T.n_Run_stalls nd_Run rfl rfl (by decide) ?_⟩
      refine ⟨_, rfl, rd_new (ks := kRun) (vs := [a, b, c, d, e]) 5 rfl upd_same T.cl_Run T.n_Run_ended nd_Run rfl rfl (by decide) ?_⟩
      refine ⟨_, rfl, rd_new (ks := kRun) (vs := [a, b, c, d, e, f]) 6 rfl upd_same T.cl_Run T.n_Run_kept nd_Run rfl rfl (by decide) ?_⟩
      simp only [upd_upd]
      exact k
/-! ### the small ones -/
def spFirst (K : PySem.W.Frag) : Sp := fun vs H Q _ => vs = [] ∧ Q (.ref (He.ga K "FIRST")) H
theorem c_first_stand (T : Tx K mg) : Cal P w K mg base 1 "first_stand" (spFirst K) := by
  refine mk_first_stand T (fun vs H Q E h => ?_) (fun cdv A outer s H vs Q E hr h => ?_)
  · rw [h.1] <;> rfl
  · exact ⟨_, (pss_one (ps_ret (pe_glob (v := .ref (He.ga K "FIRST")) rfl T.g_FIRST rfl))), h.2⟩
def spSeenAt (K : PySem.W.Frag) : Sp := fun vs H Q _ => ∃ (st : Addr) (xs : List V) (r s a b : V), vs = [.ref st, r, s] ∧ SqT K H st xs ∧ xs[0]? = some a ∧ xs[3]? = some b ∧ ∀ p, H p = none → Q (.ref p) (upd H p (.tup [a, b, r, s]))
theorem c_seen_at (T : Tx K mg) : Cal P w K mg base 1 "seen_at" (spSeenAt K) := by
  refine mk_seen_at T (fun vs H Q E h => ?_) (fun cdv A outer s H vs Q E hr h => ?_)
  · obtain ⟨st, xs, r, s, a, b, rfl, _⟩ := h
    rfl
  · obtain ⟨st, xs, r, s', a, b, rfl, hs, h0, h3, k⟩ := h
    refine ⟨_, (pss_one (ps_ret (pe_tup (pa_cons (pe_ix ix_tup (pv 0) pe_int (fun _ _ => rfl)) (pa_cons (pe_ix ix_tup (pv 0) pe_int (fun _ _ => rfl)) (pa_cons (pv 1) (pa_cons (pv 2) pa_nil))))))), ?_⟩
    refine ⟨_, rfl, st, _, _, _, rfl, rfl, hs, at_nat (by decide) h0, _, rfl, st, _, _, _, rfl, rfl, hs, at_nat (by decide) h3, _, rfl, _, rfl, (by show 4 ≤ sizeLine; decide), k⟩
def spAllTold (K : PySem.W.Frag) : Sp := fun vs H Q _ => ∃ (p dx : Addr) (ws : List V), vs = [.ref p] ∧ ws.length = 7 ∧ H p = some (.ins (cRun K) dx (kRun.zip ws)) ∧ ∀ q, H q = none → Q (.ref q) (upd H q (.tup ws))
theorem c_all_told (T : Tx K mg) : Met P w K mg base 1 (cRun K) "all_told" (spAllTold K) := by
  refine mk_Run_all_told T (fun vs H Q E h => ?_) (fun cdv A outer s H vs Q E hr h => ?_)
  · obtain ⟨p, dx, ws, rfl, _⟩ := h
    rfl
  · obtain ⟨p, dx, ws, rfl, hl, hp, k⟩ := h
    match ws, hl with
    | [a, b, c, d, e, f, g], _ =>
      refine ⟨_, (pss_one (ps_ret (pe_tup (pa_cons (pe_fld (pv 0) rfl) (pa_cons (pe_fld (pv 0) rfl) (pa_cons (pe_fld (pv 0) rfl) (pa_cons (pe_fld (pv 0) rfl) (pa_cons (pe_fld (pv 0) rfl) (pa_cons (pe_fld (pv 0) rfl) (pa_cons (pe_fld (pv 0) rfl) pa_nil)))))))))), ?_⟩
      refine ⟨_, rfl, p, _, _, _, a, rfl, hp, T.cl_Run, T.n_Run_rates, lookF (i := 0) nd_Run rfl rfl, _, rfl, p, _, _, _, b, rfl, hp, T.cl_Run, T.n_Run_begun, lookF (i := 1) nd_Run rfl rfl,
        _, rfl, p, _, _, _, c, rfl, hp, T.cl_Run, T.n_Run_whole, lookF (i := 2) nd_Run rfl rfl, _, rfl, p, _, _, _, d, rfl, hp, T.cl_Run, T.n_Run_plays, lookF (i := 3) nd_Run rfl rfl,
        _, rfl, p, _, _, _, e, rfl, hp, T.cl_Run, T.n_Run_stalls, lookF (i := 4) nd_Run rfl rfl, _, rfl, p, _, _, _, f, rfl, hp, T.cl_Run, T.n_Run_ended, lookF (i := 5) nd_Run rfl rfl,
        _, rfl, p, _, _, _, g, rfl, hp, T.cl_Run, T.n_Run_kept, lookF (i := 6) nd_Run rfl rfl, (by show 7 ≤ sizeLine; decide), k⟩
def spRunLen (K : PySem.W.Frag) : Sp := fun vs H Q _ => ∃ (p dx : Addr) (ws : List V) (n : Nat), vs = [.ref p] ∧ ws[5]? = some (.int n) ∧ H p = some (.ins (cRun K) dx (kRun.zip ws)) ∧ n < 2 ^ 62 ∧ ∀ H', Kp [] H H' → Q (.int n) H'
theorem c_Run_len (T : Tx K mg) : Met P w K mg base 1 (cRun K) "__len__" (spRunLen K) := by
  refine mk_Run_len T (fun vs H Q E h => ?_) (fun cdv A outer s H vs Q E hr h => ?_)
  · obtain ⟨p, dx, ws, n, rfl, _⟩ := h
    rfl
  · obtain ⟨p, dx, ws, n, rfl, h5, hp, hn, k⟩ := h
    refine ⟨_, (pss_one (ps_ret (pe_callB cr_lenRng rfl T.f_len (by decide +kernel) (pa_cons (pe_callTy cr_range1 rfl T.f_range (by decide +kernel) (pa_cons (pe_fld (pv 0) rfl) pa_nil)) pa_nil)))), ?_⟩
    refine ⟨_, rfl, p, _, _, _, _, rfl, hp, T.cl_Run, T.n_Run_ended, lookF (i := 5) nd_Run rfl h5, _, rfl, fun q hq => ⟨q, n, rfl, upd_same, hn, k _ (Kp.refl.new hq)⟩⟩
def spTalkLen (K : PySem.W.Frag) : Sp := fun vs H Q _ => ∃ (t : Addr) (lens : List Int) (sizes : List (List Int)), vs = [.ref t] ∧ TalkAt K H t lens sizes ∧ 0 ≤ lens.sum ∧ lens.sum < 2 ^ 62 ∧ ∀ H', Kp [] H H' → Q (.int lens.sum) H'
theorem c_Talk_len (T : Tx K mg) : Met P w K mg base 1 (cTalk K) "__len__" (spTalkLen K) := by
  refine mk_Talk_len T (fun vs H Q E h => ?_) (fun cdv A outer s H vs Q E hr h => ?_)
  · obtain ⟨t, lens, sizes, rfl, _⟩ := h
    rfl
  · obtain ⟨t, lens, sizes, rfl, ⟨dx, tl, ts, h1, h2, h3⟩, hp, hn, k⟩ := h
    refine ⟨_, (pss_one (ps_ret (pe_callB cr_lenRng rfl T.f_len (by decide +kernel) (pa_cons (pe_callTy cr_range1 rfl T.f_range (by decide +kernel) (pa_cons (pe_callB (cr_sumT rfl) rfl T.f_sum (by decide +kernel) (pa_cons (pe_fld (pv 0) rfl) pa_nil)) pa_nil)) pa_nil)))), ?_⟩
    have e : lens.sum = ((lens.sum.toNat : Nat) : Int) := (Int.toNat_of_nonneg hp).symm
    refine ⟨_, rfl, t, _, _, _, _, rfl, h1, T.cl_Talk, T.n_Talk_lengths, lookF (i := 0) nd_Talk rfl rfl, tl, lens, rfl, h2, _, rfl, fun q hq => ⟨q, lens.sum.toNat, rfl, by rw [← e]; exact upd_same, by omega, ?_⟩⟩
    rw [← e]
    exact k _ (Kp.refl.new hq)
def spMany (K : PySem.W.Frag) : Sp := fun vs H Q _ => ∃ (t : Addr) (lens : List Int) (row : List Int) (sizes : List (List Int)), vs = [.ref t] ∧ TalkAt K H t lens (row :: sizes) ∧ sizes.length ≤ 100 ∧ ∀ H', Kp [] H H' → Q (.int row.length) H'
theorem c_many_rates (T : Tx K mg) : Met P w K mg base 1 (cTalk K) "many_rates" (spMany K) := by
  refine mk_Talk_many_rates T (fun vs H Q E h => ?_) (fun cdv A outer s H vs Q E hr h => ?_)
  · obtain ⟨t, lens, row, sizes, rfl, _⟩ := h
    rfl
  · obtain ⟨t, lens, row, sizes, rfl, ⟨dx, tl, ts, h1, h2, h3⟩, hz, k⟩ := h
    obtain ⟨as, g1, g2, g3⟩ := h3.at_
    obtain ⟨a, ea, ra⟩ := g3 0 row rfl
    refine ⟨_, (pss_cons (ps_asg (pe_fld (pv 0) rfl) (pg_star rfl (pgs_cons (pg_name (i := 1) sc_Talk_many_rates.nd rfl (Or.inl rfl)) (pgs_star (pg_name (i := 2) sc_Talk_many_rates.nd rfl (Or.inl rfl))))))
      (pss_one (ps_ret (pe_callB call_len_seq rfl T.f_len (by decide +kernel) (pa_cons (pv 1) pa_nil))))), ?_⟩
    match as, ea with
    | b :: as, ea =>
      cases ea
      refine ⟨_, rfl, t, _, _, _, _, rfl, h1, T.cl_Talk, T.n_Talk_sizes, lookF (i := 1) nd_Talk rfl rfl, ts, _, rfl, g1, (by show 1 ≤ _; simp), (by rw [List.length_map, g2]; simp; omega), fun q hq => ?_⟩
      refine ⟨_, _, rfl, _, _, rfl, rfl, _, rfl, a, _, rfl, .inr (Kp.tup (S := []) (Kp.refl.new hq) ra), ?_⟩
      show Q (.int ((row.map V.int).length : Nat)) _
      rw [List.length_map]
      exact k _ (Kp.refl.new hq)
end
end K76


set_option Elab.async false
set_option linter.all false
set_option maxRecDepth 100000
set_option maxHeartbeats 4000000
/-! The draws. -/
namespace K76
open PySem PySem.Spec PyProof.Rows L2 LamX NdefX
def WellAt (H : Hp) (l : Addr) : Prop := ∃ a b c : Int, H l = some (.lst [.int a, .int b, .int c]) ∧ 0 ≤ a ∧ 0 ≤ b ∧ 0 ≤ c
theorem WellAt.keep {S : List Addr} {H H' : Hp} {l : Addr} (h : WellAt H l) (k : Kp S H H') (hS : l ∉ S) : WellAt H' l := by
  obtain ⟨a, b, c, h1, h2⟩ := h
  exact ⟨a, b, c, k.lst hS h1, h2⟩
theorem mvL {xs : List V} : Mv (.lst xs) := .inl ⟨xs, rfl⟩
theorem mvI {C dx : Addr} {fs : List (Str × V)} (h : fs.length = 15) : Mv (.ins C dx fs) := .inr ⟨C, dx, fs, rfl, h⟩
def spTake : Sp := fun vs H Q _ => ∃ (l : Addr) (top : Int), vs = [.ref l, .int top] ∧ WellAt H l ∧ 0 < top ∧ top < 1000000 ∧ ∀ (d : Int) (H' : Hp), 0 ≤ d → d < top → WellAt H' l → Kp [l] H H' → Q (.int d) H'
section
variable {P : Program} {w : World} {K : PySem.W.Frag} {mg : Str → Option Value} {base : Heap}
theorem c__law_take (T : Tx K mg) : Cal P w K mg base 1 "_law_take" spTake := by
  refine mk__law_take T (fun vs H Q E h => ?_) (fun cdv A outer s H vs Q E hr h => ?_)
  · obtain ⟨l, top, rfl, _⟩ := h
    rfl
  · obtain ⟨l, top, rfl, ⟨a, b, c, hl, ha, hb, hc⟩, ht0, ht1, k⟩ := h
    refine ⟨_, (pss_cons (ps_if (pt_cmpR op_gt (pe_ix ix_list (pv 0) pe_int (fun _ _ => rfl)) pe_int (nomark _)) (pss_cons (ps_set (i := 2) sc__law_take.nd rfl (Or.inl rfl) (pe_op op_mod (pe_ix ix_list (pv 0) pe_int (fun _ _ => rfl)) (pv 1)))
      (pss_cons (ps_asg (pe_op op_fdiv (pe_ix ix_list (pv 0) pe_int (fun _ _ => rfl)) (pv 1)) (pg_sub (pv 0) pe_int set_list))
      (pss_one (ps_ret (pv 2))))) pss_nil)
    (pss_cons (ps_asg (pe_op op_add (pe_ix ix_list (pv 0) pe_int (fun _ _ => rfl)) pe_int) (pg_sub (pv 0) pe_int set_list))
    (pss_cons (ps_set (i := 3) sc__law_take.nd rfl (Or.inl rfl) (pe_op op_mod (pe_op op_mul (pe_op op_add (pe_op op_add (pe_ix ix_list (pv 0) pe_int (fun _ _ => rfl)) (pe_op op_mul pe_int (pe_ix ix_list (pv 0) pe_int (fun _ _ => rfl)))) pe_int) pe_int) pe_int))
    (pss_cons (ps_set (i := 3) sc__law_take.nd rfl (Or.inl rfl) (pe_op op_mod (pe_op op_add (pe_op op_mul (pv 3) (pv 3)) (pe_op op_mul pe_int (pe_ix ix_list (pv 0) pe_int (fun _ _ => rfl)))) pe_int))
    (pss_cons (ps_set (i := 3) sc__law_take.nd rfl (Or.inl rfl) (pe_op op_add (pe_op op_mul (pe_op op_mod (pe_op op_mul (pv 3) (pe_op op_add (pv 3) pe_int)) pe_int) pe_int) (pv 3)))
    (pss_one (ps_ret (pe_op op_mod (pe_op op_fdiv (pe_op op_mod (pe_op op_mul (pv 3) pe_int) pe_int) pe_int) (pv 1))))))))), ?_⟩
    refine ⟨_, rfl, l, _, _, _, rfl, rfl, SqL.of hl, at_nat (by decide) rfl, _, _, rfl, rfl, _, rfl, ?_⟩
    refine ite2 (fun h1 => ?_) fun h1 => ?_
    · refine ⟨_, rfl, l, _, _, _, rfl, rfl, SqL.of hl, at_nat (by decide) rfl, _, rfl, _, _, rfl, rfl, ht0, ?_⟩
      refine ⟨_, rfl, l, _, _, _, rfl, rfl, SqL.of hl, at_nat (by decide) rfl, _, rfl, _, _, rfl, rfl, ⟨ht0, by omega⟩, _, rfl, l, _, _, 0, rfl, rfl, hl, rfl, ?_⟩
      refine ⟨_, rfl, k _ _ (Int.emod_nonneg _ (by omega)) (Int.emod_lt_of_pos _ ht0) ⟨_, _, _, upd_same, Int.ediv_nonneg ha (by omega), hb, hc⟩ (Kp.refl.put (by simp) hl mvL)⟩
    · refine ⟨_, rfl, l, _, _, _, rfl, rfl, SqL.of hl, at_nat (by decide) rfl, _, _, rfl, rfl, _, rfl, l, _, _, 2, rfl, rfl, hl, rfl, ?_⟩
      refine ⟨_, rfl, l, _, _, _, rfl, rfl, SqL.of upd_same, at_nat (by decide) rfl, _, rfl, l, _, _, _, rfl, rfl, SqL.of upd_same, at_nat (by decide) rfl, _, _, rfl, rfl, .inl ⟨by decide, by decide⟩,
        _, _, rfl, rfl, _, _, rfl, rfl, _, _, rfl, rfl, .inr ⟨by decide, by decide⟩, _, _, rfl, rfl, (by show (0 : Int) < 2147483647; decide), ?_⟩
      generalize hn : (b + 65537 * (c + 1) + 31) * 48271 % 2147483647 = n1
      have n0 : 0 ≤ n1 := by rw [← hn]; exact Int.emod_nonneg _ (by decide)
      have n2 : n1 < 2147483647 := by rw [← hn]; exact Int.emod_lt_of_pos _ (by decide)
      refine ⟨_, rfl, _, rfl, _, _, rfl, rfl, .inl ⟨by omega, by omega⟩, _, rfl, l, _, _, _, rfl, rfl, SqL.of upd_same, at_nat (by decide) rfl, _, _, rfl, rfl, .inl ⟨by decide, by decide⟩,
        _, _, rfl, rfl, _, _, rfl, rfl, (by show (0 : Int) < 2147483587; decide), ?_⟩
      generalize hm : (n1 * n1 + 69621 * (c + 1)) % 2147483587 = m1
      have m0 : 0 ≤ m1 := by rw [← hm]; exact Int.emod_nonneg _ (by decide)
      have m2 : m1 < 2147483587 := by rw [← hm]; exact Int.emod_lt_of_pos _ (by decide)
      refine ⟨_, rfl, _, rfl, _, _, rfl, rfl, _, _, rfl, rfl, .inl ⟨by omega, by omega⟩, _, _, rfl, rfl, (by show (0 : Int) < 2147483563; decide), _, _, rfl, rfl, .inr ⟨by decide, by decide⟩, _, rfl, _, _, rfl, rfl, ?_⟩
      refine ⟨_, rfl, _, _, rfl, rfl, .inr ⟨by decide, by decide⟩, _, _, rfl, rfl, (by show (0 : Int) < 2305843009213693951; decide), _, _, rfl, rfl, ⟨by decide, by decide⟩, _, rfl, _, _, rfl, rfl, ht0, ?_⟩
      exact k _ _ (Int.emod_nonneg _ (by omega)) (Int.emod_lt_of_pos _ ht0) ⟨_, _, _, upd_same, ha, hb, by omega⟩ (Kp.refl.put (by simp) hl mvL)
def spWell (K : PySem.W.Frag) : Sp := fun vs H Q _ => ∃ (a : Addr) (ns : List Int), vs = [.ref a, .int 0] ∧ SqL K H a (ns.map V.int) ∧ (∀ z ∈ ns, Builtin.Int.intBits z ≤ 1048576) ∧ ∀ (l : Addr) (H' : Hp), H l = none → WellAt H' l → Kp [] H H' → Q (.ref l) H'
theorem c__law_well (T : Tx K mg) : Cal P w K mg base 1 "_law_well" (spWell K) := by
  refine mk__law_well T (fun vs H Q E h => ?_) (fun cdv A outer s H vs Q E hr h => ?_)
  · obtain ⟨a, ns, rfl, _⟩ := h
    rfl
  · obtain ⟨a, ns, rfl, hs, hb, k⟩ := h
    refine ⟨_, (pss_cons (ps_set (i := 2) sc__law_well.nd rfl (Or.inl rfl) pe_int)
    (C8.pss_cut (ps_if (pt_cmpR op_lt (pv 1) (pe_callB call_len_seq rfl T.f_len (by decide +kernel) (pa_cons (pv 0) pa_nil)) (nomark _)) (pss_one (ps_set (i := 2) sc__law_well.nd rfl (Or.inl rfl) (pe_ix ix_list (pv 0) (pv 1) (fun _ _ => rfl)))) pss_nil)
    (pss_one (ps_ret (pe_lst (pa_cons (pe_op op_mul (pv 2) (pe_callTy call_int1 rfl T.f_int (by decide +kernel) (pa_cons (pe_cmpR op_ge (pv 2) (pe_op op_pow pe_int pe_int) (nomark _)) pa_nil))) (pa_cons (pe_op op_add (pe_op op_mod (pv 2) pe_int) (pe_op op_mul pe_int (pv 1))) (pa_cons pe_int pa_nil)))))))), ?_⟩
    refine ⟨fun σ' H' => ∃ z : Int, σ' = [some (.ref a), some (.int 0), some (.int z)] ∧ H' = H, ?_, ?_⟩
    · refine ⟨_, rfl, _, rfl, _, _, rfl, .inl hs, _, _, rfl, rfl, _, rfl, ?_⟩
      refine ite2 (fun h1 => ?_) fun h1 => ?_
      · have h1 := of_decide_eq_true h1
        rw [List.length_map] at h1
        exact ⟨_, rfl, _, rfl, a, _, _, _, rfl, rfl, hs, at_int (by decide) h1, _, rfl, rfl⟩
      · exact ⟨0, rfl, rfl⟩
    · rintro σ' H' ⟨z, rfl, rfl⟩
      refine ⟨_, rfl, _, rfl, _, _, rfl, rfl, ⟨by decide, by decide, by decide⟩, _, _, rfl, rfl, .inr ⟨_, rfl, ?_⟩⟩
      have e : 0 ≤ z * (if decide ((10 : Int) ^ Int.toNat 18 ≤ z) = true then 1 else 0) := by
        by_cases hz : (10 : Int) ^ Int.toNat 18 ≤ z
        · have h0 : (0 : Int) ≤ 10 ^ Int.toNat 18 := by decide
          rw [decide_eq_true hz, if_pos rfl]
          omega
        · rw [decide_eq_false hz, if_neg Bool.false_ne_true]
          omega
      refine ⟨_, _, rfl, rfl, .inr ?_, ?_⟩
      · cases decide (z ≥ 10 ^ (18 : Int).toNat) <;> exact ⟨by decide, by decide⟩
      refine ⟨_, rfl, _, _, rfl, rfl, (by show (0 : Int) < 2147483629; decide), _, rfl, _, _, rfl, rfl, .inl ⟨by decide, by decide⟩, _, _, rfl, rfl, (by show 3 ≤ sizeLine; decide), fun l hl => ?_⟩
      refine k l _ hl ⟨_, _, _, upd_same, ?_, ?_, by decide⟩ (Kp.refl.new hl)
      · exact e
      · have := Int.emod_nonneg z (show (2147483629 : Int) ≠ 0 by decide)
        omega
end
end K76


set_option Elab.async false
set_option linter.all false
set_option maxRecDepth 100000
set_option maxHeartbeats 4000000
/-! The talk that is drawn. -/
namespace K76
open PySem PySem.Spec PyProof.Rows L2 LamX NdefX
theorem at_mem {ns : List Int} {z : Int} (h0 : 0 ≤ z) (h1 : z < ns.length) : ∃ x, x ∈ ns ∧ atI (ns.map V.int) z = some (.int x) := by
  refine ⟨ns.getD z.toNat 0, ?_, at_int h0 h1⟩
  rw [List.getD_eq_getElem?_getD, List.getElem?_eq_getElem (by omega)]
  exact List.getElem_mem _
/-- rows laid one by one -/
def RowsL (K : PySem.W.Frag) (H : Hp) (as : List Addr) (rows : List (List Int)) : Prop := as.length = rows.length ∧ ∀ (i : Nat) (a : Addr), as[i]? = some a → ∃ r, rows[i]? = some r ∧ SqT K H a (r.map V.int)
theorem RowsL.kp {K : PySem.W.Frag} {S : List Addr} {H H' : Hp} {as : List Addr} {rows : List (List Int)} (h : RowsL K H as rows) (k : KpN S H H') : RowsL K H' as rows := ⟨h.1, fun i a e => by
  obtain ⟨r, e1, e2⟩ := h.2 i a e
  exact ⟨r, e1, k.tup e2⟩⟩
theorem RowsL.snoc {K : PySem.W.Frag} {H : Hp} {as : List Addr} {rows : List (List Int)} {a : Addr} {r : List Int} (h : RowsL K H as rows) (hr : SqT K H a (r.map V.int)) : RowsL K H (as ++ [a]) (rows ++ [r]) := by
  refine ⟨by rw [List.length_append, List.length_append, h.1] <;> rfl, fun i b e => ?_⟩
  by_cases hi : i < as.length
  · rw [List.getElem?_append_left hi] at e
    obtain ⟨r', e1, e2⟩ := h.2 i b e
    exact ⟨r', by rw [List.getElem?_append_left (by rw [← h.1]; exact hi)]; exact e1, e2⟩
  · have hi2 : i = as.length := by
      have := (List.getElem?_eq_some_iff.mp e).1
      rw [List.length_append] at this
      simp at this
      omega
    subst hi2
    rw [List.getElem?_append_right (Nat.le_refl _), Nat.sub_self] at e
    cases e
    exact ⟨r, by rw [h.1, List.getElem?_append_right (Nat.le_refl _), Nat.sub_self] <;> rfl, hr⟩
theorem RowsL.at_ {K : PySem.W.Frag} {H : Hp} {as : List Addr} {rows : List (List Int)} {t : Addr} (h : RowsL K H as rows) (ht : SqT K H t (as.map V.ref)) : TupsAt K H t rows := ⟨as, ht, h.1, h.2⟩
structure TalkOk (lens : List Int) (sizes : List (List Int)) : Prop where
  l0 : 1 ≤ lens.length
  l1 : lens.length ≤ 12
  sl : sizes.length = lens.length
  lb : ∀ z ∈ lens, 1 ≤ z ∧ z ≤ 20
  wd : ∃ n : Nat, 1 ≤ n ∧ n ≤ 4 ∧ ∀ r ∈ sizes, r.length = n
  sb : ∀ r ∈ sizes, ∀ z ∈ r, 1 ≤ z ∧ z ≤ 300
def spTalkD (K : PySem.W.Frag) : Sp := fun vs H Q _ => ∃ l : Addr, vs = [.ref l] ∧ WellAt H l ∧ ∀ (p tl ts : Addr) (lens : List Int) (sizes : List (List Int)) (H' : Hp), TalkOk lens sizes → SqT K H' p [.ref tl, .ref ts] → SqT K H' tl (lens.map V.int) → TupsAt K H' ts sizes → WellAt H' l → Kp [l] H H' → Q (.ref p) H'
section
variable {P : Program} {w : World} {K : PySem.W.Frag} {mg : Str → Option Value} {base : Heap}
theorem c__law_talk (T : Tx K mg) : Cal P w K mg base 2 "_law_talk" (spTalkD K) := by
  have c__law_take : Cal P w K mg base 1 "_law_take" spTake := c__law_take T
  refine mk__law_talk T (fun vs H Q E h => ?_) (fun cdv A outer s H vs Q E hr h => ?_)
  · obtain ⟨l, rfl, _⟩ := h
    rfl
  · obtain ⟨l, rfl, w0, k⟩ := h
    refine ⟨_, (pss_cons (ps_set (i := 1) sc__law_talk.nd rfl (Or.inl rfl) (pe_callTy call_int1 rfl T.f_int (by decide +kernel) (pa_cons (pe_cmpR op_eq (pe_c c__law_take hr (by decide) rfl (pa_cons (pv 0) (pa_cons pe_int pa_nil))) pe_int (nomark _)) pa_nil)))
    (pss_cons (ps_set (i := 2) sc__law_talk.nd rfl (Or.inl rfl) (pe_c c__law_take hr (by decide) rfl (pa_cons (pv 0) (pa_cons pe_int pa_nil))))
    (pss_cons (ps_set (i := 3) sc__law_talk.nd rfl (Or.inl rfl) (pe_ix ix_list (pe_lst (pa_cons (pe_op op_add pe_int (pe_c c__law_take hr (by decide) rfl (pa_cons (pv 0) (pa_cons pe_int pa_nil)))) (pa_cons pe_int pa_nil))) (pv 1) (fun _ _ => rfl)))
    (C8.pss_cut (ps_set (i := 4) sc__law_talk.nd rfl (Or.inl rfl) (pe_ix ix_list (pe_lst (pa_cons (pe_op op_add pe_int (pe_c c__law_take hr (by decide) rfl (pa_cons (pv 0) (pa_cons pe_int pa_nil)))) (pa_cons pe_int pa_nil))) (pv 1) (fun _ _ => rfl)))
    (pss_cons (ps_set (i := 5) sc__law_talk.nd rfl (Or.inl rfl) (pe_lst pa_nil))
    (pss_cons (ps_set (i := 6) sc__law_talk.nd rfl (Or.inl rfl) (pe_lst pa_nil))
    (pss_cons (ps_for PassesOwn.never rfl (pi_range1 rfl T.f_range (pa_cons (pv 3) pa_nil)) (pg_name (i := 7) sc__law_talk.nd rfl (Or.inl rfl))
      (C8.pss_cut (ps_expr (pe_bm PySem.F.plainAttrs_list PySem.F.slot_list_append PySem.F.type_list_append mt_append (pv 5) (pa_cons (pe_ix ix_list (pe_lst (pa_cons (pe_op op_add pe_int (pe_c c__law_take hr (by decide) rfl (pa_cons (pv 0) (pa_cons pe_int pa_nil)))) (pa_cons (pe_op op_add pe_int (pe_c c__law_take hr (by decide) rfl (pa_cons (pv 0) (pa_cons pe_int pa_nil)))) (pa_cons (pe_op op_sub pe_int (pe_c c__law_take hr (by decide) rfl (pa_cons (pv 0) (pa_cons pe_int pa_nil)))) (pa_cons pe_int pa_nil))))) (pv 2) (fun _ _ => rfl)) pa_nil)))
      (pss_cons (ps_set (i := 8) sc__law_talk.nd rfl (Or.inl rfl) (pe_lst pa_nil))
      (pss_cons (ps_for PassesOwn.never rfl (pi_range1 rfl T.f_range (pa_cons (pv 4) pa_nil)) (pg_name (i := 9) sc__law_talk.nd rfl (Or.inl rfl))
        (pss_one (ps_expr (pe_bm PySem.F.plainAttrs_list PySem.F.slot_list_append PySem.F.type_list_append mt_append (pv 8) (pa_cons (pe_ix ix_list (pe_lst (pa_cons (pe_op op_add pe_int (pe_c c__law_take hr (by decide) rfl (pa_cons (pv 0) (pa_cons pe_int pa_nil)))) (pa_cons (pe_op op_add pe_int (pe_c c__law_take hr (by decide) rfl (pa_cons (pv 0) (pa_cons pe_int pa_nil)))) (pa_cons (pe_op op_sub pe_int (pe_c c__law_take hr (by decide) rfl (pa_cons (pv 0) (pa_cons pe_int pa_nil)))) (pa_cons (pe_op op_add (pe_op op_mul pe_int (pv 9)) pe_int) pa_nil))))) (pv 2) (fun _ _ => rfl)) pa_nil)))))
      (pss_one (ps_expr (pe_bm PySem.F.plainAttrs_list PySem.F.slot_list_append PySem.F.type_list_append mt_append (pv 6) (pa_cons (pe_callTy call_tuple_of rfl T.f_tuple (by decide +kernel) (pa_cons (pv 8) pa_nil)) pa_nil))))))))
    (pss_one (ps_ret (pe_tup (pa_cons (pe_callTy call_tuple_of rfl T.f_tuple (by decide +kernel) (pa_cons (pv 5) pa_nil)) (pa_cons (pe_callTy call_tuple_of rfl T.f_tuple (by decide +kernel) (pa_cons (pv 6) pa_nil)) pa_nil)))))))))))), ?_⟩
    refine ⟨_, rfl, l, 8, rfl, w0, by decide, by decide, fun d1 H1 _ _ w1 k1 => ⟨rfl, .inr ⟨_, rfl, ?_⟩⟩⟩
    obtain ⟨g, hg0, hg1, hg⟩ : ∃ g : Int, 0 ≤ g ∧ g < 2 ∧ g = (if decide (V.int d1 = V.int 5) = true then 1 else 0) := by
      by_cases e : decide (V.int d1 = V.int 5) = true
      · exact ⟨1, by decide, by decide, by rw [if_pos e]⟩
      · exact ⟨0, by decide, by decide, by rw [if_neg e]⟩
    rw [← hg]
    refine ⟨_, rfl, l, 4, rfl, w1, by decide, by decide, fun way H2 y0 y1 w2 k2 => ?_⟩
    refine ⟨_, rfl, l, 5, rfl, w2, by decide, by decide, fun d3 H3 a0 a1 w3 k3 => ⟨_, _, rfl, rfl, (by show 2 ≤ sizeLine; decide), fun p1 hp1 => ?_⟩⟩
    obtain ⟨many, m1, m2⟩ := at_mem (ns := [1 + d3, 12]) hg0 (by simpa using hg1)
    refine ⟨_, rfl, p1, _, _, _, rfl, rfl, SqL.of upd_same, m2, fun σ' H' => ∃ wide : Int, 1 ≤ wide ∧ wide ≤ 4 ∧ WellAt H' l ∧ Kp [l] H H' ∧ σ' = [some (.ref l), some (.int g), some (.int way), some (.int many), some (.int wide), none, none, none, none, none], ?_, ?_⟩
    · have k4 : Kp [l] H3 (upd H3 p1 (.lst [.int (1 + d3), .int 12])) := Kp.refl.new hp1
      have w4 : WellAt (upd H3 p1 (.lst [.int (1 + d3), .int 12])) l := w3.keep (S := []) (Kp.refl.new hp1) (by simp)
      refine ⟨_, rfl, l, 4, rfl, w4, by decide, by decide, fun d5 H5 b0 b1 w5 k5 => ⟨_, _, rfl, rfl, (by show 2 ≤ sizeLine; decide), fun p2 hp2 => ?_⟩⟩
      obtain ⟨wide, v1, v2⟩ := at_mem (ns := [1 + d5, 4]) hg0 (by simpa using hg1)
      refine ⟨_, rfl, p2, _, _, _, rfl, rfl, SqL.of upd_same, v2, wide, ?_, ?_, w5.keep (S := []) (Kp.refl.new hp2) (by simp), (((k1.trans k2).trans (k3.trans k4)).trans k5).trans (Kp.refl.new hp2), rfl⟩
      · simp at v1
        omega
      · simp at v1
        omega
    have mb : 1 ≤ many ∧ many ≤ 12 := by
      simp at m1
      omega
    rintro σ' H' ⟨wide, v0, v1, w6, k6, rfl⟩
    refine ⟨(by show 0 ≤ sizeLine; decide), fun tl htl => ⟨(by show 0 ≤ sizeLine; decide), fun ts hts => ?_⟩⟩
    have ntl : tl ≠ ts := ne_of_none upd_same hts
    have nll : l ≠ tl := by
      obtain ⟨a, b, c, e, _⟩ := w6
      exact ne_of_none e htl
    have nls : l ≠ ts := by
      obtain ⟨a, b, c, e, _⟩ := w6
      exact ne_of_none ((upd_ne (ne_of_none e htl)).trans e) hts
    refine ⟨_, rfl, many, rfl, by omega, by omega, for_range (lo := 0) (n := many.toNat) (fun i σ H2 => ∃ (v7 v8 v9 : Option V) (lens : List Int) (as : List Addr) (sizes : List (List Int)),
      σ = [some (.ref l), some (.int g), some (.int way), some (.int many), some (.int wide), some (.ref tl), some (.ref ts), v7, v8, v9] ∧ WellAt H2 l ∧ Kp [l] H' H2 ∧ H2 tl = some (.lst (lens.map V.int)) ∧ H2 ts = some (.lst (as.map V.ref)) ∧ RowsL K H2 as sizes ∧
      lens.length = i ∧ sizes.length = i ∧ (∀ z ∈ lens, 1 ≤ z ∧ z ≤ 20) ∧ (∀ r ∈ sizes, r.length = wide.toNat ∧ ∀ z ∈ r, 1 ≤ z ∧ z ≤ 300)) ?_ ?_ ?_⟩
    · exact ⟨none, none, none, [], [], [], rfl, (w6.keep (S := []) (Kp.refl.new htl) (by simp)).keep (S := []) (Kp.refl.new hts) (by simp), (Kp.refl.new htl).new (by rw [← upd_ne (H := H') (o := .lst []) (Ne.symm ntl)]; exact hts), by rw [upd_ne ntl]; exact upd_same, upd_same, ⟨rfl, fun i a e => by simp at e⟩, rfl, rfl, by simp, by simp⟩
    · rintro i σ H2 hi ⟨v7, v8, v9, lens, as, sizes, rfl, w7, k7, h1, h2, h3, e1, e2, e3, e4⟩
      have him : i < 12 := by omega
      refine ⟨fun σ' G4 => ∃ ln : Int, 1 ≤ ln ∧ ln ≤ 20 ∧ σ' = [some (.ref l), some (.int g), some (.int way), some (.int many), some (.int wide), some (.ref tl), some (.ref ts), some (.int (0 + (i : Nat))), v8, v9] ∧ WellAt G4 l ∧ Kp [l, tl] H2 G4 ∧ Kp [l] H' G4 ∧ G4 tl = some (.lst ((lens ++ [ln]).map V.int)) ∧ G4 ts = some (.lst (as.map V.ref)), ?_, ?_⟩
      · -- lengths.append([..][way])
        refine ⟨_, rfl, .inl ⟨rfl, _, SqL.of h1⟩, ?_⟩
        refine ⟨_, rfl, l, 20, rfl, w7, by decide, by decide, fun x1 G1 x10 x11 u1 q1 => ⟨_, _, rfl, rfl, _, rfl, l, 3, rfl, u1, by decide, by decide, fun x2 G2 x20 x21 u2 q2 => ⟨_, _, rfl, rfl, _, rfl, l, 2, rfl, u2, by decide, by decide, fun x3 G3 x30 x31 u3 q3 => ⟨_, _, rfl, rfl, (by show 4 ≤ sizeLine; decide), fun p1 hp1 => ?_⟩⟩⟩⟩
        obtain ⟨ln, n1, n2⟩ := at_mem (ns := [1 + x1, 1 + x2, 20 - x3, 4]) y0 (by simpa using y1)
        have lb : 1 ≤ ln ∧ ln ≤ 20 := by
          simp at n1
          omega
        have q4 : Kp [l] H2 (upd G3 p1 (.lst ([1 + x1, 1 + x2, 20 - x3, 4].map V.int))) := ((q1.trans q2).trans q3).trans (Kp.refl.new hp1)
        have u4 := u3.keep (S := []) (H' := upd G3 p1 (.lst ([1 + x1, 1 + x2, 20 - x3, 4].map V.int))) (Kp.refl.new hp1) (by simp)
        have g1 := q4.lst (by simpa using nll.symm) h1
        have g2 := q4.lst (by simpa using nls.symm) h2
        refine ⟨_, rfl, p1, _, _, _, rfl, rfl, SqL.of upd_same, n2, tl, _, _, rfl, rfl, g1, (by rw [List.length_map, e1, sizeLine_eq]; omega), ?_⟩
        refine ⟨ln, lb.1, lb.2, rfl, ?_, (q4.mono (by simp)).put (by simp) g1 mvL, (k7.trans q4).new htl, by rw [List.map_append]; exact upd_same, by rw [upd_ne ntl.symm]; exact g2⟩
        obtain ⟨a, b, c, z, z2⟩ := u4
        exact ⟨a, b, c, by rw [upd_ne nll]; exact z, z2⟩
      rintro _ G4 ⟨ln, lb1, lb2, rfl, u5, q5, q6, g3, g4⟩
      have lb : 1 ≤ ln ∧ ln ≤ 20 := ⟨lb1, lb2⟩
      have r5 := h3.kp q5.toN
      -- row = []
      refine ⟨(by show 0 ≤ sizeLine; decide), fun rw_ hrw => ?_⟩
      have nlr : l ≠ rw_ := by
        obtain ⟨a, b, c, z, _⟩ := u5
        exact ne_of_none z hrw
      have ntr : tl ≠ rw_ := ne_of_none g3 hrw
      have nsr : ts ≠ rw_ := ne_of_none g4 hrw
      refine ⟨_, rfl, wide, rfl, by omega, by omega, for_range (lo := 0) (n := wide.toNat) (fun j σ H5 => ∃ (v9 : Option V) (row : List Int),
        σ = [some (.ref l), some (.int g), some (.int way), some (.int many), some (.int wide), some (.ref tl), some (.ref ts), some (.int (0 + (i : Nat))), some (.ref rw_), v9] ∧ WellAt H5 l ∧ Kp [l] G4 H5 ∧ H5 rw_ = some (.lst (row.map V.int)) ∧ row.length = j ∧ (∀ z ∈ row, 1 ≤ z ∧ z ≤ 300)) ?_ ?_ ?_⟩
      · exact ⟨v9, [], rfl, u5.keep (S := []) (Kp.refl.new hrw) (by simp), Kp.refl.new hrw, upd_same, rfl, by simp⟩
      · rintro j σ H5 hj ⟨v9, row, rfl, w8, k8, r1, r2, r3⟩
        refine ⟨_, rfl, .inl ⟨rfl, _, SqL.of r1⟩, ?_⟩
        refine ⟨_, rfl, l, 300, rfl, w8, by decide, by decide, fun x1 G1 x10 x11 u1 q1 => ⟨_, _, rfl, rfl, _, rfl, l, 9, rfl, u1, by decide, by decide, fun x2 G2 x20 x21 u2 q2 => ⟨_, _, rfl, rfl, _, rfl, l, 3, rfl, u2, by decide, by decide, fun x3 G3 x30 x31 u3 q3 => ⟨_, _, rfl, rfl, _, rfl, _, _, rfl, rfl, .inl ⟨by decide, by decide⟩, _, _, rfl, rfl, (by show 4 ≤ sizeLine; decide), fun p1 hp1 => ?_⟩⟩⟩⟩
        obtain ⟨z, n1, n2⟩ := at_mem (ns := [1 + x1, 1 + x2, 300 - x3, 10 * (0 + (j : Nat)) + 9]) y0 (by simpa using y1)
        have zb : 1 ≤ z ∧ z ≤ 300 := by
          simp at n1
          omega
        have q4 : Kp [l] H5 (upd G3 p1 (.lst ([1 + x1, 1 + x2, 300 - x3, 10 * (0 + (j : Nat)) + 9].map V.int))) := ((q1.trans q2).trans q3).trans (Kp.refl.new hp1)
        have u4 := u3.keep (S := []) (H' := upd G3 p1 (.lst ([1 + x1, 1 + x2, 300 - x3, 10 * (0 + (j : Nat)) + 9].map V.int))) (Kp.refl.new hp1) (by simp)
        refine ⟨_, rfl, p1, _, _, _, rfl, rfl, SqL.of upd_same, n2, rw_, _, _, rfl, rfl, q4.lst (by simpa using nlr.symm) r1, (by rw [List.length_map, r2, sizeLine_eq]; omega), ?_⟩
        refine ⟨_, row ++ [z], rfl, ?_, (k8.trans q4).new hrw, by rw [List.map_append]; exact upd_same, by rw [List.length_append, r2] <;> rfl, fun y hy => ?_⟩
        · obtain ⟨a, b, c, z, z2⟩ := u4
          exact ⟨a, b, c, by rw [upd_ne nlr]; exact z, z2⟩
        · rcases List.mem_append.mp hy with hy | hy
          · exact r3 y hy
          · rw [List.mem_singleton.mp hy]
            exact zb
      · rintro σ H5 ⟨v9, row, rfl, w8, k8, r1, r2, r3⟩
        have g5 := k8.lst (by simpa using nll.symm) g3
        have g6 := k8.lst (by simpa using nls.symm) g4
        refine ⟨_, rfl, .inl ⟨rfl, _, SqL.of g6⟩, _, rfl, rw_, _, rfl, .inl ⟨SqL.of r1, fun tp htp => ?_⟩⟩
        have nst : ts ≠ tp := ne_of_none g6 htp
        have ntt : tl ≠ tp := ne_of_none g5 htp
        refine ⟨ts, _, _, rfl, rfl, by rw [upd_ne nst]; exact g6, (by rw [List.length_map, h3.1, e2, sizeLine_eq]; omega), ?_⟩
        have wl : l ≠ tp := by
          obtain ⟨a, b, c, z, _⟩ := w8
          exact ne_of_none z htp
        have kk : Kp [ts] H5 (upd (upd H5 tp (.tup (row.map V.int))) ts (.lst (as.map V.ref ++ [V.ref tp]))) := (Kp.refl.new htp).put (by simp) (by rw [upd_ne nst]; exact g6) mvL
        refine ⟨_, _, _, lens ++ [ln], as ++ [tp], sizes ++ [row], rfl, w8.keep kk (by simpa using nls), ?_, ?_, by rw [List.map_append]; exact upd_same, ?_, by rw [List.length_append, e1] <;> rfl, by rw [List.length_append, e2] <;> rfl, fun y hy => ?_, fun y hy => ?_⟩
        · exact ((q6.trans k8).new (by
            have z := (q6.trans k8).none htp
            exact z (by simpa using wl.symm))).new (by
              have z := k7.none (b := ts) (H1 := H2)
              cases e : H' ts with
              | none => rfl
              | some o =>
                rw [upd_ne ntl.symm, e] at hts
                cases hts)
        · rw [upd_ne ntl, upd_ne ntt]
          exact g5
        · exact ((r5.kp k8.toN).kp kk.toN).snoc (SqT.of (by rw [upd_ne (Ne.symm nst)]; exact upd_same))
        · rcases List.mem_append.mp hy with hy | hy
          · exact e3 y hy
          · rw [List.mem_singleton.mp hy]
            exact lb
        · rcases List.mem_append.mp hy with hy | hy
          · exact e4 y hy
          · rw [List.mem_singleton.mp hy]
            exact ⟨r2, r3⟩
    · rintro σ H2 ⟨v7, v8, v9, lens, as, sizes, rfl, w7, k7, h1, h2, h3, e1, e2, e3, e4⟩
      refine ⟨_, rfl, tl, _, rfl, .inl ⟨SqL.of h1, fun t1 ht1 => ⟨_, rfl, ts, _, rfl, .inl ⟨SqL.of (by rw [upd_ne (ne_of_none h2 ht1)]; exact h2), fun t2 ht2 => ⟨(by show 2 ≤ sizeLine; decide), fun p hp => ?_⟩⟩⟩⟩⟩
      have n1 : t1 ≠ t2 := ne_of_none upd_same ht2
      have f1 : upd (upd H2 t1 (.tup (lens.map V.int))) t2 (.tup (as.map V.ref)) t1 = some (.tup (lens.map V.int)) := by
        rw [upd_ne n1]
        exact upd_same
      have kk : Kp [] H2 (upd (upd (upd H2 t1 (.tup (lens.map V.int))) t2 (.tup (as.map V.ref))) p (.tup [.ref t1, .ref t2])) := ((Kp.refl.new ht1).trans (Kp.refl.new ht2)).trans (Kp.refl.new hp)
      refine k p t1 t2 lens sizes _ ⟨by omega, by omega, by omega, e3, ⟨wide.toNat, by omega, by omega, fun r hr => (e4 r hr).1⟩, fun r hr => (e4 r hr).2⟩ (SqT.of upd_same) (SqT.of ?_) ?_ (w7.keep kk (by simp)) ((k6.trans k7).trans (kk.mono (by simp)))
      · rw [upd_ne (ne_of_none f1 hp)]
        exact f1
      · refine (h3.kp kk.toN).at_ (SqT.of ?_)
        rw [upd_ne (ne_of_none upd_same hp)]
        exact upd_same
end
end K76


set_option Elab.async false
set_option linter.all false
set_option maxRecDepth 100000
set_option maxHeartbeats 4000000
/-! The road and the options that are drawn. -/
namespace K76
open PySem PySem.Spec PyProof.Rows L2 LamX NdefX
theorem cut_last (xs : List V) (x : V) : cutV (xs ++ [x]) none (some (-1)) = xs := by
  unfold cutV
  have e1 : HT.sIx (xs ++ [x]).length 0 none = 0 := rfl
  have e2 : HT.sIx (xs ++ [x]).length (xs ++ [x]).length (some (-1)) = xs.length := by
    unfold HT.sIx
    simp only
    rw [if_pos (by decide), List.length_append]
    simp
    omega
  rw [e1, e2, List.drop_zero, Nat.sub_zero, List.take_append_of_le_length (Nat.le_refl _), List.take_length]
structure RoadOk (ps : List (Int × Int)) : Prop where
  l0 : 1 ≤ ps.length
  l1 : ps.length ≤ 12
  b : ∀ p ∈ ps, 1 ≤ p.1 ∧ p.1 ≤ 50 ∧ 0 ≤ p.2 ∧ p.2 ≤ 1000
  last : ∀ p, ps.getLast? = some p → 8 ≤ p.2
theorem prs_snoc (ps : List (Int × Int)) (p : Int × Int) : prs (ps ++ [p]) = prs ps ++ [[p.1, p.2]] := by
  unfold prs
  rw [List.map_append] <;> rfl
theorem prs_len (ps : List (Int × Int)) : (prs ps).length = ps.length := by
  unfold prs
  rw [List.length_map]
def spRoadD (K : PySem.W.Frag) : Sp := fun vs H Q _ => ∃ l : Addr, vs = [.ref l] ∧ WellAt H l ∧ ∀ (p : Addr) (ps : List (Int × Int)) (H' : Hp), RoadOk ps → TupsAt K H' p (prs ps) → WellAt H' l → Kp [l] H H' → Q (.ref p) H'
section
variable {P : Program} {w : World} {K : PySem.W.Frag} {mg : Str → Option Value} {base : Heap}
theorem c__law_road (T : Tx K mg) : Cal P w K mg base 2 "_law_road" (spRoadD K) := by
  have c__law_take : Cal P w K mg base 1 "_law_take" spTake := c__law_take T
  refine mk__law_road T (fun vs H Q E h => ?_) (fun cdv A outer s H vs Q E hr h => ?_)
  · obtain ⟨l, rfl, _⟩ := h
    rfl
  · obtain ⟨l, rfl, w0, k⟩ := h
    refine ⟨_, (pss_cons (ps_set (i := 1) sc__law_road.nd rfl (Or.inl rfl) (pe_lst pa_nil))
    (C8.pss_cut (ps_for PassesOwn.never rfl (pi_range1 rfl T.f_range (pa_cons (pe_ix ix_list (pe_lst (pa_cons (pe_op op_add pe_int (pe_c c__law_take hr (by decide) rfl (pa_cons (pv 0) (pa_cons pe_int pa_nil)))) (pa_cons pe_int pa_nil))) (pe_callTy call_int1 rfl T.f_int (by decide +kernel) (pa_cons (pe_cmpR op_eq (pe_c c__law_take hr (by decide) rfl (pa_cons (pv 0) (pa_cons pe_int pa_nil))) pe_int (nomark _)) pa_nil)) (fun _ _ => rfl)) pa_nil)) (pg_name (i := 2) sc__law_road.nd rfl (Or.inl rfl))
      (C8.pss_cut (ps_set (i := 3) sc__law_road.nd rfl (Or.inl rfl) (pe_ix ix_list (pe_lst (pa_cons (pe_c c__law_take hr (by decide) rfl (pa_cons (pv 0) (pa_cons pe_int pa_nil))) (pa_cons (pe_op op_add pe_int (pe_c c__law_take hr (by decide) rfl (pa_cons (pv 0) (pa_cons pe_int pa_nil)))) (pa_cons pe_int (pa_cons (pe_op op_sub pe_int (pe_c c__law_take hr (by decide) rfl (pa_cons (pv 0) (pa_cons pe_int pa_nil)))) pa_nil))))) (pe_c c__law_take hr (by decide) rfl (pa_cons (pv 0) (pa_cons pe_int pa_nil))) (fun _ _ => rfl)))
      (pss_one (ps_expr (pe_bm PySem.F.plainAttrs_list PySem.F.slot_list_append PySem.F.type_list_append mt_append (pv 1) (pa_cons (pe_tup (pa_cons (pe_op op_add pe_int (pe_c c__law_take hr (by decide) rfl (pa_cons (pv 0) (pa_cons (pe_ix ix_list (pe_lst (pa_cons pe_int (pa_cons pe_int pa_nil))) (pe_c c__law_take hr (by decide) rfl (pa_cons (pv 0) (pa_cons pe_int pa_nil))) (fun _ _ => rfl)) pa_nil)))) (pa_cons (pv 3) pa_nil))) pa_nil))))))
    (pss_one (ps_ret (pe_op op_catA (pe_callTy call_tuple_of rfl T.f_tuple (by decide +kernel) (pa_cons (pe_slice sl_list (pv 1) po_none (po_some (pe_un un_neg pe_int))) pa_nil)) (pe_tup (pa_cons (pe_tup (pa_cons (pe_ix ix_tup (pe_ix ix_list (pv 1) (pe_un un_neg pe_int) (fun _ _ => rfl)) pe_int (fun _ _ => rfl)) (pa_cons (pe_callB (call_max2 rfl) rfl T.f_max (by decide +kernel) (pa_cons pe_int (pa_cons (pe_ix ix_tup (pe_ix ix_list (pv 1) (pe_un un_neg pe_int) (fun _ _ => rfl)) pe_int (fun _ _ => rfl)) pa_nil))) pa_nil))) pa_nil))))))), ?_⟩
    refine ⟨(by show 0 ≤ sizeLine; decide), fun fl hfl => ?_⟩
    have nlf : l ≠ fl := by
      obtain ⟨a, b, c, z, _⟩ := w0
      exact ne_of_none z hfl
    have w1 := w0.keep (S := []) (H' := upd H fl (.lst [])) (Kp.refl.new hfl) (by simp)
    refine ⟨fun σ H2 => ∃ (v2 v3 : Option V) (as : List Addr) (ps : List (Int × Int)), σ = [some (.ref l), some (.ref fl), v2, v3] ∧ WellAt H2 l ∧ Kp [l] H H2 ∧ H2 fl = some (.lst (as.map V.ref)) ∧ RowsL K H2 as (prs ps) ∧ 1 ≤ ps.length ∧ ps.length ≤ 12 ∧ (∀ p ∈ ps, 1 ≤ p.1 ∧ p.1 ≤ 50 ∧ 0 ≤ p.2 ∧ p.2 ≤ 1000), ?_, ?_⟩
    · refine ⟨_, rfl, l, 4, rfl, w1, by decide, by decide, fun d1 H1 a0 a1 w2 k2 => ⟨_, _, rfl, rfl, (by show 2 ≤ sizeLine; decide), fun p1 hp1 => ?_⟩⟩
      have w3 := w2.keep (S := []) (H' := upd H1 p1 (.lst [.int (1 + d1), .int 12])) (Kp.refl.new hp1) (by simp)
      refine ⟨_, rfl, l, 8, rfl, w3, by decide, by decide, fun d2 H2 b0 b1 w4 k4 => ⟨rfl, .inr ⟨_, rfl, ?_⟩⟩⟩
      obtain ⟨g, hg0, hg1, hg⟩ : ∃ g : Int, 0 ≤ g ∧ g < 2 ∧ g = (if decide (V.int d2 = V.int 3) = true then 1 else 0) := by
        by_cases e : decide (V.int d2 = V.int 3) = true
        · exact ⟨1, by decide, by decide, by rw [if_pos e]⟩
        · exact ⟨0, by decide, by decide, by rw [if_neg e]⟩
      rw [← hg]
      obtain ⟨many, m1, m2⟩ := at_mem (ns := [1 + d1, 12]) hg0 (by simpa using hg1)
      have mb : 1 ≤ many ∧ many ≤ 12 := by
        simp at m1
        omega
      have np1 : p1 ≠ l := by
        obtain ⟨a, b, c, z, _⟩ := w2
        exact (ne_of_none z hp1).symm
      have nfp : fl ≠ p1 := ne_of_none (k2.lst (by simpa using nlf.symm) upd_same) hp1
      have k5 : Kp [l] (upd H fl (.lst [])) H2 := (k2.trans (Kp.refl.new hp1)).trans k4
      refine ⟨p1, _, _, _, rfl, rfl, SqL.of (k4.lst (by simpa using np1) upd_same), m2, many, rfl, by omega, by omega, for_range (lo := 0) (n := many.toNat) (fun i σ H2 => ∃ (v2 v3 : Option V) (as : List Addr) (ps : List (Int × Int)),
        σ = [some (.ref l), some (.ref fl), v2, v3] ∧ WellAt H2 l ∧ Kp [l] H H2 ∧ H2 fl = some (.lst (as.map V.ref)) ∧ RowsL K H2 as (prs ps) ∧ ps.length = i ∧ (∀ p ∈ ps, 1 ≤ p.1 ∧ p.1 ≤ 50 ∧ 0 ≤ p.2 ∧ p.2 ≤ 1000)) ?_ ?_ ?_⟩
      · exact ⟨none, none, [], [], rfl, w4, (Kp.refl.new hfl).trans k5, k5.lst (by simpa using nlf.symm) upd_same, ⟨rfl, fun i a e => by simp at e⟩, rfl, by simp⟩
      · rintro i σ H3 hi ⟨v2, v3, as, ps, rfl, w5, k6, h1, h2, e1, e2⟩
        refine ⟨fun σ' H4 => ∃ sp : Int, 0 ≤ sp ∧ sp ≤ 1000 ∧ σ' = [some (.ref l), some (.ref fl), some (.int (0 + (i : Nat))), some (.int sp)] ∧ WellAt H4 l ∧ Kp [l] H3 H4, ?_, ?_⟩
        · refine ⟨_, rfl, l, 12, rfl, w5, by decide, by decide, fun x1 G1 x10 x11 u1 q1 => ⟨_, rfl, l, 80, rfl, u1, by decide, by decide, fun x2 G2 x20 x21 u2 q2 => ⟨_, _, rfl, rfl, _, rfl, l, 9, rfl, u2, by decide, by decide, fun x3 G3 x30 x31 u3 q3 => ⟨_, _, rfl, rfl, (by show 4 ≤ sizeLine; decide), fun p2 hp2 => ?_⟩⟩⟩⟩
          have u4 := u3.keep (S := []) (H' := upd G3 p2 (.lst ([x1, 1 + x2, 0, 1000 - x3].map V.int))) (Kp.refl.new hp2) (by simp)
          refine ⟨_, rfl, l, 4, rfl, u4, by decide, by decide, fun x4 G4 x40 x41 u5 q5 => ?_⟩
          have np2 : p2 ≠ l := by
            obtain ⟨a, b, c, z, _⟩ := u3
            exact (ne_of_none z hp2).symm
          obtain ⟨sp, n1, n2⟩ := at_mem (ns := [x1, 1 + x2, 0, 1000 - x3]) x40 (by simpa using x41)
          refine ⟨p2, _, _, _, rfl, rfl, SqL.of (q5.lst (by simpa using np2) upd_same), n2, sp, ?_, ?_, rfl, u5, ((((q1.trans q2).trans q3).trans (Kp.refl.new hp2))).trans q5⟩
          · simp at n1
            omega
          · simp at n1
            omega
        · rintro _ H4 ⟨sp, s0, s1, rfl, w6, k7⟩
          refine ⟨_, rfl, .inl ⟨rfl, _, SqL.of (k7.lst (by simpa using nlf.symm) h1)⟩, ?_⟩
          refine ⟨_, rfl, (by show 2 ≤ sizeLine; decide), fun p2 hp2 => ?_⟩
          have w7 := w6.keep (S := []) (H' := upd H4 p2 (.lst [.int 5, .int 50])) (Kp.refl.new hp2) (by simp)
          refine ⟨_, rfl, l, 2, rfl, w7, by decide, by decide, fun x1 G1 x10 x11 u1 q1 => ?_⟩
          have np2 : p2 ≠ l := by
            obtain ⟨a, b, c, z, _⟩ := w6
            exact (ne_of_none z hp2).symm
          obtain ⟨tb, n1, n2⟩ := at_mem (ns := [5, 50]) x10 (by simpa using x11)
          have tbb : 5 ≤ tb ∧ tb ≤ 50 := by
            simp at n1
            omega
          refine ⟨p2, _, _, _, rfl, rfl, SqL.of (q1.lst (by simpa using np2) upd_same), n2, l, tb, rfl, u1, by omega, by omega, fun x2 G2 x20 x21 u2 q2 => ⟨_, _, rfl, rfl, _, rfl, (by show 2 ≤ sizeLine; decide), fun tp htp => ?_⟩⟩
          have k8 : Kp [l] H3 G2 := ((k7.trans (Kp.refl.new hp2)).trans q1).trans q2
          have nft : fl ≠ tp := ne_of_none (k8.lst (by simpa using nlf.symm) h1) htp
          have f1 := k8.lst (by simpa using nlf.symm) h1
          have nlt : l ≠ tp := by
            obtain ⟨a, b, c, z, _⟩ := u2
            exact ne_of_none z htp
          have kk : Kp [fl] G2 (upd (upd G2 tp (.tup [.int (1 + x2), .int sp])) fl (.lst (as.map V.ref ++ [V.ref tp]))) := (Kp.refl.new htp).put (by simp) (by rw [upd_ne nft]; exact f1) mvL
          refine ⟨fl, _, _, rfl, rfl, by rw [upd_ne nft]; exact f1, (by rw [List.length_map, h2.1, prs_len, e1, sizeLine_eq]; omega), ?_⟩
          refine ⟨_, _, as ++ [tp], ps ++ [(1 + x2, sp)], rfl, u2.keep kk (by simpa using nlf), ?_, by rw [List.map_append]; exact upd_same, ?_, by rw [List.length_append, e1] <;> rfl, fun y hy => ?_⟩
          · have nfp : H fl = none := hfl
            have ntp : H tp = none := (k6.trans k8).none htp (by simpa using nlt.symm)
            exact ((k6.trans k8).new ntp).new nfp
          · rw [prs_snoc]
            exact ((h2.kp k8.toN).kp kk.toN).snoc (SqT.of (by rw [upd_ne (Ne.symm nft)]; exact upd_same))
          · rcases List.mem_append.mp hy with hy | hy
            · exact e2 y hy
            · rw [List.mem_singleton.mp hy]
              show 1 ≤ 1 + x2 ∧ 1 + x2 ≤ 50 ∧ 0 ≤ sp ∧ sp ≤ 1000
              omega
      · rintro σ H3 ⟨v2, v3, as, ps, rfl, w5, k6, h1, h2, e1, e2⟩
        exact ⟨v2, v3, as, ps, rfl, w5, k6, h1, h2, by omega, by omega, e2⟩
    · rintro _ H2 ⟨v2, v3, as, ps, rfl, w2, k2, h1, h2, l0, l1, e2⟩
      have hpn : ps ≠ [] := fun z => by
        rw [z] at l0
        exact absurd l0 (by decide)
      obtain ⟨ps', pl, rfl⟩ : ∃ ps' pl, ps = ps' ++ [pl] := ⟨ps.dropLast, ps.getLast hpn, (List.dropLast_concat_getLast hpn).symm⟩
      have hal : as.length = ps'.length + 1 := by rw [h2.1, prs_len, List.length_append] <;> rfl
      have han : as ≠ [] := fun z => by
        rw [z] at hal
        cases hal
      obtain ⟨as', al, rfl⟩ : ∃ as' al, as = as' ++ [al] := ⟨as.dropLast, as.getLast han, (List.dropLast_concat_getLast han).symm⟩
      have hal2 : as'.length = ps'.length := by simpa using hal
      rw [prs_snoc] at h2
      have hlast : SqT K H2 al [.int pl.1, .int pl.2] := by
        obtain ⟨r, e1, e3⟩ := h2.2 as'.length al (by rw [List.getElem?_append_right (Nat.le_refl _), Nat.sub_self] <;> rfl)
        rw [List.getElem?_append_right (by rw [prs_len, hal2]; exact Nat.le_refl _), prs_len, hal2, Nat.sub_self] at e1
        cases e1
        exact e3
      have hfirst : RowsL K H2 as' (prs ps') := ⟨by rw [prs_len, hal2], fun i a e => by
        have hi := (List.getElem?_eq_some_iff.mp e).1
        obtain ⟨r, e1, e3⟩ := h2.2 i a (by rw [List.getElem?_append_left hi]; exact e)
        rw [List.getElem?_append_left (by rw [prs_len, ← hal2]; exact hi)] at e1
        exact ⟨r, e1, e3⟩⟩
      have plb := e2 pl (by simp)
      have h1' : H2 fl = some (.lst (as'.map V.ref ++ [V.ref al])) := by
        rw [h1, List.map_append] <;> rfl
      refine ⟨_, rfl, _, rfl, _, rfl, fl, _, rfl, SqL.of h1', fun p1 hp1 => ?_⟩
      rw [cut_last]
      refine ⟨p1, _, rfl, .inl ⟨SqL.of upd_same, fun t1 ht1 => ?_⟩⟩
      have q1 : Kp [] H2 (upd (upd H2 p1 (.lst (as'.map V.ref))) t1 (.tup (as'.map V.ref))) := (Kp.refl.new hp1).trans (Kp.refl.new ht1)
      refine ⟨_, rfl, _, rfl, fl, _, _, _, rfl, rfl, SqL.of (q1.lst (by simp) h1'), atI_last _ _, al, _, _, _, rfl, rfl, q1.tup hlast, at_nat (by decide) rfl, ?_⟩
      refine ⟨_, rfl, _, rfl, fl, _, _, _, rfl, rfl, SqL.of (q1.lst (by simp) h1'), atI_last _ _, al, _, _, _, rfl, rfl, q1.tup hlast, at_nat (by decide) rfl, 8, pl.2, rfl, (by show 2 ≤ sizeLine; decide), fun t2 ht2 => ⟨(by show 1 ≤ sizeLine; decide), fun t3 ht3 => ?_⟩⟩
      have q2 : Kp [] (upd (upd H2 p1 (.lst (as'.map V.ref))) t1 (.tup (as'.map V.ref))) (upd (upd (upd (upd H2 p1 (.lst (as'.map V.ref))) t1 (.tup (as'.map V.ref))) t2 (.tup [.int pl.1, .int (if pl.2 > 8 then pl.2 else 8)])) t3 (.tup [.ref t2])) := (Kp.refl.new ht2).trans (Kp.refl.new ht3)
      have r1 : SqT K (upd (upd (upd (upd H2 p1 (.lst (as'.map V.ref))) t1 (.tup (as'.map V.ref))) t2 (.tup [.int pl.1, .int (if pl.2 > 8 then pl.2 else 8)])) t3 (.tup [.ref t2])) t1 (as'.map V.ref) := q2.tup (SqT.of upd_same)
      have r2 : SqT K (upd (upd (upd (upd H2 p1 (.lst (as'.map V.ref))) t1 (.tup (as'.map V.ref))) t2 (.tup [.int pl.1, .int (if pl.2 > 8 then pl.2 else 8)])) t3 (.tup [.ref t2])) t2 [.int pl.1, .int (if pl.2 > 8 then pl.2 else 8)] := by
        refine SqT.of ?_
        rw [upd_ne (ne_of_none upd_same ht3)]
        exact upd_same
      have mx : 8 ≤ (if pl.2 > 8 then pl.2 else 8) ∧ (if pl.2 > 8 then pl.2 else 8) ≤ 1000 := by
        split <;> omega
      have ok : RoadOk (ps' ++ [(pl.1, if pl.2 > 8 then pl.2 else 8)]) := by
        refine ⟨by simp, by simpa using l1, fun p hp => ?_, fun p hp => ?_⟩
        · rcases List.mem_append.mp hp with hp | hp
          · exact e2 p (by simp [hp])
          · rw [List.mem_singleton.mp hp]
            exact ⟨plb.1, plb.2.1, by show 0 ≤ (if pl.2 > 8 then pl.2 else 8); omega, mx.2⟩
        · rw [List.getLast?_concat] at hp
          cases hp
          exact mx.1
      have f0 : RowsL K (upd (upd (upd (upd H2 p1 (.lst (as'.map V.ref))) t1 (.tup (as'.map V.ref))) t2 (.tup [.int pl.1, .int (if pl.2 > 8 then pl.2 else 8)])) t3 (.tup [.ref t2])) (as' ++ [t2]) (prs (ps' ++ [(pl.1, if pl.2 > 8 then pl.2 else 8)])) := by
        rw [prs_snoc]
        exact (hfirst.kp (q1.trans q2).toN).snoc r2
      have kk := (q1.trans q2)
      refine ⟨t1, t3, _, _, rfl, rfl, r1, SqT.of upd_same, (by rw [List.length_map, hal2, sizeLine_eq]; simp at l1 ⊢; omega), fun en => ?_, fun _ z => (by cases z), fun _ _ p hp => ?_⟩
      · have ea : as' = [] := List.map_eq_nil_iff.mp en
        subst ea
        refine k t3 _ _ ok (f0.at_ (SqT.of upd_same)) (w2.keep kk (by simp)) (k2.trans (kk.mono (by simp)))
      · have k3 : Kp [] H2 (upd (upd (upd (upd (upd H2 p1 (.lst (as'.map V.ref))) t1 (.tup (as'.map V.ref))) t2 (.tup [.int pl.1, .int (if pl.2 > 8 then pl.2 else 8)])) t3 (.tup [.ref t2])) p (.tup (as'.map V.ref ++ [V.ref t2]))) := kk.trans (Kp.refl.new hp)
        refine k p _ _ ok ((f0.kp (S := []) (Kp.toN (Kp.refl.new hp))).at_ (SqT.of (by rw [List.map_append]; exact upd_same))) (w2.keep k3 (by simp)) (k2.trans (k3.mono (by simp)))
end
end K76


set_option Elab.async false
set_option linter.all false
set_option maxRecDepth 100000
set_option maxHeartbeats 4000000
/-! The options that are drawn. -/
namespace K76
open PySem PySem.Spec PyProof.Rows L2 LamX NdefX
def OpV (K : PySem.W.Frag) (H : Hp) (ov : V) : Option (List Int) → Prop
  | none => ov = .non
  | some os => ∃ a, ov = .ref a ∧ SqT K H a (os.map V.int)
theorem OpV.kp {K : PySem.W.Frag} {S : List Addr} {H H' : Hp} {ov : V} {op : Option (List Int)} (h : OpV K H ov op) (k : KpN S H H') : OpV K H' ov op := by
  cases op with
  | none => exact h
  | some os =>
    obtain ⟨a, e, z⟩ := h
    exact ⟨a, e, k.tup z⟩
structure OptOk (lens : List Int) (b a m wt : Int) (op : Option (List Int)) : Prop where
  b0 : 1 ≤ b
  b1 : b ≤ 400
  a0 : 1 ≤ a
  a1 : a ≤ 400
  m0 : ∀ z ∈ lens, z ≤ m
  m1 : m ≤ 100
  w0 : 0 ≤ wt
  w1 : wt ≤ 5
  o : ∀ os, op = some os → os.length = lens.length ∧ ∀ z ∈ os, 0 ≤ z ∧ z ≤ 360
def OptAt (K : PySem.W.Frag) (H : Hp) (p : Addr) (b a m wt : Int) (op : Option (List Int)) : Prop := ∃ ov, SqT K H p [.int b, .int a, .int m, .int wt, ov] ∧ OpV K H ov op
theorem OptAt.kp {K : PySem.W.Frag} {S : List Addr} {H H' : Hp} {p : Addr} {b a m wt : Int} {op : Option (List Int)} (h : OptAt K H p b a m wt op) (k : KpN S H H') : OptAt K H' p b a m wt op := by
  obtain ⟨ov, h1, h2⟩ := h
  exact ⟨ov, k.tup h1, h2.kp k⟩
def spOptD (K : PySem.W.Frag) : Sp := fun vs H Q _ => ∃ (l tl : Addr) (lens : List Int), vs = [.ref l, .ref tl] ∧ WellAt H l ∧ SqT K H tl (lens.map V.int) ∧ 1 ≤ lens.length ∧ lens.length ≤ 12 ∧ (∀ z ∈ lens, 1 ≤ z ∧ z ≤ 20) ∧
  ∀ (p : Addr) (b a m wt : Int) (op : Option (List Int)) (H' : Hp), OptOk lens b a m wt op → OptAt K H' p b a m wt op → WellAt H' l → Kp [l] H H' → Q (.ref p) H'
section
variable {P : Program} {w : World} {K : PySem.W.Frag} {mg : Str → Option Value} {base : Heap}
theorem WellAt.ne {H : Hp} {l p : Addr} (h : WellAt H l) (hp : H p = none) : l ≠ p := by
  obtain ⟨a, b, c, z, _⟩ := h
  exact ne_of_none z hp
theorem WellAt.neT {H : Hp} {l p : Addr} {xs : List V} (h : WellAt H l) (hp : H p = some (.tup xs)) : l ≠ p := by
  obtain ⟨a, b, c, z, _⟩ := h
  exact ne_of z hp (by intro q; cases q)
theorem c__law_options (T : Tx K mg) : Cal P w K mg base 2 "_law_options" (spOptD K) := by
  have c__law_take : Cal P w K mg base 1 "_law_take" spTake := c__law_take T
  refine mk__law_options T (fun vs H Q E h => ?_) (fun cdv A outer s H vs Q E hr h => ?_)
  · obtain ⟨l, tl, lens, rfl, _⟩ := h
    rfl
  · obtain ⟨l, tl, lens, rfl, w0, hL, l0, l1, lb, k⟩ := h
    refine ⟨_, (pss_cons (ps_set (i := 2) sc__law_options.nd rfl (Or.inl rfl) (pe_callTy call_int1 rfl T.f_int (by decide +kernel) (pa_cons (pe_cmpR op_eq (pe_c c__law_take hr (by decide) rfl (pa_cons (pv 0) (pa_cons pe_int pa_nil))) pe_int (nomark _)) pa_nil)))
    (pss_cons (ps_set (i := 3) sc__law_options.nd rfl (Or.inl rfl) (pe_ix ix_list (pe_lst (pa_cons pe_int (pa_cons pe_int pa_nil))) (pv 2) (fun _ _ => rfl)))
    (pss_cons (ps_set (i := 4) sc__law_options.nd rfl (Or.inl rfl) (pe_lst (pa_cons (pe_op op_add pe_int (pe_c c__law_take hr (by decide) rfl (pa_cons (pv 0) (pa_cons (pv 3) pa_nil)))) (pa_cons (pe_op op_add pe_int (pe_c c__law_take hr (by decide) rfl (pa_cons (pv 0) (pa_cons (pv 3) pa_nil)))) (pa_cons (pe_op op_add (pe_callB (cr_maxT rfl) rfl T.f_max (by decide +kernel) (pa_cons (pv 1) pa_nil)) (pe_c c__law_take hr (by decide) rfl (pa_cons (pv 0) (pa_cons pe_int pa_nil)))) (pa_cons pe_int pa_nil))))))
    (C8.pss_cut (ps_asg (pe_ix ix_list (pe_lst (pa_cons pe_int (pa_cons pe_int (pa_cons (pe_op op_add pe_int (pe_c c__law_take hr (by decide) rfl (pa_cons (pv 0) (pa_cons pe_int pa_nil)))) pa_nil)))) (pe_c c__law_take hr (by decide) rfl (pa_cons (pv 0) (pa_cons pe_int pa_nil))) (fun _ _ => rfl)) (pg_sub (pv 4) pe_int set_list))
    (pss_cons (ps_set (i := 5) sc__law_options.nd rfl (Or.inl rfl) pe_non)
    (C8.pss_cut (ps_if (pt_cmpR op_eq (pe_c c__law_take hr (by decide) rfl (pa_cons (pv 0) (pa_cons pe_int pa_nil))) pe_int (nomark _)) (pss_cons (ps_set (i := 6) sc__law_options.nd rfl (Or.inl rfl) pe_int)
      (pss_cons (ps_set (i := 5) sc__law_options.nd rfl (Or.inl rfl) (pe_tup pa_nil))
      (pss_one (ps_for PassesOwn.never rfl (pi_tup (pv 1)) (pg_name (i := 7) sc__law_options.nd rfl (Or.inl rfl))
        (C8.pss_cut (ps_set (i := 6) sc__law_options.nd rfl (Or.inl rfl) (pe_op op_add (pv 6) (pe_ix ix_list (pe_lst (pa_cons pe_int (pa_cons (pv 7) (pa_cons (pe_c c__law_take hr (by decide) rfl (pa_cons (pv 0) (pa_cons pe_int pa_nil))) pa_nil)))) (pe_c c__law_take hr (by decide) rfl (pa_cons (pv 0) (pa_cons pe_int pa_nil))) (fun _ _ => rfl))))
        (pss_one (ps_set (i := 5) sc__law_options.nd rfl (Or.inl rfl) (pe_op op_catA (pv 5) (pe_tup (pa_cons (pv 6) pa_nil)))))))))) pss_nil)
    (pss_one (ps_ret (pe_tup (pa_cons (pe_ix ix_list (pv 4) pe_int (fun _ _ => rfl)) (pa_cons (pe_ix ix_list (pv 4) pe_int (fun _ _ => rfl)) (pa_cons (pe_ix ix_list (pv 4) pe_int (fun _ _ => rfl)) (pa_cons (pe_ix ix_list (pv 4) pe_int (fun _ _ => rfl)) (pa_cons (pv 5) pa_nil)))))))))))))), ?_⟩
    refine ⟨_, rfl, l, 8, rfl, w0, by decide, by decide, fun d1 H1 _ _ w1 k1 => ⟨rfl, .inr ⟨_, rfl, ?_⟩⟩⟩
    obtain ⟨g, hg0, hg1, hg⟩ : ∃ g : Int, 0 ≤ g ∧ g < 2 ∧ g = (if decide (V.int d1 = V.int 5) = true then 1 else 0) := by
      by_cases e : decide (V.int d1 = V.int 5) = true
      · exact ⟨1, by decide, by decide, by rw [if_pos e]⟩
      · exact ⟨0, by decide, by decide, by rw [if_neg e]⟩
    rw [← hg]
    refine ⟨(by show 2 ≤ sizeLine; decide), fun p1 hp1 => ?_⟩
    obtain ⟨top, m1, m2⟩ := at_mem (ns := [13, 400]) hg0 (by simpa using hg1)
    have tb : 13 ≤ top ∧ top ≤ 400 := by
      simp at m1
      omega
    have w2 := w1.keep (S := []) (H' := upd H1 p1 (.lst [.int 13, .int 400])) (Kp.refl.new hp1) (by simp)
    refine ⟨_, rfl, p1, _, _, _, rfl, rfl, SqL.of upd_same, m2, ?_⟩
    refine ⟨_, rfl, _, rfl, l, top, rfl, w2, by omega, by omega, fun x1 G1 x10 x11 u1 q1 => ⟨_, _, rfl, rfl, _, rfl, _, rfl, l, top, rfl, u1, by omega, by omega, fun x2 G2 x20 x21 u2 q2 => ⟨_, _, rfl, rfl, ?_⟩⟩⟩
    have k2 : Kp [l] H G2 := ((k1.trans (Kp.refl.new hp1)).trans q1).trans q2
    refine ⟨_, rfl, tl, lens, rfl, k2.tup hL, by omega, fun mx hmx hmx2 => ⟨_, rfl, l, 40, rfl, u2, by decide, by decide, fun x3 G3 x30 x31 u3 q3 => ⟨_, _, rfl, rfl, (by show 4 ≤ sizeLine; decide), fun sm hsm => ?_⟩⟩⟩
    refine ⟨fun σ' H4 => ∃ wt : Int, 0 ≤ wt ∧ wt ≤ 5 ∧ σ' = [some (.ref l), some (.ref tl), some (.int g), some (.int top), some (.ref sm), none, none, none] ∧ WellAt H4 l ∧ Kp [l] H H4 ∧ H4 sm = some (.lst [.int (1 + x1), .int (1 + x2), .int (mx + x3), .int wt]), ?_, ?_⟩
    · have w4 := u3.keep (S := []) (H' := upd G3 sm (.lst [.int (1 + x1), .int (1 + x2), .int (mx + x3), .int 0])) (Kp.refl.new hsm) (by simp)
      refine ⟨_, rfl, l, 5, rfl, w4, by decide, by decide, fun x4 G4 x40 x41 u4 q4 => ⟨_, _, rfl, rfl, (by show 3 ≤ sizeLine; decide), fun p2 hp2 => ?_⟩⟩
      have w5 := u4.keep (S := []) (H' := upd G4 p2 (.lst [.int 0, .int 0, .int (1 + x4)])) (Kp.refl.new hp2) (by simp)
      refine ⟨_, rfl, l, 3, rfl, w5, by decide, by decide, fun x5 G5 x50 x51 u5 q5 => ?_⟩
      obtain ⟨wt, n1, n2⟩ := at_mem (ns := [0, 0, 1 + x4]) x50 (by simpa using x51)
      have nsl : sm ≠ l := (u3.ne hsm).symm
      have q6 : Kp [l] (upd G3 sm (.lst [.int (1 + x1), .int (1 + x2), .int (mx + x3), .int 0])) G5 := (q4.trans (Kp.refl.new hp2)).trans q5
      have f1 := q6.lst (by simpa using nsl) upd_same
      refine ⟨p2, _, _, _, rfl, rfl, SqL.of (q5.lst (by simpa using (u4.ne hp2).symm) upd_same), n2, _, rfl, sm, _, _, 3, rfl, rfl, f1, rfl, wt, ?_, ?_, rfl, ?_, ?_, upd_same⟩
      · simp at n1
        omega
      · simp at n1
        omega
      · obtain ⟨a, b, c, z, z2⟩ := u5
        exact ⟨a, b, c, by rw [upd_ne (Ne.symm nsl)]; exact z, z2⟩
      · exact ((k2.trans q3).trans ((Kp.refl.new hsm).trans q6)).new (by
          refine (k2.trans q3).none hsm (by simpa using nsl))
    · rintro _ H4 ⟨wt, wt0, wt1, rfl, w4, k4, h1⟩
      have nsl : sm ≠ l := by
        obtain ⟨a, b, c, z, _⟩ := w4
        intro e
        rw [e, z] at h1
        cases h1
      refine ⟨fun σ' H5 => ∃ (ov : V) (op : Option (List Int)) (v6 v7 : Option V), σ' = [some (.ref l), some (.ref tl), some (.int g), some (.int top), some (.ref sm), some ov, v6, v7] ∧ OpV K H5 ov op ∧ (∀ os, op = some os → os.length = lens.length ∧ ∀ z ∈ os, 0 ≤ z ∧ z ≤ 360) ∧
        WellAt H5 l ∧ Kp [l] H4 H5, ?_, ?_⟩
      · refine ⟨_, rfl, l, 3, rfl, w4, by decide, by decide, fun x6 H5 x60 x61 w5 k5 => ⟨rfl, _, rfl, ite2 (fun _ => ?_) fun _ => ?_⟩⟩
        · refine ⟨(by show 0 ≤ sizeLine; decide), fun p3 hp3 => ?_⟩
          have kt := (k4.trans k5).trans (Kp.refl.new (o := .tup []) hp3)
          refine ⟨_, rfl, tl, rfl, ⟨_, kt.tup hL⟩, for_tup (K := K) (a := tl) (xs := lens.map V.int) (fun i σ H6 => ∃ (at_ : Int) (tp : Addr) (os : List Int) (v7 : Option V),
            σ = [some (.ref l), some (.ref tl), some (.int g), some (.int top), some (.ref sm), some (.ref tp), some (.int at_), v7] ∧ SqT K H6 tp (os.map V.int) ∧ os.length = i ∧ 0 ≤ at_ ∧ at_ ≤ 30 * i ∧ (∀ z ∈ os, 0 ≤ z ∧ z ≤ 30 * i) ∧ WellAt H6 l ∧ Kp [l] H4 H6) ?_ ?_ ?_ ?_⟩
          · exact ⟨0, p3, [], none, rfl, SqT.of upd_same, rfl, by decide, by decide, by simp, w5.keep (S := []) (Kp.refl.new hp3) (by simp), k5.trans (Kp.refl.new hp3)⟩
          · rintro i σ H6 _ ⟨_, _, _, _, _, _, _, _, _, _, _, k6⟩
            exact k6.tup (k4.tup hL)
          · rintro i x σ H6 hx ⟨at_, tp, os, v7, rfl, h2, e1, a0, a1, e2, w6, k6⟩
            rw [List.getElem?_map] at hx
            obtain ⟨ln, hl, rfl⟩ : ∃ ln, lens[i]? = some ln ∧ x = V.int ln := by
              cases e : lens[i]? with
              | none => rw [e] at hx; cases hx
              | some ln =>
                rw [e] at hx
                exact ⟨ln, rfl, (Option.some.inj hx).symm⟩
            have hi : i < 12 := by
              have := (List.getElem?_eq_some_iff.mp hl).1
              omega
            have lnb := lb ln (List.mem_of_getElem? hl)
            refine ⟨fun σ' H7 => ∃ at2 : Int, 0 ≤ at2 ∧ at2 ≤ 30 * (i + 1 : Nat) ∧ σ' = [some (.ref l), some (.ref tl), some (.int g), some (.int top), some (.ref sm), some (.ref tp), some (.int at2), some (.int ln)] ∧ WellAt H7 l ∧ Kp [l] H6 H7, ?_, ?_⟩
            · refine ⟨_, rfl, _, rfl, _, rfl, l, 30, rfl, w6, by decide, by decide, fun x7 G7 x70 x71 u7 q7 => ⟨(by show 3 ≤ sizeLine; decide), fun p4 hp4 => ?_⟩⟩
              have u8 := u7.keep (S := []) (H' := upd G7 p4 (.lst [.int 0, .int ln, .int x7])) (Kp.refl.new hp4) (by simp)
              refine ⟨_, rfl, l, 3, rfl, u8, by decide, by decide, fun x8 G8 x80 x81 u9 q8 => ?_⟩
              obtain ⟨dz, n1, n2⟩ := at_mem (ns := [0, ln, x7]) x80 (by simpa using x81)
              have dzb : 0 ≤ dz ∧ dz ≤ 30 := by
                simp at n1
                omega
              exact ⟨p4, _, _, _, rfl, rfl, SqL.of (q8.lst (by simpa using (u7.ne hp4).symm) upd_same), n2, _, _, rfl, rfl, at_ + dz, by omega, by omega, rfl, u9, (q7.trans (Kp.refl.new hp4)).trans q8⟩
            · rintro _ H7 ⟨at2, b0, b1, rfl, w7, k7⟩
              refine ⟨_, rfl, _, rfl, (by show 1 ≤ sizeLine; decide), fun t1 ht1 => ⟨tp, t1, _, _, rfl, rfl, (k7.trans (Kp.refl.new ht1)).tup h2, SqT.of upd_same, (by rw [List.length_map, e1, sizeLine_eq]; simp; omega), fun en => ?_, fun _ z => (by cases z), fun _ _ p hp => ?_⟩⟩
              · have eo : os = [] := List.map_eq_nil_iff.mp en
                subst eo
                refine ⟨at2, t1, [at2], _, rfl, SqT.of upd_same, by rw [← e1] <;> rfl, b0, b1, fun z hz => ?_, w7.keep (S := []) (Kp.refl.new ht1) (by simp), (k6.trans k7).trans (Kp.refl.new ht1)⟩
                rw [List.mem_singleton.mp hz]
                exact ⟨b0, b1⟩
              · refine ⟨at2, p, os ++ [at2], _, rfl, SqT.of (by rw [List.map_append]; exact upd_same), by rw [List.length_append, e1] <;> rfl, b0, b1, fun z hz => ?_, (w7.keep (S := []) (Kp.refl.new ht1) (by simp)).keep (S := []) (Kp.refl.new hp) (by simp), ((k6.trans k7).trans (Kp.refl.new ht1)).trans (Kp.refl.new hp)⟩
                rcases List.mem_append.mp hz with hz | hz
                · have := e2 z hz
                  omega
                · rw [List.mem_singleton.mp hz]
                  exact ⟨b0, b1⟩
          · rintro σ H6 ⟨at_, tp, os, v7, rfl, h2, e1, a0, a1, e2, w6, k6⟩
            rw [List.length_map] at e1
            refine ⟨.ref tp, some os, _, _, rfl, ⟨tp, rfl, h2⟩, fun os' e => ?_, w6, k6⟩
            cases e
            refine ⟨e1, fun z hz => ?_⟩
            have := e2 z hz
            rw [List.length_map] at this
            omega
        · exact ⟨.non, none, none, none, rfl, rfl, fun _ z => (by cases z), w5, k5⟩
      · rintro _ H5 ⟨ov, op, v6, v7, rfl, ho, ho2, w5, k5⟩
        have f1 := k5.lst (by simpa using nsl) h1
        refine ⟨_, rfl, sm, _, _, _, rfl, rfl, SqL.of f1, at_nat (by decide) rfl, _, rfl, sm, _, _, _, rfl, rfl, SqL.of f1, at_nat (by decide) rfl, _, rfl, sm, _, _, _, rfl, rfl, SqL.of f1, at_nat (by decide) rfl, _, rfl, sm, _, _, _, rfl, rfl, SqL.of f1, at_nat (by decide) rfl, _, rfl, (by show 5 ≤ sizeLine; decide), fun p hp => ?_⟩
        have kp : Kp [] H5 (upd H5 p (.tup [.int (1 + x1), .int (1 + x2), .int (mx + x3), .int wt, ov])) := Kp.refl.new hp
        exact k p (1 + x1) (1 + x2) (mx + x3) wt op _ ⟨by omega, by omega, by omega, by omega, fun z hz => by have := hmx2 z hz; omega, by have := lb mx hmx; omega, wt0, wt1, ho2⟩ ⟨ov, SqT.of upd_same, ho.kp kp.toN⟩ (w5.keep kp (by simp)) ((k4.trans k5).trans (kp.mono (by simp)))
end
end K76


set_option Elab.async false
set_option linter.all false
/-! The road in plain numbers: speeds, sums, when a size is whole. -/
namespace RPm
/-- the speed at a beat, z behind the last piece -/
def spd (z : Int) : List (Int × Int) → Int → Int
  | [], _ => z
  | p :: r, b => if b < p.1 then p.2 else spd z r (b - p.1)
/-- the bits fetched ahead of beat x -/
def cum (z : Int) : List (Int × Int) → Int → Int
  | [], x => z * max 0 x
  | p :: r, x => p.2 * min (max x 0) p.1 + cum z r (x - p.1)
def RdOk (z : Int) (ps : List (Int × Int)) : Prop := 0 ≤ z ∧ ∀ p ∈ ps, 1 ≤ p.1 ∧ 0 ≤ p.2
theorem RdOk.tail {z : Int} {p : Int × Int} {ps : List (Int × Int)} (h : RdOk z (p :: ps)) : RdOk z ps := ⟨h.1, fun q hq => h.2 q (List.mem_cons_of_mem _ hq)⟩
theorem cum_le0 {z : Int} : ∀ {ps : List (Int × Int)} {x : Int}, RdOk z ps → x ≤ 0 → cum z ps x = 0
  | [], x, _, h => by
    unfold cum
    rw [show max 0 x = 0 by omega, Int.mul_zero]
  | p :: r, x, ok, h => by
    unfold cum
    have hp := ok.2 p List.mem_cons_self
    rw [cum_le0 ok.tail (by omega), show min (max x 0) p.1 = 0 by omega, Int.mul_zero]
    rfl
theorem spd_nn {z : Int} : ∀ {ps : List (Int × Int)} {x : Int}, RdOk z ps → 0 ≤ spd z ps x
  | [], x, ok => ok.1
  | p :: r, x, ok => by
    unfold spd
    split
    · exact (ok.2 p List.mem_cons_self).2
    · exact spd_nn ok.tail
theorem cum_succ {z : Int} : ∀ {ps : List (Int × Int)} {x : Int}, RdOk z ps → 0 ≤ x → cum z ps (x + 1) = cum z ps x + spd z ps x
  | [], x, ok, h => by
    unfold cum spd
    rw [show max 0 (x + 1) = x + 1 by omega, show max 0 x = x by omega, Int.mul_add, Int.mul_one]
  | p :: r, x, ok, h => by
    have hp := ok.2 p List.mem_cons_self
    unfold cum spd
    by_cases hx : x < p.1
    · rw [if_pos hx, cum_le0 ok.tail (by omega), cum_le0 ok.tail (by omega), show min (max (x + 1) 0) p.1 = x + 1 by omega, show min (max x 0) p.1 = x by omega, Int.mul_add, Int.mul_one]
      omega
    · rw [if_neg hx, show x + 1 - p.1 = x - p.1 + 1 by omega, cum_succ ok.tail (by omega), show min (max (x + 1) 0) p.1 = p.1 by omega, show min (max x 0) p.1 = p.1 by omega]
      omega
theorem cum_add {z : Int} {ps : List (Int × Int)} (ok : RdOk z ps) (x : Int) (hx : 0 ≤ x) : ∀ n : Nat, cum z ps x ≤ cum z ps (x + n)
  | 0 => by simp
  | n + 1 => by
    have h := cum_add ok x hx n
    have h2 := cum_succ (ps := ps) (x := x + n) ok (by omega)
    have h3 := spd_nn (x := x + n) ok
    rw [show x + ((n + 1 : Nat) : Int) = x + n + 1 by omega, h2]
    omega
theorem cum_mono {z : Int} {ps : List (Int × Int)} (ok : RdOk z ps) {x y : Int} (hx : 0 ≤ x) (h : x ≤ y) : cum z ps x ≤ cum z ps y := by
  have e : y = x + ((y - x).toNat : Int) := by omega
  rw [e]
  exact cum_add ok x hx _
/-- one turn of sum_of -/
theorem sum_turn {n at_ first last : Int} (hn : 0 ≤ n) (h : first ≤ last) : max 0 (min last (at_ + n) - max first at_) = min (max (last - at_) 0) n - min (max (first - at_) 0) n := by omega
/-- the sum of the turns, from `at_` on -/
def sumF (z first last : Int) : List (Int × Int) → Int → Int → Int
  | [], at_, found => found + z * max 0 (last - max first at_)
  | p :: r, at_, found => sumF z first last r (at_ + p.1) (found + p.2 * max 0 (min last (at_ + p.1) - max first at_))
theorem sumF_eq {z first last : Int} (h : first ≤ last) : ∀ {ps : List (Int × Int)} {at_ found : Int}, RdOk z ps → sumF z first last ps at_ found = found + (cum z ps (last - at_) - cum z ps (first - at_))
  | [], at_, found, ok => by
    unfold sumF cum
    rw [show max 0 (last - max first at_) = max 0 (last - at_) - max 0 (first - at_) by omega, Int.mul_sub]
  | p :: r, at_, found, ok => by
    have hp := ok.2 p List.mem_cons_self
    unfold sumF
    rw [sumF_eq h ok.tail, sum_turn (n := p.1) (by omega) h, Int.mul_sub]
    show _ = found + (p.2 * min (max (last - at_) 0) p.1 + cum z r (last - at_ - p.1) - (p.2 * min (max (first - at_) 0) p.1 + cum z r (first - at_ - p.1)))
    rw [show last - (at_ + p.1) = last - at_ - p.1 by omega, show first - (at_ + p.1) = first - at_ - p.1 by omega]
    omega
/-- when a size is whole -/
def Whole (z : Int) (ps : List (Int × Int)) (ready size b : Int) : Prop := 0 ≤ ready ∧ ready < b ∧ size ≤ cum z ps b - cum z ps ready ∧ cum z ps (b - 1) - cum z ps ready < size
theorem Whole.uniq {z : Int} {ps : List (Int × Int)} {ready size b : Int} (ok : RdOk z ps) (h : Whole z ps ready size b) {x : Int} (hx : 1 ≤ x) (h1 : size + cum z ps ready ≤ cum z ps x) (h2 : cum z ps (x - 1) < size + cum z ps ready) : x = b := by
  obtain ⟨r0, r1, r2, r3⟩ := h
  by_cases hlt : x < b
  · have := cum_mono ok (x := x) (y := b - 1) (by omega) (by omega)
    omega
  · by_cases hgt : b < x
    · have := cum_mono ok (x := b) (y := x - 1) (by omega) (by omega)
      omega
    · omega
/-- the loop of fetched; z: the last piece's speed -/
def fetF (z : Int) : List (Int × Int) → Int → Int → Int → Int
  | [], here, left, _ => here - -left / z
  | p :: r, here, left, at_ => if here < at_ + p.1 ∧ left > p.2 * (at_ + p.1 - here) then fetF z r (at_ + p.1) (left - p.2 * (at_ + p.1 - here)) (at_ + p.1) else if here < at_ + p.1 then here - -left / p.2 else fetF z r here left (at_ + p.1)
theorem cum_line {z n : Int} (hn : 0 ≤ n) {y : Int} (hy : 0 ≤ y) : cum z [(n, z)] y = z * y := by
  unfold cum cum
  rw [← Int.mul_add]
  congr 1
  show min (max y 0) n + max 0 (y - n) = y
  omega
theorem ceil_div {l v : Int} (hl : 0 < l) (hv : 0 < v) : 1 ≤ - (-l / v) ∧ l ≤ v * - (-l / v) ∧ v * (- (-l / v) - 1) < l := by
  have e := Int.mul_ediv_add_emod (-l) v
  have m0 := Int.emod_nonneg (-l) (show v ≠ 0 by omega)
  have m1 := Int.emod_lt_of_pos (-l) hv
  generalize hq : -l / v = q at *
  have h1 : v * -q = -(v * q) := Int.mul_neg ..
  have h2 : v * (-q - 1) = -(v * q) - v := by rw [Int.mul_sub, Int.mul_neg, Int.mul_one]
  refine ⟨?_, by omega, by omega⟩
  by_cases h : 0 ≤ q
  · have := Int.mul_nonneg (show 0 ≤ v by omega) h
    omega
  · omega
/-- fetched tells when it is whole: the pieces are those walked, r, the last one -/
theorem fetF_eq {z n0 : Int} {all : List (Int × Int)} {ready size b : Int} (ok : RdOk z all) (hz : 0 < z) (hn0 : 1 ≤ n0) (hb : Whole z all ready size b) :
    ∀ {r : List (Int × Int)} {here left at_ base : Int}, RdOk z r → 0 ≤ at_ → at_ ≤ here → 0 < left → cum z all here + left = cum z all ready + size → (∀ x, at_ ≤ x → cum z all x = base + cum z (r ++ [(n0, z)]) (x - at_)) → fetF z r here left at_ = b
  | [], here, left, at_, base, okr, h0, hh, hl, hs, hc => by
    unfold fetF
    obtain ⟨c0, c1, c2⟩ := ceil_div hl hz
    have e1 := hc here hh
    have c3 : cum z ([] ++ [(n0, z)]) (here - at_) = z * (here - at_) := cum_line (by omega) (by omega)
    rw [c3] at e1
    refine hb.uniq (x := here - -left / z) ok (by omega) ?_ ?_
    · rw [hc (here - -left / z) (by omega)]
      have c4 : cum z ([] ++ [(n0, z)]) (here - -left / z - at_) = z * (here - -left / z - at_) := cum_line (by omega) (by omega)
      rw [c4, show here - -left / z - at_ = (here - at_) + - (-left / z) by omega, Int.mul_add]
      omega
    · rw [hc (here - -left / z - 1) (by omega)]
      have c4 : cum z ([] ++ [(n0, z)]) (here - -left / z - 1 - at_) = z * (here - -left / z - 1 - at_) := cum_line (by omega) (by omega)
      rw [c4, show here - -left / z - 1 - at_ = (here - at_) + (- (-left / z) - 1) by omega, Int.mul_add]
      omega
  | p :: r, here, left, at_, base, okr, h0, hh, hl, hs, hc => by
    have hp := okr.2 p List.mem_cons_self
    have okx : RdOk z (r ++ [(n0, z)]) := ⟨okr.1, fun q hq => by
      rcases List.mem_append.mp hq with hq | hq
      · exact okr.tail.2 q hq
      · rw [List.mem_singleton.mp hq]
        exact ⟨hn0, okr.1⟩⟩
    -- what the sums are from here to the piece's end
    have inP : ∀ x, here ≤ x → x ≤ at_ + p.1 → cum z all x = cum z all here + p.2 * (x - here) := fun x hx1 hx2 => by
      rw [hc x (by omega), hc here hh]
      show base + (p.2 * min (max (x - at_) 0) p.1 + cum z (r ++ [(n0, z)]) (x - at_ - p.1)) = base + (p.2 * min (max (here - at_) 0) p.1 + cum z (r ++ [(n0, z)]) (here - at_ - p.1)) + p.2 * (x - here)
      rw [cum_le0 okx (by omega), cum_le0 okx (by omega), show min (max (x - at_) 0) p.1 = (here - at_) + (x - here) by omega, show min (max (here - at_) 0) p.1 = here - at_ by omega, Int.mul_add]
      omega
    have later : ∀ x, at_ + p.1 ≤ x → cum z all x = (base + p.2 * p.1) + cum z (r ++ [(n0, z)]) (x - (at_ + p.1)) := fun x hx => by
      rw [hc x (by omega)]
      show base + (p.2 * min (max (x - at_) 0) p.1 + cum z (r ++ [(n0, z)]) (x - at_ - p.1)) = _
      rw [show min (max (x - at_) 0) p.1 = p.1 by omega, show x - at_ - p.1 = x - (at_ + p.1) by omega]
      omega
    unfold fetF
    by_cases h1 : here < at_ + p.1 ∧ left > p.2 * (at_ + p.1 - here)
    · rw [if_pos h1]
      refine fetF_eq ok hz hn0 hb okr.tail (by omega) (by omega) (by omega) ?_ later
      have e := inP (at_ + p.1) (by omega) (by omega)
      rw [e]
      omega
    · rw [if_neg h1]
      by_cases h2 : here < at_ + p.1
      · rw [if_pos h2]
        have hle : left ≤ p.2 * (at_ + p.1 - here) := by
          by_cases q : left > p.2 * (at_ + p.1 - here)
          · exact absurd ⟨h2, q⟩ h1
          · omega
        have hv : 0 < p.2 := by
          by_cases q : p.2 = 0
          · rw [q, Int.zero_mul] at hle
            omega
          · omega
        obtain ⟨c0, c1, c2⟩ := ceil_div hl hv
        have c5 : - (-left / p.2) ≤ at_ + p.1 - here := by
          have d1 : p.2 * (- (-left / p.2) - 1) < p.2 * (at_ + p.1 - here) := by omega
          have d2 := Int.lt_of_mul_lt_mul_left d1 (by omega)
          omega
        refine hb.uniq (x := here - -left / p.2) ok (by omega) ?_ ?_
        · rw [inP (here - -left / p.2) (by omega) (by omega), show here - -left / p.2 - here = - (-left / p.2) by omega]
          omega
        · rw [inP (here - -left / p.2 - 1) (by omega) (by omega), show here - -left / p.2 - 1 - here = - (-left / p.2) - 1 by omega]
          omega
      · rw [if_neg h2]
        exact fetF_eq ok hz hn0 hb okr.tail (by omega) (by omega) hl hs later
end RPm


set_option Elab.async false
set_option linter.all false
set_option maxHeartbeats 4000000
/-! The walk in plain numbers, and what stays true of it. -/
namespace RPm
structure Seen where
  num : Int
  kept : Int
  rate : Option Int
  speed : Option (Int × Int)
instance : Inhabited Seen := ⟨⟨0, 0, none, none⟩⟩
structure Cfg where
  lens : List Int
  sizes : List (List Int)
  pieces : List (Int × Int)
  z : Int
  begin_ : Int
  again : Int
  most : Int
  wait : Int
  opens : Option (List Int)
  pick : Seen → Int
structure Std where
  num : Int
  coming : Int
  got : Int
  kept : Int
  played : Int
  going : Int
structure St where
  std : Std
  beat : Int
  rl : Option Int
  sl : Option (Int × Int)
  rates : List Int
  begun : List Int
  whole : List Int
  plays : List Int
  stalls : List (Int × Int)
  kepts : List Int
  seens : List Seen
def st0 : St := ⟨⟨0, -1, 0, 0, 0, 0⟩, 0, none, none, [], [], [], [], [], [], []⟩
def Cfg.len (c : Cfg) (n : Int) : Int := c.lens.getD n.toNat 0
def Cfg.size (c : Cfg) (n r : Int) : Int := (c.sizes.getD n.toNat []).getD r.toNat 0
def Cfg.total (c : Cfg) : Int := c.lens.sum
def Cfg.speed (c : Cfg) (b : Int) : Int := spd c.z c.pieces b
def hasRoom (c : Cfg) (s : Std) : Bool := decide (s.num < c.lens.length) && decide (s.kept + c.len s.num ≤ c.most)
def begins (c : Cfg) (s : Std) : Bool := decide (s.kept ≥ (if s.going = 0 then c.begin_ else c.again)) || decide (s.num = c.lens.length) || (decide (s.coming = -1) && !hasRoom c s)
def playedOn (c : Cfg) (s : Std) : Int × Int × Int :=
  if s.going ≠ 1 ∧ begins c s = false then (s.kept, s.played, s.going) else if s.kept = 0 then (s.kept, s.played, 2) else (s.kept - 1, s.played + 1, 1)
def gotOn (s : Std) (v : Int) : Int := s.got + (if s.got < 0 then 1 else v)
def beatOn (c : Cfg) (s : Std) (v : Int) : Std :=
  if s.coming = -1 then ⟨s.num, s.coming, s.got, (playedOn c s).1, (playedOn c s).2.1, (playedOn c s).2.2⟩
  else if gotOn s v < c.size s.num s.coming then ⟨s.num, s.coming, gotOn s v, (playedOn c s).1, (playedOn c s).2.1, (playedOn c s).2.2⟩
  else ⟨s.num + 1, -1, 0, (playedOn c s).1 + c.len s.num, (playedOn c s).2.1, (playedOn c s).2.2⟩
def isOpen (c : Cfg) (s : St) : Bool := match c.opens with
  | none => true
  | some os => decide (os.getD s.std.num.toNat 0 ≤ s.beat)
def asks (c : Cfg) (s : St) : Bool := decide (s.std.coming = -1) && (hasRoom c s.std && isOpen c s)
def seenOf (s : St) : Seen := ⟨s.std.num, s.std.kept, s.rl, s.sl⟩
def chooseHere (c : Cfg) (s : St) : St :=
  if asks c s = true then
    { s with std := ⟨s.std.num, c.pick (seenOf s), 0 - c.wait, s.std.kept, s.std.played, s.std.going⟩, rl := some (c.pick (seenOf s)), rates := s.rates ++ [c.pick (seenOf s)], begun := s.begun ++ [s.beat], seens := s.seens ++ [seenOf s] }
  else s
def bump (rows : List (Int × Int)) : List (Int × Int) := match rows.getLast? with
  | some (f, m) => rows.dropLast ++ [(f, m + 1)]
  | none => rows
def stallsOn (s : St) (n : Std) : List (Int × Int) := if n.played > s.std.played then s.stalls else if n.going = 2 then (if s.std.going = 1 then s.stalls ++ [(s.beat, 1)] else bump s.stalls) else s.stalls
def stepOn (c : Cfg) (s : St) (v : Int) : St :=
  { s with
    std := beatOn c s.std v
    plays := if (beatOn c s.std v).played > s.std.played then s.plays ++ [s.beat] else s.plays
    stalls := stallsOn s (beatOn c s.std v)
    beat := s.beat + 1
    kepts := s.kepts ++ [(beatOn c s.std v).kept]
    whole := if (beatOn c s.std v).num > s.std.num then s.whole ++ [s.beat + 1] else s.whole
    sl := if (beatOn c s.std v).num > s.std.num then some (c.size s.std.num s.std.coming, s.beat + 1 - s.begun.getLastD 0) else s.sl }
def step (c : Cfg) (s : St) : St := stepOn c (chooseHere c s) (c.speed s.beat)
def over (c : Cfg) (s : St) : Bool := decide (s.std.played = c.total)
/-! ### lists -/
def pre (ls : List Int) (n : Nat) : Int := (ls.take n).sum
def rep : List Int → List Int → List Int
  | w :: ws, l :: ls => List.replicate l.toNat w ++ rep ws ls
  | _, _ => []
def comeF : List Int → List Int → Int → Int
  | w :: ws, l :: ls, b => if w - 1 = b then l else comeF ws ls b
  | _, _, _ => 0
def addRow (rows : List (Int × Int)) (b : Int) : List (Int × Int) := match rows.getLast? with
  | some (f, m) => if f + m = b then rows.dropLast ++ [(f, m + 1)] else rows ++ [(b, 1)]
  | none => rows ++ [(b, 1)]
def silF (plays : List Int) (lo : Int) : Nat → List (Int × Int)
  | 0 => []
  | i + 1 => if lo + i ∈ plays then silF plays lo i else addRow (silF plays lo i) (lo + i)
theorem getD_lt {α : Type} {l : List α} {x d : α} {k : Nat} (h : k < l.length) : (l ++ [x]).getD k d = l.getD k d := by
  rw [List.getD_eq_getElem?_getD, List.getD_eq_getElem?_getD, List.getElem?_append_left h]
theorem getD_eq {α : Type} {l : List α} {x d : α} {k : Nat} (h : k = l.length) : (l ++ [x]).getD k d = x := by
  rw [List.getD_eq_getElem?_getD, List.getElem?_append_right (by omega), h, Nat.sub_self]
  rfl
theorem getD_mem {α : Type} {l : List α} {d : α} {k : Nat} (h : k < l.length) : l.getD k d ∈ l := by
  rw [List.getD_eq_getElem?_getD, List.getElem?_eq_getElem h]
  exact List.getElem_mem _
theorem pre_succ {ls : List Int} {n : Nat} (h : n < ls.length) : pre ls (n + 1) = pre ls n + ls.getD n 0 := by
  unfold pre
  rw [List.take_succ, List.getElem?_eq_getElem h, List.sum_append, List.getD_eq_getElem?_getD, List.getElem?_eq_getElem h]
  simp
theorem pre_all {ls : List Int} : pre ls ls.length = ls.sum := by
  unfold pre
  rw [List.take_length]
theorem pre_lt {ls : List Int} (hp : ∀ x ∈ ls, 1 ≤ x) {n : Nat} (h : n < ls.length) : pre ls n < pre ls (n + 1) := by
  rw [pre_succ h]
  have := hp _ (getD_mem (d := 0) h)
  omega
theorem pre_mono {ls : List Int} (hp : ∀ x ∈ ls, 1 ≤ x) {n : Nat} : ∀ k, n + k ≤ ls.length → pre ls n + k ≤ pre ls (n + k)
  | 0, _ => by simp
  | k + 1, h => by
    have h1 := pre_mono hp (n := n) k (by omega)
    have h2 := pre_lt hp (n := n + k) (by omega)
    rw [show n + (k + 1) = n + k + 1 by omega]
    omega
theorem rep_snoc : ∀ {ws ls : List Int} {w : Int}, ws.length < ls.length → rep (ws ++ [w]) ls = rep ws ls ++ List.replicate (ls.getD ws.length 0).toNat w
  | [], [], _, h => absurd h (by simp)
  | [], l :: ls, w, _ => by
    show List.replicate l.toNat w ++ rep [] ls = [] ++ List.replicate l.toNat w
    cases ls <;> simp [rep]
  | a :: ws, [], _, h => absurd h (by simp)
  | a :: ws, l :: ls, w, h => by
    show List.replicate l.toNat a ++ rep (ws ++ [w]) ls = List.replicate l.toNat a ++ rep ws ls ++ _
    rw [rep_snoc (by simpa using h), List.append_assoc]
    rfl
theorem rep_len : ∀ {ws ls : List Int}, (∀ x ∈ ls, 0 ≤ x) → ws.length ≤ ls.length → ((rep ws ls).length : Int) = pre ls ws.length
  | [], ls, _, _ => by simp [rep, pre]
  | a :: ws, [], _, h => absurd h (by simp)
  | a :: ws, l :: ls, hp, h => by
    have ih := rep_len (ws := ws) (ls := ls) (fun x hx => hp x (List.mem_cons_of_mem _ hx)) (by simpa using h)
    have hl := hp l List.mem_cons_self
    show ((List.replicate l.toNat a ++ rep ws ls).length : Int) = ((l :: ls).take (ws.length + 1)).sum
    rw [List.length_append, List.length_replicate, List.take_succ_cons, List.sum_cons]
    unfold pre at ih
    omega
theorem rep_mem : ∀ {ws ls : List Int} {x : Int}, x ∈ rep ws ls → x ∈ ws
  | [], ls, x, h => by simp [rep] at h
  | a :: ws, [], x, h => by simp [rep] at h
  | a :: ws, l :: ls, x, h => by
    rcases List.mem_append.mp (show x ∈ List.replicate l.toNat a ++ rep ws ls from h) with h | h
    · rw [List.eq_of_mem_replicate h]
      exact List.mem_cons_self
    · exact List.mem_cons_of_mem _ (rep_mem h)
theorem comeF_old : ∀ {ws ls : List Int} {w b : Int}, w - 1 ≠ b → comeF (ws ++ [w]) ls b = comeF ws ls b
  | [], [], _, _, _ => rfl
  | [], l :: ls, w, b, h => by
    show (if w - 1 = b then l else comeF [] ls b) = _
    rw [if_neg h]
    cases ls <;> rfl
  | a :: ws, [], _, _, _ => rfl
  | a :: ws, l :: ls, w, b, h => by
    show (if a - 1 = b then l else comeF (ws ++ [w]) ls b) = (if a - 1 = b then l else comeF ws ls b)
    rw [comeF_old h]
theorem comeF_none : ∀ {ws ls : List Int} {b : Int}, (∀ x ∈ ws, x - 1 ≠ b) → comeF ws ls b = 0
  | [], ls, b, _ => by cases ls <;> rfl
  | a :: ws, [], b, _ => rfl
  | a :: ws, l :: ls, b, h => by
    show (if a - 1 = b then l else comeF ws ls b) = 0
    rw [if_neg (h a List.mem_cons_self)]
    exact comeF_none fun x hx => h x (List.mem_cons_of_mem _ hx)
theorem comeF_new : ∀ {ws ls : List Int} {b : Int}, (∀ x ∈ ws, x - 1 ≠ b) → ws.length < ls.length → comeF (ws ++ [b + 1]) ls b = ls.getD ws.length 0
  | [], [], _, _, h => absurd h (by simp)
  | [], l :: ls, b, _, _ => by
    show (if b + 1 - 1 = b then l else comeF [] ls b) = l
    rw [if_pos (by omega)]
  | a :: ws, [], _, _, h => absurd h (by simp)
  | a :: ws, l :: ls, b, h, hl => by
    show (if a - 1 = b then l else comeF (ws ++ [b + 1]) ls b) = ls.getD ws.length 0
    rw [if_neg (h a List.mem_cons_self)]
    exact comeF_new (fun x hx => h x (List.mem_cons_of_mem _ hx)) (by simpa using hl)
theorem silF_congr {p p' : List Int} {lo : Int} : ∀ {n : Nat}, (∀ b, b < lo + n → (b ∈ p ↔ b ∈ p')) → silF p lo n = silF p' lo n
  | 0, _ => rfl
  | n + 1, h => by
    unfold silF
    rw [silF_congr (n := n) fun b hb => h b (by omega)]
    have e := h (lo + n) (by omega)
    by_cases q : lo + (n : Int) ∈ p
    · rw [if_pos q, if_pos (e.mp q)]
    · rw [if_neg q, if_neg fun z => q (e.mpr z)]
end RPm


set_option Elab.async false
set_option linter.all false
set_option maxHeartbeats 4000000
/-! What stays true of the walk: a choice, a beat. -/
namespace RPm
structure CfgOk (c : Cfg) (wide : Int) : Prop where
  ln0 : 1 ≤ c.lens.length
  ln1 : c.lens.length ≤ 12
  lb : ∀ x ∈ c.lens, 1 ≤ x ∧ x ≤ 20
  sb : ∀ n r : Int, 0 ≤ n → n < c.lens.length → 0 ≤ r → r < wide → 1 ≤ c.size n r ∧ c.size n r ≤ 300
  rd : RdOk c.z c.pieces
  z1 : 1 ≤ c.z
  late : ∀ b, 600 ≤ b → 1 ≤ c.speed b
  bg : 1 ≤ c.begin_
  ag : 1 ≤ c.again
  mo : ∀ x ∈ c.lens, x ≤ c.most
  w0 : 0 ≤ c.wait
  w1 : c.wait ≤ 5
  op : ∀ os, c.opens = some os → ∀ k, os.getD k 0 ≤ 360
  pk : ∀ s, 0 ≤ c.pick s ∧ c.pick s < wide
def last (whole : List Int) (k : Nat) : Int := if k = 0 then 0 else whole.getD (k - 1) 0
structure Good (c : Cfg) (s : St) : Prop where
  n0 : 0 ≤ s.std.num
  n1 : s.std.num ≤ c.lens.length
  b0 : 0 ≤ s.beat
  lw : (s.whole.length : Int) = s.std.num
  lr : (s.rates.length : Int) = s.std.num + (if s.std.coming = -1 then 0 else 1)
  lb : s.begun.length = s.rates.length
  ls : s.seens.length = s.rates.length
  c1 : -1 ≤ s.std.coming
  cm : s.std.coming ≠ -1 → s.std.num < c.lens.length ∧ s.std.coming = s.rates.getD s.std.num.toNat 0
  ra : ∀ k, k < s.rates.length → s.rates.getD k 0 = c.pick (s.seens.getD k default) ∧ (s.seens.getD k default).num = k
  be : ∀ k, k < s.begun.length → 0 ≤ s.begun.getD k 0 ∧ s.begun.getD k 0 ≤ s.beat ∧ last s.whole k ≤ s.begun.getD k 0 ∧ ∀ os, c.opens = some os → os.getD k 0 ≤ s.begun.getD k 0
  wh : ∀ k, k < s.whole.length → Whole c.z c.pieces (s.begun.getD k 0 + c.wait) (c.size k (s.rates.getD k 0)) (s.whole.getD k 0) ∧ s.whole.getD k 0 ≤ s.beat
  go : s.std.coming ≠ -1 → (s.std.got < 0 ∧ s.std.got = s.beat - (s.begun.getD s.std.num.toNat 0 + c.wait)) ∨
    (0 ≤ s.std.got ∧ s.begun.getD s.std.num.toNat 0 + c.wait ≤ s.beat ∧ s.std.got = cum c.z c.pieces s.beat - cum c.z c.pieces (s.begun.getD s.std.num.toNat 0 + c.wait) ∧ s.std.got < c.size s.std.num s.std.coming)
  gw : s.std.coming ≠ -1 → -c.wait ≤ s.std.got
  ke : s.std.kept = pre c.lens s.std.num.toNat - s.std.played
  k0 : 0 ≤ s.std.kept ∧ s.std.kept ≤ c.most
  kc : s.std.coming ≠ -1 → s.std.kept + c.len s.std.num ≤ c.most
  p0 : 0 ≤ s.std.played
  lp : (s.plays.length : Int) = s.std.played
  ps : s.plays.Pairwise (· < ·) ∧ ∀ x ∈ s.plays, 0 ≤ x ∧ x < s.beat
  pw : ∀ k, k < s.plays.length → (rep s.whole c.lens).getD k 0 ≤ s.plays.getD k 0
  g0 : s.std.going = 0 ∨ s.std.going = 1 ∨ s.std.going = 2
  ga : s.std.going = 0 → s.std.played = 0 ∧ s.stalls = []
  gb : s.std.going ≠ 0 → 0 < s.std.played
  gp : s.std.going = 1 → s.plays.getLast? = some (s.beat - 1)
  ge : s.std.played = c.total → s.std.going = 1
  st : ∀ p0, s.plays.head? = some p0 → p0 ≤ s.beat ∧ s.stalls = silF s.plays p0 (s.beat - p0).toNat
  gs : s.std.going = 2 → ∃ f m, s.stalls.getLast? = some (f, m) ∧ f + m = s.beat
  gr : s.std.going = 1 → ∀ f m, s.stalls.getLast? = some (f, m) → f + m < s.beat
  gv : ∀ r ∈ s.stalls, 0 ≤ r.1 ∧ 0 ≤ r.2 ∧ r.1 ≤ s.beat ∧ r.2 ≤ s.beat
  gl : (s.stalls.length : Int) ≤ s.beat
  lk : (s.kepts.length : Int) = s.beat
  kk : ∀ b : Nat, (b : Int) < s.beat → s.kepts.getD b 0 = last s.kepts b + comeF s.whole c.lens b - (if (b : Int) ∈ s.plays then 1 else 0) ∧ 0 ≤ s.kepts.getD b 0 ∧ s.kepts.getD b 0 ≤ c.most
  kl : s.std.kept = last s.kepts s.beat.toNat
def Phi (c : Cfg) (s : St) : Int := max 0 (600 - s.beat) + (c.total - s.std.played) + 306 * ((c.lens.length : Int) - s.std.num) - (if s.std.coming = -1 then 0 else s.std.got + c.wait)
theorem good0 {c : Cfg} {wide : Int} (ok : CfgOk c wide) : Good c st0 := by
  have hm : 0 ≤ c.most := by
    have h := ok.mo (c.lens.getD 0 0) (getD_mem (by have := ok.ln0; omega))
    have h2 := ok.lb (c.lens.getD 0 0) (getD_mem (by have := ok.ln0; omega))
    omega
  have ht : 0 < c.total := by
    have h := pre_mono (fun x hx => (ok.lb x hx).1) (n := 0) c.lens.length (by omega)
    rw [Nat.zero_add, pre_all] at h
    have h2 : pre c.lens 0 = 0 := rfl
    have := ok.ln0
    show 0 < c.lens.sum
    omega
  constructor <;> (try simp [st0, pre, last])
  · exact hm
  · omega
  · intro b hb
    omega
/-! ### a choice -/
theorem choose_good {c : Cfg} {wide : Int} (ok : CfgOk c wide) {s : St} (g : Good c s) : Good c (chooseHere c s) ∧ Phi c (chooseHere c s) = Phi c s ∧ (chooseHere c s).beat = s.beat ∧ (chooseHere c s).std.played = s.std.played := by
  unfold chooseHere
  by_cases ha : asks c s = true
  · rw [if_pos ha]
    unfold asks at ha
    simp only [Bool.and_eq_true, decide_eq_true_eq] at ha
    obtain ⟨hc, hr, ho⟩ := ha
    unfold hasRoom at hr
    simp only [Bool.and_eq_true, decide_eq_true_eq] at hr
    obtain ⟨hn, hk⟩ := hr
    have pk := ok.pk (seenOf s)
    have ne : c.pick (seenOf s) ≠ -1 := by omega
    have lr := g.lr
    rw [if_pos hc] at lr
    have n0 := g.n0
    have ln : s.rates.length = s.std.num.toNat := by omega
    have lbn : s.begun.length = s.std.num.toNat := by rw [g.lb, ln]
    have lsn : s.seens.length = s.std.num.toNat := by rw [g.ls, ln]
    have ewh : ∀ k, k < s.whole.length → k < s.begun.length ∧ k < s.rates.length := fun k hk => by
      have := g.lw
      omega
    refine ⟨{ n0 := g.n0, n1 := g.n1, b0 := g.b0, lw := g.lw, lr := ?_, lb := ?_, ls := ?_, c1 := ?_, cm := ?_, ra := ?_, be := ?_, wh := ?_, go := ?_, gw := ?_, ke := g.ke, k0 := g.k0, kc := fun _ => hk, p0 := g.p0, lp := g.lp, ps := g.ps, pw := g.pw, g0 := g.g0, ga := g.ga, gb := g.gb, gp := g.gp, ge := g.ge, st := g.st, gs := g.gs, gr := g.gr, gv := g.gv, gl := g.gl, lk := g.lk, kk := g.kk, kl := g.kl }, ?_, rfl, rfl⟩
    · show ((s.rates ++ [c.pick (seenOf s)]).length : Int) = s.std.num + (if c.pick (seenOf s) = -1 then 0 else 1)
      rw [if_neg ne, List.length_append]
      simp
      omega
    · show (s.begun ++ [s.beat]).length = (s.rates ++ [_]).length
      rw [List.length_append, List.length_append, g.lb]
      rfl
    · show (s.seens ++ [seenOf s]).length = (s.rates ++ [_]).length
      rw [List.length_append, List.length_append, g.ls]
      rfl
    · show -1 ≤ c.pick (seenOf s)
      omega
    · intro _
      refine ⟨hn, ?_⟩
      show c.pick (seenOf s) = (s.rates ++ [c.pick (seenOf s)]).getD s.std.num.toNat 0
      rw [getD_eq ln.symm]
    · intro k hk
      have hk : k < (s.rates ++ [c.pick (seenOf s)]).length := hk
      rw [List.length_append] at hk
      simp at hk
      show (s.rates ++ [c.pick (seenOf s)]).getD k 0 = c.pick ((s.seens ++ [seenOf s]).getD k default) ∧ ((s.seens ++ [seenOf s]).getD k default).num = k
      by_cases h : k < s.rates.length
      · rw [getD_lt h, getD_lt (by rw [g.ls]; exact h)]
        exact g.ra k h
      · have e : k = s.rates.length := by omega
        rw [getD_eq e, getD_eq (by rw [g.ls]; exact e)]
        refine ⟨rfl, ?_⟩
        show s.std.num = k
        omega
    · intro k hk
      have hk : k < (s.begun ++ [s.beat]).length := hk
      rw [List.length_append] at hk
      simp at hk
      show 0 ≤ (s.begun ++ [s.beat]).getD k 0 ∧ (s.begun ++ [s.beat]).getD k 0 ≤ s.beat ∧ last s.whole k ≤ (s.begun ++ [s.beat]).getD k 0 ∧ ∀ os, c.opens = some os → os.getD k 0 ≤ (s.begun ++ [s.beat]).getD k 0
      by_cases h : k < s.begun.length
      · rw [getD_lt h]
        exact g.be k h
      · have e : k = s.begun.length := by omega
        rw [getD_eq e]
        refine ⟨g.b0, Int.le_refl _, ?_, fun os eo => ?_⟩
        · unfold last
          split
          · exact g.b0
          · have := (g.wh (k - 1) (by have := g.lw; omega)).2
            exact this
        · unfold isOpen at ho
          rw [eo] at ho
          have ho := of_decide_eq_true ho
          rw [e, lbn]
          exact ho
    · intro k hk
      obtain ⟨h1, h2⟩ := ewh k hk
      show Whole c.z c.pieces ((s.begun ++ [s.beat]).getD k 0 + c.wait) (c.size k ((s.rates ++ [c.pick (seenOf s)]).getD k 0)) (s.whole.getD k 0) ∧ s.whole.getD k 0 ≤ s.beat
      rw [getD_lt h1, getD_lt h2]
      exact g.wh k hk
    · intro _
      show (0 - c.wait < 0 ∧ 0 - c.wait = s.beat - ((s.begun ++ [s.beat]).getD s.std.num.toNat 0 + c.wait)) ∨ (0 ≤ 0 - c.wait ∧ (s.begun ++ [s.beat]).getD s.std.num.toNat 0 + c.wait ≤ s.beat ∧ 0 - c.wait = cum c.z c.pieces s.beat - cum c.z c.pieces ((s.begun ++ [s.beat]).getD s.std.num.toNat 0 + c.wait) ∧ 0 - c.wait < c.size s.std.num (c.pick (seenOf s)))
      rw [getD_eq lbn.symm]
      have w0 := ok.w0
      by_cases hw : c.wait = 0
      · right
        rw [hw]
        have sb := (ok.sb s.std.num (c.pick (seenOf s)) n0 hn pk.1 pk.2).1
        refine ⟨by omega, by omega, ?_, by omega⟩
        rw [show s.beat + 0 = s.beat by omega]
        omega
      · left
        omega
    · intro _
      show -c.wait ≤ 0 - c.wait
      omega
    · unfold Phi
      show max 0 (600 - s.beat) + (c.total - s.std.played) + 306 * ((c.lens.length : Int) - s.std.num) - (if c.pick (seenOf s) = -1 then 0 else 0 - c.wait + c.wait) = max 0 (600 - s.beat) + (c.total - s.std.played) + 306 * ((c.lens.length : Int) - s.std.num) - (if s.std.coming = -1 then 0 else s.std.got + c.wait)
      rw [if_neg ne, if_pos hc]
      omega
  · rw [if_neg ha]
    exact ⟨g, rfl, rfl, rfl⟩
end RPm


set_option Elab.async false
set_option linter.all false
set_option maxHeartbeats 8000000
/-! What stays true of the walk: a beat. -/
namespace RPm
section
variable {c : Cfg} {wide : Int} {s : St}
theorem len_ge (ok : CfgOk c wide) {n : Int} (h0 : 0 ≤ n) (h1 : n < c.lens.length) : 1 ≤ c.len n ∧ c.len n ≤ 20 ∧ c.len n ≤ c.most := by
  have hm : c.len n ∈ c.lens := getD_mem (by omega)
  exact ⟨(ok.lb _ hm).1, (ok.lb _ hm).2, ok.mo _ hm⟩
theorem play3 (ok : CfgOk c wide) (g : Good c s) (no : s.std.played ≠ c.total) :
    (playedOn c s.std = (s.std.kept, s.std.played, s.std.going) ∧ s.std.going ≠ 1 ∧ begins c s.std = false) ∨ (playedOn c s.std = (s.std.kept, s.std.played, 2) ∧ s.std.kept = 0 ∧ s.std.going = 1) ∨ (playedOn c s.std = (s.std.kept - 1, s.std.played + 1, 1) ∧ 1 ≤ s.std.kept) := by
  have k0 := g.k0.1
  unfold playedOn
  by_cases h : s.std.going ≠ 1 ∧ begins c s.std = false
  · left
    rw [if_pos h]
    exact ⟨rfl, h.1, h.2⟩
  · right
    rw [if_neg h]
    by_cases hk : s.std.kept = 0
    · left
      rw [if_pos hk]
      refine ⟨by rw [hk], hk, ?_⟩
      by_cases hg : s.std.going = 1
      · exact hg
      · exfalso
        have hb : begins c s.std = true := by
          cases e : begins c s.std with
          | true => rfl
          | false => exact absurd ⟨hg, e⟩ h
        unfold begins at hb
        simp only [Bool.or_eq_true, decide_eq_true_eq, Bool.and_eq_true, Bool.not_eq_true'] at hb
        have n0 := g.n0
        have n1 := g.n1
        have hke := g.ke
        have allN : s.std.num = c.lens.length → False := fun e => by
          rw [e, show ((c.lens.length : Int)).toNat = c.lens.length by omega, pre_all] at hke
          have : c.total = c.lens.sum := rfl
          omega
        rcases hb with (hb | hb) | ⟨hb, hb2⟩
        · have := ok.bg
          have := ok.ag
          split at hb <;> omega
        · exact allN hb
        · unfold hasRoom at hb2
          by_cases hn : s.std.num < c.lens.length
          · have hl := (len_ge ok n0 hn).2.2
            have e1 : decide (s.std.num < (c.lens.length : Int)) = true := decide_eq_true hn
            have e2 : decide (s.std.kept + c.len s.std.num ≤ c.most) = true := decide_eq_true (by omega)
            rw [e1, e2] at hb2
            cases hb2
          · exact allN (by omega)
    · right
      rw [if_neg hk]
      exact ⟨rfl, by omega⟩
/-- nothing can be fetched and nothing is there to be asked: a beat is played -/
theorem plays_when (ok : CfgOk c wide) (g : Good c s) (no : s.std.played ≠ c.total) (hc : s.std.coming = -1) (hr : hasRoom c s.std = false) : playedOn c s.std = (s.std.kept - 1, s.std.played + 1, 1) := by
  have hb : begins c s.std = true := by
    unfold begins
    rw [hr, decide_eq_true hc]
    simp
  rcases play3 ok g no with ⟨_, _, h⟩ | ⟨_, hk, hg⟩ | ⟨h, _⟩
  · rw [hb] at h
    cases h
  · exfalso
    have n0 := g.n0
    have n1 := g.n1
    have hke := g.ke
    unfold hasRoom at hr
    by_cases hn : s.std.num < c.lens.length
    · have hl := (len_ge ok n0 hn).2.2
      have e1 : decide (s.std.num < (c.lens.length : Int)) = true := decide_eq_true hn
      have e2 : decide (s.std.kept + c.len s.std.num ≤ c.most) = true := decide_eq_true (by omega)
      rw [e1, e2] at hr
      cases hr
    · have e : s.std.num = c.lens.length := by omega
      rw [e, show ((c.lens.length : Int)).toNat = c.lens.length by omega, pre_all] at hke
      have : c.total = c.lens.sum := rfl
      omega
  · exact h
theorem beat3 (v : Int) : (beatOn c s.std v).played = (playedOn c s.std).2.1 ∧ (beatOn c s.std v).going = (playedOn c s.std).2.2 ∧
    ((s.std.coming = -1 ∧ (beatOn c s.std v).num = s.std.num ∧ (beatOn c s.std v).coming = -1 ∧ (beatOn c s.std v).got = s.std.got ∧ (beatOn c s.std v).kept = (playedOn c s.std).1) ∨
     (s.std.coming ≠ -1 ∧ gotOn s.std v < c.size s.std.num s.std.coming ∧ (beatOn c s.std v).num = s.std.num ∧ (beatOn c s.std v).coming = s.std.coming ∧ (beatOn c s.std v).got = gotOn s.std v ∧ (beatOn c s.std v).kept = (playedOn c s.std).1) ∨
     (s.std.coming ≠ -1 ∧ c.size s.std.num s.std.coming ≤ gotOn s.std v ∧ (beatOn c s.std v).num = s.std.num + 1 ∧ (beatOn c s.std v).coming = -1 ∧ (beatOn c s.std v).got = 0 ∧ (beatOn c s.std v).kept = (playedOn c s.std).1 + c.len s.std.num)) := by
  unfold beatOn
  by_cases h : s.std.coming = -1
  · rw [if_pos h]
    exact ⟨rfl, rfl, .inl ⟨h, rfl, h, rfl, rfl⟩⟩
  · rw [if_neg h]
    by_cases h2 : gotOn s.std v < c.size s.std.num s.std.coming
    · rw [if_pos h2]
      exact ⟨rfl, rfl, .inr (.inl ⟨h, h2, rfl, rfl, rfl, rfl⟩)⟩
    · rw [if_neg h2]
      exact ⟨rfl, rfl, .inr (.inr ⟨h, by omega, rfl, rfl, rfl, rfl⟩)⟩
theorem come_ok (ok : CfgOk c wide) (g : Good c s) (h : s.std.coming ≠ -1) : 0 ≤ s.std.coming ∧ s.std.coming < wide ∧ 1 ≤ c.size s.std.num s.std.coming ∧ c.size s.std.num s.std.coming ≤ 300 ∧ 0 ≤ s.std.num ∧ s.std.num < c.lens.length := by
  obtain ⟨h1, h2⟩ := g.cm h
  have lr := g.lr
  rw [if_neg h] at lr
  have n0 := g.n0
  have r := (g.ra s.std.num.toNat (by omega)).1
  have p := ok.pk (s.seens.getD s.std.num.toNat default)
  rw [← r, ← h2] at p
  have sb := ok.sb s.std.num s.std.coming n0 h1 p.1 p.2
  exact ⟨p.1, p.2, sb.1, sb.2, n0, h1⟩
theorem last_snoc {l : List Int} {x : Int} {k : Nat} (h : k ≤ l.length) : last (l ++ [x]) k = last l k := by
  unfold last
  split
  · rfl
  · rw [getD_lt (by omega)]
set_option maxHeartbeats 16000000 in
theorem step_good (ok : CfgOk c wide) (g : Good c s) (no : s.std.played ≠ c.total) (na : s.std.coming = -1 → hasRoom c s.std = true → isOpen c s = false) :
    Good c (stepOn c s (c.speed s.beat)) ∧ Phi c (stepOn c s (c.speed s.beat)) + 1 ≤ Phi c s := by
  have b0 := g.b0
  have n0 := g.n0
  have n1 := g.n1
  have lw := g.lw
  have lr := g.lr
  have hke := g.ke
  obtain ⟨k0, k1⟩ := g.k0
  have p0 := g.p0
  have lp := g.lp
  have lk := g.lk
  have hv : 0 ≤ c.speed s.beat := spd_nn ok.rd
  have hcum : cum c.z c.pieces (s.beat + 1) = cum c.z c.pieces s.beat + c.speed s.beat := cum_succ ok.rd b0
  have hP := play3 ok g no
  obtain ⟨e1, e2, hB⟩ := beat3 (c := c) (s := s) (c.speed s.beat)
  have hX : c.speed s.beat = c.speed s.beat := rfl
  generalize hn : beatOn c s.std (c.speed s.beat) = n at e1 e2 hB
  obtain ⟨⟨kp, pl, gg⟩, hpo⟩ : ∃ t : Int × Int × Int, playedOn c s.std = t := ⟨_, rfl⟩
  rw [hpo] at hP e1 e2 hB
  simp only [Prod.mk.injEq] at hP e1 e2 hB
  have hWl : ∀ x ∈ s.whole, x ≤ s.beat := fun x hx => by
    obtain ⟨i, hi, e⟩ := List.mem_iff_getElem.mp hx
    have := (g.wh i hi).2
    rw [List.getD_eq_getElem?_getD, List.getElem?_eq_getElem hi] at this
    simp at this
    omega
  have hlb : ∀ x ∈ c.lens, 0 ≤ x := fun x hx => by have := (ok.lb x hx).1; omega
  have hrl : ((rep s.whole c.lens).length : Int) = pre c.lens s.std.num.toNat := by
    have := rep_len (ws := s.whole) hlb (by omega)
    rw [this, show s.whole.length = s.std.num.toNat by omega]
  have hplk : (pl = s.std.played ∧ kp = s.std.kept) ∨ (pl = s.std.played + 1 ∧ kp = s.std.kept - 1 ∧ 1 ≤ s.std.kept ∧ gg = 1) := by
    rcases hP with ⟨⟨h1, h2, h3⟩, _⟩ | ⟨⟨h1, h2, h3⟩, _⟩ | ⟨⟨h1, h2, h3⟩, h4⟩
    · exact .inl ⟨h2, h1⟩
    · exact .inl ⟨h2, h1⟩
    · exact .inr ⟨h2, h1, h4, h3⟩
  -- the lists behind the beat
  have eP : (stepOn c s (c.speed s.beat)).plays = if pl > s.std.played then s.plays ++ [s.beat] else s.plays := by
    show (if (beatOn c s.std (c.speed s.beat)).played > s.std.played then s.plays ++ [s.beat] else s.plays) = _
    rw [hn, e1]
  have eW : (stepOn c s (c.speed s.beat)).whole = if n.num > s.std.num then s.whole ++ [s.beat + 1] else s.whole := by
    show (if (beatOn c s.std (c.speed s.beat)).num > s.std.num then s.whole ++ [s.beat + 1] else s.whole) = _
    rw [hn]
  have eS : (stepOn c s (c.speed s.beat)).stalls = stallsOn s n := by
    show stallsOn s (beatOn c s.std (c.speed s.beat)) = _
    rw [hn]
  have eK : (stepOn c s (c.speed s.beat)).kepts = s.kepts ++ [n.kept] := by
    show s.kepts ++ [(beatOn c s.std (c.speed s.beat)).kept] = _
    rw [hn]
  have eN : (stepOn c s (c.speed s.beat)).std = n := hn
  -- the three ways of fetching, told once
  have hF : (n.num = s.std.num ∧ n.coming = s.std.coming ∧ n.kept = kp ∧ (stepOn c s (c.speed s.beat)).whole = s.whole) ∨
      (s.std.coming ≠ -1 ∧ n.num = s.std.num + 1 ∧ n.coming = -1 ∧ n.kept = kp + c.len s.std.num ∧ (stepOn c s (c.speed s.beat)).whole = s.whole ++ [s.beat + 1]) := by
    rcases hB with ⟨h1, h2, h3, h4, h5⟩ | ⟨h1, h2, h3, h4, h5, h6⟩ | ⟨h1, h2, h3, h4, h5, h6⟩
    · left
      exact ⟨h2, by rw [h3, h1], h5, by rw [eW, if_neg (by omega)]⟩
    · left
      exact ⟨h3, h4, h6, by rw [eW, if_neg (by omega)]⟩
    · right
      exact ⟨h1, h3, h4, h6, by rw [eW, if_pos (by omega)]⟩
  have repB : ∀ k : Nat, (k : Int) < pre c.lens s.std.num.toNat → (rep (stepOn c s (c.speed s.beat)).whole c.lens).getD k 0 = (rep s.whole c.lens).getD k 0 := fun k hk => by
    rcases hF with ⟨_, _, _, h⟩ | ⟨h1, _, _, _, h⟩
    · rw [h]
    · rw [h, rep_snoc (by have := (come_ok ok g h1).2.2.2.2.2; omega), List.getD_eq_getElem?_getD, List.getElem?_append_left (by omega), ← List.getD_eq_getElem?_getD]
  have memP : ∀ x, x ∈ (stepOn c s (c.speed s.beat)).plays → x ∈ s.plays ∨ (x = s.beat ∧ pl = s.std.played + 1) := fun x hx => by
    rw [eP] at hx
    rcases hplk with ⟨h, _⟩ | ⟨h, _⟩
    · rw [if_neg (by omega)] at hx
      exact .inl hx
    · rw [if_pos (by omega)] at hx
      rcases List.mem_append.mp hx with hx | hx
      · exact .inl hx
      · exact .inr ⟨List.mem_singleton.mp hx, h⟩
  have subP : ∀ x, x ∈ s.plays → x ∈ (stepOn c s (c.speed s.beat)).plays := fun x hx => by
    rw [eP]
    split
    · exact List.mem_append_left _ hx
    · exact hx
  have nbP : s.beat ∉ s.plays := fun z => by have := (g.ps.2 _ z).2; omega
  have noplays : s.std.played = 0 → s.plays = [] := fun e => List.eq_nil_of_length_eq_zero (by omega)
  have going0 : s.std.played = 0 → s.std.going = 0 := fun e => by
    by_cases q : s.std.going = 0
    · exact q
    · have := g.gb q
      omega
  refine ⟨{ n0 := ?_, n1 := ?_, b0 := ?_, lw := ?_, lr := ?_, lb := g.lb, ls := g.ls, c1 := ?_, cm := ?_, ra := g.ra, be := ?_, wh := ?_, go := ?_, gw := ?_, ke := ?_, k0 := ?_, kc := ?_, p0 := ?_, lp := ?_, ps := ?_, pw := ?_, g0 := ?_, ga := ?_, gb := ?_, gp := ?_, ge := ?_, st := ?_, gs := ?_, gr := ?_, gv := ?_, gl := ?_, lk := ?_, kk := ?_, kl := ?_ }, ?_⟩
  · -- n0
    rw [eN]
    rcases hF with ⟨h, _⟩ | ⟨_, h, _⟩ <;> omega
  · -- n1
    rw [eN]
    rcases hF with ⟨h, _⟩ | ⟨h0, h, _⟩
    · omega
    · have := (come_ok ok g h0).2.2.2.2.2
      omega
  · show 0 ≤ s.beat + 1
    omega
  · -- lw
    rw [eN]
    rcases hF with ⟨h, _, _, h2⟩ | ⟨h0, h, _, _, h2⟩
    · rw [h2, h]
      exact lw
    · rw [h2, List.length_append]
      simp
      omega
  · -- lr
    rw [eN]
    show (s.rates.length : Int) = _
    rcases hF with ⟨h, h1, _⟩ | ⟨h0, h, h1, _⟩
    · rw [h, h1]
      exact lr
    · rw [if_neg h0] at lr
      rw [h1, if_pos rfl]
      omega
  · -- c1
    rw [eN]
    have := g.c1
    rcases hF with ⟨h, h1, _⟩ | ⟨h0, h, h1, _⟩ <;> omega
  · -- cm
    rw [eN]
    intro hc
    rcases hF with ⟨h, h1, _⟩ | ⟨h0, h, h1, _⟩
    · rw [h1] at hc
      rw [h, h1]
      exact g.cm hc
    · exact absurd h1 hc
  · -- be
    intro k hk
    have hk : k < s.begun.length := hk
    obtain ⟨a1, a2, a3, a4⟩ := g.be k hk
    refine ⟨a1, ?_, ?_, a4⟩
    · show s.begun.getD k 0 ≤ s.beat + 1
      omega
    · rcases hF with ⟨_, _, _, h⟩ | ⟨h0, _, _, _, h⟩
      · rw [h]
        exact a3
      · rw [h, last_snoc]
        · exact a3
        · rw [if_neg h0] at lr
          have := g.lb
          omega
  · -- wh
    intro k hk
    show Whole c.z c.pieces (s.begun.getD k 0 + c.wait) (c.size k (s.rates.getD k 0)) ((stepOn c s (c.speed s.beat)).whole.getD k 0) ∧ (stepOn c s (c.speed s.beat)).whole.getD k 0 ≤ s.beat + 1
    rcases hB with ⟨h1, h2, h3, h4, h5⟩ | ⟨h1, h2, h3, h4, h5, h6⟩ | ⟨h1, h2, h3, h4, h5, h6⟩
    · rw [eW, if_neg (by omega)] at hk ⊢
      have := g.wh k hk
      exact ⟨this.1, by omega⟩
    · rw [eW, if_neg (by omega)] at hk ⊢
      have := g.wh k hk
      exact ⟨this.1, by omega⟩
    · rw [eW, if_pos (by omega)] at hk ⊢
      rw [List.length_append] at hk
      simp at hk
      by_cases hlt : k < s.whole.length
      · rw [getD_lt hlt]
        have := g.wh k hlt
        exact ⟨this.1, by omega⟩
      · have ek : k = s.whole.length := by omega
        rw [getD_eq ek]
        refine ⟨?_, Int.le_refl _⟩
        obtain ⟨q0, q1, q2, q3, q4, q5⟩ := come_ok ok g h1
        have ekn : k = s.std.num.toNat := by omega
        have ekn2 : (k : Int) = s.std.num := by omega
        have er : s.rates.getD k 0 = s.std.coming := by
          rw [ekn]
          exact ((g.cm h1).2).symm
        rw [er, ekn2]
        have hbe := (g.be k (by rw [if_neg h1] at lr; have := g.lb; omega)).1
        have w0 := ok.w0
        have hgo := g.go h1
        rw [← ekn] at hgo
        unfold gotOn at h2
        rcases hgo with ⟨d1, d2⟩ | ⟨d1, d2, d3, d4⟩
        · rw [if_pos d1] at h2
          omega
        · rw [if_neg (by omega)] at h2
          refine ⟨by omega, by omega, by omega, ?_⟩
          rw [show s.beat + 1 - 1 = s.beat by omega]
          omega
  · -- go
    rw [eN]
    intro hc
    show (n.got < 0 ∧ n.got = s.beat + 1 - (s.begun.getD n.num.toNat 0 + c.wait)) ∨ (0 ≤ n.got ∧ s.begun.getD n.num.toNat 0 + c.wait ≤ s.beat + 1 ∧ n.got = cum c.z c.pieces (s.beat + 1) - cum c.z c.pieces (s.begun.getD n.num.toNat 0 + c.wait) ∧ n.got < c.size n.num n.coming)
    rcases hB with ⟨h1, h2, h3, h4, h5⟩ | ⟨h1, h2, h3, h4, h5, h6⟩ | ⟨h1, h2, h3, h4, h5, h6⟩
    · exact absurd h3 hc
    · rw [h3, h4, h5]
      unfold gotOn at h2 ⊢
      rcases g.go h1 with ⟨d1, d2⟩ | ⟨d1, d2, d3, d4⟩
      · rw [if_pos d1] at h2 ⊢
        by_cases hq : s.std.got + 1 < 0
        · left
          omega
        · right
          have e : s.begun.getD s.std.num.toNat 0 + c.wait = s.beat + 1 := by omega
          rw [e]
          omega
      · rw [if_neg (by omega)] at h2 ⊢
        right
        omega
    · exact absurd h4 hc
  · -- gw
    rw [eN]
    intro hc
    rcases hB with ⟨h1, h2, h3, h4, h5⟩ | ⟨h1, h2, h3, h4, h5, h6⟩ | ⟨h1, h2, h3, h4, h5, h6⟩
    · exact absurd h3 hc
    · rw [h5]
      have := g.gw h1
      unfold gotOn
      split <;> omega
    · exact absurd h4 hc
  · -- ke
    rw [eN]
    rcases hF with ⟨h, _, h2, _⟩ | ⟨h0, h, _, h2, _⟩
    · rw [h2, h, e1]
      omega
    · have q := (come_ok ok g h0).2.2.2.2.2
      rw [h2, h, e1, show (s.std.num + 1).toNat = s.std.num.toNat + 1 by omega, pre_succ (by omega)]
      have : c.len s.std.num = c.lens.getD s.std.num.toNat 0 := rfl
      omega
  · -- k0
    rw [eN]
    rcases hF with ⟨h, _, h2, _⟩ | ⟨h0, h, _, h2, _⟩
    · omega
    · obtain ⟨_, _, _, _, q4, q5⟩ := come_ok ok g h0
      have q := len_ge ok q4 q5
      have := g.kc h0
      omega
  · -- kc
    rw [eN]
    intro hc
    rcases hF with ⟨h, h1, h2, _⟩ | ⟨h0, h, h1, h2, _⟩
    · rw [h1] at hc
      have := g.kc hc
      rw [h, h2]
      omega
    · exact absurd h1 hc
  · -- p0
    rw [eN, e1]
    omega
  · -- lp
    rw [eN, e1, eP]
    rcases hplk with ⟨h, _⟩ | ⟨h, _⟩
    · rw [if_neg (by omega)]
      omega
    · rw [if_pos (by omega), List.length_append]
      simp
      omega
  · -- ps
    refine ⟨?_, fun x hx => ?_⟩
    · rw [eP]
      split
      · refine List.pairwise_append.mpr ⟨g.ps.1, List.pairwise_singleton _ _, fun a ha b hb => ?_⟩
        rw [List.mem_singleton.mp hb]
        exact (g.ps.2 a ha).2
      · exact g.ps.1
    · show 0 ≤ x ∧ x < s.beat + 1
      rcases memP x hx with h | ⟨h, _⟩
      · have := g.ps.2 x h
        omega
      · omega
  · -- pw
    intro k hk
    have hkl : (k : Int) < pre c.lens s.std.num.toNat := by
      rw [eP] at hk
      rcases hplk with ⟨h, _⟩ | ⟨h, h2, h3, _⟩
      · rw [if_neg (by omega)] at hk
        omega
      · rw [if_pos (by omega), List.length_append] at hk
        simp at hk
        omega
    rw [repB k hkl]
    by_cases hlt : k < s.plays.length
    · have e : (stepOn c s (c.speed s.beat)).plays.getD k 0 = s.plays.getD k 0 := by
        rw [eP]
        split
        · exact getD_lt hlt
        · rfl
      rw [e]
      exact g.pw k hlt
    · have e : (stepOn c s (c.speed s.beat)).plays.getD k 0 = s.beat := by
        rw [eP] at hk ⊢
        split
        · rename_i hq
          rw [if_pos hq, List.length_append] at hk
          simp at hk
          exact getD_eq (by omega)
        · rename_i hq
          rw [if_neg hq] at hk
          exact absurd hk hlt
      rw [e]
      exact hWl _ (rep_mem (getD_mem (by omega)))
  · -- g0
    rw [eN, e2]
    have := g.g0
    rcases hP with ⟨⟨_, _, h3⟩, _⟩ | ⟨⟨_, _, h3⟩, _⟩ | ⟨⟨_, _, h3⟩, _⟩ <;> omega
  · -- ga
    rw [eN, e1, e2, eS]
    intro hg
    rcases hP with ⟨⟨_, h2, h3⟩, _⟩ | ⟨⟨_, _, h3⟩, _⟩ | ⟨⟨_, _, h3⟩, _⟩
    · obtain ⟨z1, z2⟩ := g.ga (by omega)
      refine ⟨by omega, ?_⟩
      unfold stallsOn
      rw [if_neg (by omega), if_neg (by omega)]
      exact z2
    · omega
    · omega
  · -- gb
    rw [eN, e1, e2]
    intro hg
    rcases hP with ⟨⟨_, h2, h3⟩, _⟩ | ⟨⟨_, h2, h3⟩, _, h4⟩ | ⟨⟨_, h2, h3⟩, _⟩
    · have := g.gb (by omega)
      omega
    · have := g.gb (by omega)
      omega
    · omega
  · -- gp
    rw [eN, e2]
    intro hg
    show (stepOn c s (c.speed s.beat)).plays.getLast? = some (s.beat + 1 - 1)
    rcases hP with ⟨⟨_, h2, h3⟩, h4, _⟩ | ⟨⟨_, h2, h3⟩, _, h4⟩ | ⟨⟨_, h2, h3⟩, _⟩
    · omega
    · omega
    · rw [eP, if_pos (by omega), List.getLast?_concat, show s.beat + 1 - 1 = s.beat by omega]
  · -- ge
    rw [eN, e1, e2]
    intro hg
    rcases hP with ⟨⟨_, h2, h3⟩, h4, _⟩ | ⟨⟨_, h2, h3⟩, _, h4⟩ | ⟨⟨_, h2, h3⟩, _⟩
    · omega
    · omega
    · exact h3
  · -- st
    intro p1 hp1
    show p1 ≤ s.beat + 1 ∧ _ = silF _ p1 (s.beat + 1 - p1).toNat
    rw [eS]
    rcases hP with ⟨⟨_, h2, h3⟩, h4, _⟩ | ⟨⟨_, h2, h3⟩, _, h4⟩ | ⟨⟨_, h2, h3⟩, _⟩
    · -- waits
      rw [eP, if_neg (by omega)] at hp1 ⊢
      obtain ⟨a1, a2⟩ := g.st p1 hp1
      refine ⟨by omega, ?_⟩
      have hg2 : s.std.going = 2 := by
        have := g.g0
        rcases this with q | q | q
        · have z := noplays (g.ga q).1
          rw [z] at hp1
          cases hp1
        · exact absurd q h4
        · exact q
      obtain ⟨f, m, l1, l2⟩ := g.gs hg2
      have en : (s.beat + 1 - p1).toNat = (s.beat - p1).toNat + 1 := by omega
      rw [en]
      unfold stallsOn silF
      rw [if_neg (by omega), if_pos (by omega), if_neg h4, show p1 + ((s.beat - p1).toNat : Int) = s.beat by omega, if_neg nbP, ← a2]
      unfold bump addRow
      rw [l1]
      simp only
      rw [if_pos l2]
    · -- stalls
      rw [eP, if_neg (by omega)] at hp1 ⊢
      obtain ⟨a1, a2⟩ := g.st p1 hp1
      refine ⟨by omega, ?_⟩
      have en : (s.beat + 1 - p1).toNat = (s.beat - p1).toNat + 1 := by omega
      rw [en]
      unfold stallsOn silF
      rw [if_neg (by omega), if_pos (by omega), if_pos h4, show p1 + ((s.beat - p1).toNat : Int) = s.beat by omega, if_neg nbP, ← a2]
      unfold addRow
      cases hl : s.stalls.getLast? with
      | none => rfl
      | some r =>
        have := g.gr h4 r.1 r.2 hl
        simp only
        rw [if_neg (by omega)]
    · -- plays
      have eS2 : stallsOn s n = s.stalls := by
        unfold stallsOn
        rw [if_pos (by omega)]
      rw [eS2]
      rw [eP, if_pos (by omega)] at hp1 ⊢
      cases hpl : s.plays with
      | nil =>
        rw [hpl] at hp1
        have ep : s.beat = p1 := Option.some.inj hp1
        have z0 : s.std.played = 0 := by
          rw [hpl] at lp
          simp at lp
          omega
        rw [(g.ga (going0 z0)).2, ← ep, show (s.beat + 1 - s.beat).toNat = 0 + 1 by omega]
        refine ⟨by omega, ?_⟩
        unfold silF
        rw [if_pos (by simp)]
        rfl
      | cons a r =>
        rw [← hpl]
        have hh : s.plays.head? = some p1 := by
          rw [hpl] at hp1 ⊢
          exact hp1
        obtain ⟨a1, a2⟩ := g.st p1 hh
        refine ⟨by omega, ?_⟩
        have en : (s.beat + 1 - p1).toNat = (s.beat - p1).toNat + 1 := by omega
        rw [en]
        unfold silF
        rw [show p1 + ((s.beat - p1).toNat : Int) = s.beat by omega, if_pos (by simp), a2]
        refine silF_congr fun b hb => ?_
        have hb2 : b ≠ s.beat := by omega
        simp [hb2]
  · -- gs
    rw [eN, e2, eS]
    intro hg
    show ∃ f m, (stallsOn s n).getLast? = some (f, m) ∧ f + m = s.beat + 1
    rcases hP with ⟨⟨_, h2, h3⟩, h4, _⟩ | ⟨⟨_, h2, h3⟩, _, h4⟩ | ⟨⟨_, h2, h3⟩, _⟩
    · obtain ⟨f, m, l1, l2⟩ := g.gs (by omega)
      refine ⟨f, m + 1, ?_, by omega⟩
      unfold stallsOn
      rw [if_neg (by omega), if_pos (by omega), if_neg h4]
      unfold bump
      rw [l1]
      simp only
      rw [List.getLast?_concat]
    · refine ⟨s.beat, 1, ?_, by omega⟩
      unfold stallsOn
      rw [if_neg (by omega), if_pos (by omega), if_pos h4, List.getLast?_concat]
    · omega
  · -- gr
    rw [eN, e2, eS]
    intro hg f m hl
    show f + m < s.beat + 1
    rcases hP with ⟨⟨_, h2, h3⟩, h4, _⟩ | ⟨⟨_, h2, h3⟩, _, h4⟩ | ⟨⟨_, h2, h3⟩, _⟩
    · omega
    · omega
    · have eS2 : stallsOn s n = s.stalls := by
        unfold stallsOn
        rw [if_pos (by omega)]
      rw [eS2] at hl
      rcases g.g0 with q | q | q
      · rw [(g.ga q).2] at hl
        cases hl
      · have := g.gr q f m hl
        omega
      · obtain ⟨f', m', l1, l2⟩ := g.gs q
        rw [l1] at hl
        cases hl
        omega
  · -- gv
    intro r hr
    show 0 ≤ r.1 ∧ 0 ≤ r.2 ∧ r.1 ≤ s.beat + 1 ∧ r.2 ≤ s.beat + 1
    rw [eS] at hr
    have old : ∀ r ∈ s.stalls, 0 ≤ r.1 ∧ 0 ≤ r.2 ∧ r.1 ≤ s.beat + 1 ∧ r.2 ≤ s.beat + 1 := fun r hr => by
      have := g.gv r hr
      omega
    unfold stallsOn at hr
    split at hr
    · exact old r hr
    · split at hr
      · split at hr
        · rcases List.mem_append.mp hr with hr | hr
          · exact old r hr
          · rw [List.mem_singleton.mp hr]
            show 0 ≤ s.beat ∧ (0 : Int) ≤ 1 ∧ s.beat ≤ s.beat + 1 ∧ (1 : Int) ≤ s.beat + 1
            omega
        · unfold bump at hr
          cases hl : s.stalls.getLast? with
          | none =>
            rw [hl] at hr
            exact old r hr
          | some q =>
            rw [hl] at hr
            simp only at hr
            rcases List.mem_append.mp hr with hr | hr
            · exact old r ((List.dropLast_sublist _).subset hr)
            · rw [List.mem_singleton.mp hr]
              have := g.gv q (List.mem_of_getLast? hl)
              show 0 ≤ q.1 ∧ 0 ≤ q.2 + 1 ∧ q.1 ≤ s.beat + 1 ∧ q.2 + 1 ≤ s.beat + 1
              omega
      · exact old r hr
  · -- gl
    show ((stepOn c s (c.speed s.beat)).stalls.length : Int) ≤ s.beat + 1
    rw [eS]
    have := g.gl
    unfold stallsOn
    split
    · omega
    · split
      · split
        · rw [List.length_append]
          simp
          omega
        · unfold bump
          cases hl : s.stalls.getLast? with
          | none =>
            simp only
            omega
          | some q =>
            simp only
            rw [List.length_append, List.length_dropLast]
            simp
            omega
      · omega
  · -- lk
    show ((stepOn c s (c.speed s.beat)).kepts.length : Int) = s.beat + 1
    rw [eK, List.length_append]
    simp
    omega
  · -- kk
    intro b hb
    have hb : (b : Int) < s.beat + 1 := hb
    rw [eK]
    by_cases hlt : (b : Int) < s.beat
    · obtain ⟨a1, a2, a3⟩ := g.kk b hlt
      rw [getD_lt (by omega), last_snoc (by omega)]
      refine ⟨?_, a2, a3⟩
      have ec : comeF (stepOn c s (c.speed s.beat)).whole c.lens b = comeF s.whole c.lens b := by
        rcases hF with ⟨_, _, _, h⟩ | ⟨_, _, _, _, h⟩
        · rw [h]
        · rw [h, comeF_old (by omega)]
      have em : ((b : Int) ∈ (stepOn c s (c.speed s.beat)).plays) ↔ ((b : Int) ∈ s.plays) := ⟨fun h => (memP _ h).elim id fun z => by omega, subP _⟩
      rw [ec, a1]
      by_cases q : (b : Int) ∈ s.plays
      · rw [if_pos q, if_pos (em.mpr q)]
      · rw [if_neg q, if_neg fun z => q (em.mp z)]
    · have eb : (b : Int) = s.beat := by omega
      rw [getD_eq (by omega), last_snoc (by omega)]
      have hk2 : s.std.kept = last s.kepts b := by
        rw [g.kl, show s.beat.toNat = b by omega]
      have hin : ((b : Int) ∈ (stepOn c s (c.speed s.beat)).plays) ↔ pl = s.std.played + 1 := by
        constructor
        · intro h
          rcases memP _ h with h | ⟨_, h⟩
          · rw [eb] at h
            exact absurd h nbP
          · exact h
        · intro h
          rw [eP, if_pos (by omega), eb]
          simp
      have hbd : 0 ≤ n.kept ∧ n.kept ≤ c.most := by
        rcases hF with ⟨h, _, h2, _⟩ | ⟨h0, h, _, h2, _⟩
        · omega
        · obtain ⟨_, _, _, _, q4, q5⟩ := come_ok ok g h0
          have q := len_ge ok q4 q5
          have := g.kc h0
          omega
      refine ⟨?_, hbd.1, hbd.2⟩
      have hw : ∀ x ∈ s.whole, x - 1 ≠ (b : Int) := fun x hx => by
        have := hWl x hx
        omega
      have hi : (if (b : Int) ∈ (stepOn c s (c.speed s.beat)).plays then 1 else 0) = s.std.kept - kp := by
        rcases hplk with ⟨h, h2⟩ | ⟨h, h2, _⟩
        · rw [if_neg fun z => by have := hin.mp z; omega]
          omega
        · rw [if_pos (hin.mpr h)]
          omega
      rw [hi]
      rcases hF with ⟨_, _, h2, h⟩ | ⟨h0, _, _, h2, h⟩
      · rw [h, comeF_none hw]
        omega
      · have q := (come_ok ok g h0).2.2.2.2.2
        rw [h, ← eb, comeF_new hw (by omega), show s.whole.length = s.std.num.toNat by omega]
        have : c.len s.std.num = c.lens.getD s.std.num.toNat 0 := rfl
        omega
  · -- kl
    rw [eN, eK]
    show n.kept = last (s.kepts ++ [n.kept]) (s.beat + 1).toNat
    unfold last
    rw [if_neg (by omega), getD_eq (by omega)]
  · -- Phi
    unfold Phi
    rw [eN, e1]
    show max 0 (600 - (s.beat + 1)) + (c.total - pl) + 306 * ((c.lens.length : Int) - n.num) - (if n.coming = -1 then 0 else n.got + c.wait) + 1 ≤ max 0 (600 - s.beat) + (c.total - s.std.played) + 306 * ((c.lens.length : Int) - s.std.num) - (if s.std.coming = -1 then 0 else s.std.got + c.wait)
    have hlate := ok.late s.beat
    rcases hB with ⟨h1, h2, h3, h4, h5⟩ | ⟨h1, h2, h3, h4, h5, h6⟩ | ⟨h1, h2, h3, h4, h5, h6⟩
    · rw [if_pos h3, if_pos h1, h2]
      by_cases hb : s.beat < 600
      · omega
      · have hop : isOpen c s = true := by
          unfold isOpen
          cases ho : c.opens with
          | none => rfl
          | some os =>
            have := ok.op os ho s.std.num.toNat
            exact decide_eq_true (by omega)
        have hr : hasRoom c s.std = false := by
          cases e : hasRoom c s.std with
          | false => rfl
          | true =>
            have := na h1 e
            rw [hop] at this
            cases this
        have := plays_when ok g no h1 hr
        rw [hpo] at this
        simp only [Prod.mk.injEq] at this
        omega
    · rw [if_neg h1, if_neg (by rw [h4]; exact h1), h3, h5]
      unfold gotOn
      by_cases hb : s.beat < 600
      · split <;> omega
      · have := hlate (by omega)
        split <;> omega
    · rw [if_neg h1, if_pos h4, h3]
      obtain ⟨q0, q1, q2, q3, q4, q5⟩ := come_ok ok g h1
      have w0 := ok.w0
      have w1 := ok.w1
      rcases g.go h1 with ⟨d1, d2⟩ | ⟨d1, d2, d3, d4⟩ <;> omega
end
end RPm


set_option Elab.async false
set_option linter.all false
set_option maxHeartbeats 8000000
/-! The end of the walk in plain numbers. -/
namespace RPm
def iter (c : Cfg) : Nat → St
  | 0 => st0
  | n + 1 => step c (iter c n)
/-- s is reached, no end ahead of it -/
def Way (c : Cfg) (s : St) : Prop := ∃ n, s = iter c n ∧ ∀ m, m < n → over c (iter c m) = false
def Fin (c : Cfg) (t : St) : Prop := Way c t ∧ over c t = true
section
variable {c : Cfg} {wide : Int} {s t : St}
theorem way0 : Way c st0 := ⟨0, rfl, fun m h => absurd h (by omega)⟩
theorem Way.step (h : Way c s) (ho : over c s = false) : Way c (step c s) := by
  obtain ⟨n, e, h⟩ := h
  refine ⟨n + 1, by rw [e]; rfl, fun m hm => ?_⟩
  by_cases q : m < n
  · exact h m q
  · rw [show m = n by omega, ← e]
    exact ho
theorem Fin.uniq (h : Fin c s) (k : Fin c t) : s = t := by
  obtain ⟨⟨n, e, h1⟩, h2⟩ := h
  obtain ⟨⟨m, f, k1⟩, k2⟩ := k
  rcases Nat.lt_trichotomy n m with q | q | q
  · have := k1 n q
    rw [← e, h2] at this
    cases this
  · rw [e, f, q]
  · have := h1 m q
    rw [← f, k2] at this
    cases this
theorem phi_nn (ok : CfgOk c wide) (g : Good c s) : 0 ≤ Phi c s := by
  unfold Phi
  have n1 := g.n1
  have n0 := g.n0
  have hke := g.ke
  have hk0 := g.k0
  have ht : pre c.lens s.std.num.toNat ≤ c.total := by
    have h := pre_mono (fun x hx => (ok.lb x hx).1) (n := s.std.num.toNat) (c.lens.length - s.std.num.toNat) (by omega)
    rw [show s.std.num.toNat + (c.lens.length - s.std.num.toNat) = c.lens.length by omega, pre_all] at h
    have : c.total = c.lens.sum := rfl
    omega
  by_cases h : s.std.coming = -1
  · rw [if_pos h]
    omega
  · rw [if_neg h]
    obtain ⟨q0, q1, q2, q3, q4, q5⟩ := come_ok ok g h
    have w0 := ok.w0
    have w1 := ok.w1
    rcases g.go h with ⟨d1, d2⟩ | ⟨d1, d2, d3, d4⟩ <;> omega
theorem one_step (ok : CfgOk c wide) (g : Good c s) (no : over c s = false) : Good c (step c s) ∧ Phi c (step c s) + 1 ≤ Phi c s ∧ (step c s).beat = s.beat + 1 := by
  obtain ⟨g1, h1, h2, h3⟩ := choose_good ok g
  have no' : (chooseHere c s).std.played ≠ c.total := by
    rw [h3]
    exact of_decide_eq_false no
  have na : (chooseHere c s).std.coming = -1 → hasRoom c (chooseHere c s).std = true → isOpen c (chooseHere c s) = false := fun a b => by
    unfold chooseHere at a b ⊢
    by_cases ha : asks c s = true
    · rw [if_pos ha] at a
      have := (ok.pk (seenOf s)).1
      have a : c.pick (seenOf s) = -1 := a
      omega
    · rw [if_neg ha] at a b ⊢
      cases e : isOpen c s with
      | false => rfl
      | true =>
        exfalso
        apply ha
        unfold asks
        rw [b, e, decide_eq_true a]
        rfl
  have q := step_good ok g1 no' na
  unfold step
  rw [← h2]
  refine ⟨q.1, by rw [← h1]; exact q.2, rfl⟩
theorem phi0 (ok : CfgOk c wide) : Phi c st0 ≤ 4512 := by
  unfold Phi
  show max 0 (600 - 0) + (c.total - 0) + 306 * ((c.lens.length : Int) - 0) - (if (-1 : Int) = -1 then 0 else 0 + c.wait) ≤ 4512
  have l1 := ok.ln1
  have ht : c.total ≤ 20 * c.lens.length := by
    show c.lens.sum ≤ _
    have gen : ∀ l : List Int, (∀ x ∈ l, x ≤ 20) → l.sum ≤ 20 * l.length := fun l => by
      induction l with
      | nil => intro _; simp
      | cons a r ih =>
        intro h
        have h1 := h a List.mem_cons_self
        have h2 := ih fun x hx => h x (List.mem_cons_of_mem _ hx)
        rw [List.sum_cons, List.length_cons]
        omega
    exact gen _ fun x hx => (ok.lb x hx).2
  rw [if_pos rfl]
  omega
/-- what the end holds -/
structure Done (c : Cfg) (wide : Int) (t : St) : Prop where
  g : Good c t
  num : t.std.num = c.lens.length
  com : t.std.coming = -1
  lr : t.rates.length = c.lens.length
  lb : t.begun.length = c.lens.length
  lw : t.whole.length = c.lens.length
  ls : t.seens.length = c.lens.length
  pl : (t.plays.length : Int) = c.total
  rb : ∀ k, k < c.lens.length → 0 ≤ t.rates.getD k 0 ∧ t.rates.getD k 0 < wide
  gp : t.plays.getLast? = some (t.beat - 1)
  bb : t.beat ≤ 4512
theorem done_of (ok : CfgOk c wide) (g : Good c t) (ho : over c t = true) (hb : Phi c t + t.beat ≤ 4512) : Done c wide t := by
  have hp : t.std.played = c.total := of_decide_eq_true ho
  have n1 := g.n1
  have n0 := g.n0
  have hke := g.ke
  have hk0 := g.k0.1
  have hn : t.std.num = c.lens.length := by
    by_cases q : t.std.num = c.lens.length
    · exact q
    · exfalso
      have h := pre_mono (fun x hx => (ok.lb x hx).1) (n := t.std.num.toNat) (c.lens.length - t.std.num.toNat) (by omega)
      rw [show t.std.num.toNat + (c.lens.length - t.std.num.toNat) = c.lens.length by omega, pre_all] at h
      have : c.total = c.lens.sum := rfl
      omega
  have hc : t.std.coming = -1 := by
    by_cases q : t.std.coming = -1
    · exact q
    · have := (g.cm q).1
      omega
  have lr := g.lr
  rw [if_pos hc] at lr
  have lw := g.lw
  have lb := g.lb
  have ls := g.ls
  refine ⟨g, hn, hc, by omega, by omega, by omega, by omega, by rw [g.lp, hp], fun k hk => ?_, g.gp (g.ge hp), ?_⟩
  · rw [(g.ra k (by omega)).1]
    exact ok.pk _
  · have := phi_nn ok g
    omega
end
end RPm


set_option Elab.async false
set_option linter.all false
set_option maxHeartbeats 4000000
/-! Bounds of what is seen; what a beat may take for granted. -/
namespace RPm
def SlOk (s : St) : Prop := ∀ p, s.sl = some p → 0 ≤ p.1 ∧ p.1 < 100000 ∧ 0 ≤ p.2 ∧ p.2 < 100000
section
variable {c : Cfg} {wide : Int} {s : St}
theorem sl0 : SlOk st0 := fun p h => by cases h
theorem sl_choose (h : SlOk s) : SlOk (chooseHere c s) := by
  unfold chooseHere
  split
  · exact h
  · exact h
theorem getLastD_get : ∀ {l : List Int}, l ≠ [] → l.getLastD 0 = l.getD (l.length - 1) 0
  | [], h => absurd rfl h
  | a :: l, h => by
    rw [List.getD_eq_getElem?_getD, List.getElem?_eq_getElem (by simp)]
    simp [List.getLastD_eq_getLast?, List.getLast?_eq_getElem?]
theorem begun_ne (ok : CfgOk c wide) (g : Good c s) (h : s.std.coming ≠ -1) : s.begun ≠ [] ∧ (s.begun.length : Int) = s.std.num + 1 := by
  have lr := g.lr
  rw [if_neg h] at lr
  have lb := g.lb
  have n0 := g.n0
  refine ⟨fun z => ?_, by omega⟩
  rw [z] at lb
  simp at lb
  omega
theorem sl_step (ok : CfgOk c wide) (g : Good c s) (h : SlOk s) (hb : s.beat ≤ 5000) (v : Int) : SlOk (stepOn c s v) := by
  intro p hp
  have hp : (if (beatOn c s.std v).num > s.std.num then some (c.size s.std.num s.std.coming, s.beat + 1 - s.begun.getLastD 0) else s.sl) = some p := hp
  split at hp
  · rename_i hw
    obtain ⟨_, _, hB⟩ := beat3 (c := c) (s := s) v
    rcases hB with ⟨h1, h2, h3, h4, h5⟩ | ⟨h1, h2, h3, h4, h5, h6⟩ | ⟨h1, h2, h3, h4, h5, h6⟩
    · omega
    · omega
    · cases hp
      obtain ⟨q0, q1, q2, q3, q4, q5⟩ := come_ok ok g h1
      obtain ⟨ne, hl⟩ := begun_ne ok g h1
      rw [getLastD_get ne]
      have := g.be (s.begun.length - 1) (by omega)
      show 0 ≤ c.size s.std.num s.std.coming ∧ c.size s.std.num s.std.coming < 100000 ∧ 0 ≤ s.beat + 1 - s.begun.getD (s.begun.length - 1) 0 ∧ s.beat + 1 - s.begun.getD (s.begun.length - 1) 0 < 100000
      omega
  · exact h p hp
/-- a beat without a play that stalls on: rows stand -/
theorem rows_ne (ok : CfgOk c wide) (g : Good c s) (no : s.std.played ≠ c.total) (v : Int) (h1 : ¬ (beatOn c s.std v).played > s.std.played) (h2 : (beatOn c s.std v).going = 2) (h3 : s.std.going ≠ 1) : s.stalls ≠ [] := by
  obtain ⟨e1, e2, _⟩ := beat3 (c := c) (s := s) v
  rcases play3 ok g no with ⟨e, _, _⟩ | ⟨e, _, z⟩ | ⟨e, _⟩
  · rw [e] at e2
    have : s.std.going = 2 := by
      have e2 : (beatOn c s.std v).going = s.std.going := e2
      omega
    obtain ⟨f, m, l, _⟩ := g.gs this
    intro z
    rw [z] at l
    cases l
  · exact absurd z h3
  · rw [e] at e1
    have e1 : (beatOn c s.std v).played = s.std.played + 1 := e1
    omega
end
end RPm


set_option Elab.async false
set_option linter.all false
set_option maxHeartbeats 4000000
/-! More of the end; lists that rise. -/
namespace RPm
theorem inc_eq : ∀ {a b : List Int}, a.Pairwise (· < ·) → b.Pairwise (· < ·) → (∀ x, x ∈ a ↔ x ∈ b) → a = b
  | [], [], _, _, _ => rfl
  | [], y :: b, _, _, h => absurd ((h y).mpr List.mem_cons_self) (by simp)
  | x :: a, [], _, _, h => absurd ((h x).mp List.mem_cons_self) (by simp)
  | x :: a, y :: b, h1, h2, h => by
    obtain ⟨p1, q1⟩ := List.pairwise_cons.mp h1
    obtain ⟨p2, q2⟩ := List.pairwise_cons.mp h2
    have e : x = y := by
      rcases List.mem_cons.mp ((h x).mp List.mem_cons_self) with e | e
      · exact e
      · rcases List.mem_cons.mp ((h y).mpr List.mem_cons_self) with f | f
        · exact f.symm
        · have := p2 x e
          have := p1 y f
          omega
    subst e
    rw [inc_eq q1 q2 fun z => ?_]
    constructor
    · intro hz
      rcases List.mem_cons.mp ((h z).mp (List.mem_cons_of_mem _ hz)) with e | e
      · have := p1 z hz
        omega
      · exact e
    · intro hz
      rcases List.mem_cons.mp ((h z).mpr (List.mem_cons_of_mem _ hz)) with e | e
      · have := p2 z hz
        omega
      · exact e
section
variable {c : Cfg} {wide : Int} {s : St}
theorem whole_inc (ok : CfgOk c wide) (g : Good c s) : ∀ (k j : Nat), j < k → k < s.whole.length → s.whole.getD j 0 < s.whole.getD k 0
  | 0, j, h, _ => absurd h (by omega)
  | k + 1, j, h, hk => by
    have lr := g.lr
    have lb := g.lb
    have lw := g.lw
    have hl : k + 1 < s.begun.length := by
      by_cases q : s.std.coming = -1
      · rw [if_pos q] at lr
        omega
      · rw [if_neg q] at lr
        omega
    have b := (g.be (k + 1) hl).2.2.1
    have w := (g.wh (k + 1) hk).1.2.1
    have w0 := ok.w0
    have e : last s.whole (k + 1) = s.whole.getD k 0 := by
      unfold last
      rw [if_neg (by omega)]
      rfl
    rw [e] at b
    by_cases q : j = k
    · rw [q]
      omega
    · have := whole_inc ok g k j (by omega) (by omega)
      omega
theorem total_le (ok : CfgOk c wide) : c.total ≤ 240 := by
  have l1 := ok.ln1
  show c.lens.sum ≤ _
  have gen : ∀ l : List Int, (∀ x ∈ l, x ≤ 20) → l.sum ≤ 20 * l.length := fun l => by
    induction l with
    | nil => intro _; simp
    | cons a r ih =>
      intro h
      have h1 := h a List.mem_cons_self
      have h2 := ih fun x hx => h x (List.mem_cons_of_mem _ hx)
      rw [List.sum_cons, List.length_cons]
      omega
  have := gen _ fun x hx => (ok.lb x hx).2
  omega
theorem take_snoc {l : List Int} {i : Nat} (h : i < l.length) : l.take (i + 1) = l.take i ++ [l.getD i 0] := by
  rw [List.take_succ, List.getElem?_eq_getElem h, List.getD_eq_getElem?_getD, List.getElem?_eq_getElem h]
  rfl
theorem mem_take {l : List Int} {i : Nat} {x : Int} (h : x ∈ l.take i) : ∃ j, j < i ∧ j < l.length ∧ x = l.getD j 0 := by
  obtain ⟨j, hj, e⟩ := List.mem_iff_getElem.mp h
  rw [List.length_take] at hj
  rw [List.getElem_take] at e
  refine ⟨j, by omega, by omega, ?_⟩
  rw [List.getD_eq_getElem?_getD, List.getElem?_eq_getElem (by omega), ← e]
  rfl
theorem come_take (ok : CfgOk c wide) (g : Good c s) {i : Nat} (hi : i < s.whole.length) (hl : s.whole.length ≤ c.lens.length) (b : Int) :
    comeF (s.whole.take (i + 1)) c.lens b = if b = s.whole.getD i 0 - 1 then c.lens.getD i 0 else comeF (s.whole.take i) c.lens b := by
  rw [take_snoc hi]
  by_cases h : b = s.whole.getD i 0 - 1
  · rw [if_pos h]
    have e : s.whole.getD i 0 = b + 1 := by omega
    rw [e, comeF_new (fun x hx => ?_) (by rw [List.length_take]; omega), List.length_take, Nat.min_eq_left (by omega)]
    obtain ⟨j, h1, h2, rfl⟩ := mem_take hx
    have := whole_inc ok g i j h1 hi
    omega
  · rw [if_neg h, comeF_old (by omega)]
theorem rep_take {i : Nat} {ws ls : List Int} (h : i < ws.length) (hl : i < ls.length) : rep (ws.take (i + 1)) ls = rep (ws.take i) ls ++ List.replicate (ls.getD i 0).toNat (ws.getD i 0) := by
  rw [take_snoc h, rep_snoc (by rw [List.length_take]; omega), List.length_take, Nat.min_eq_left (by omega)]
theorem pre_le (ok : CfgOk c wide) {i : Nat} (h : i ≤ c.lens.length) : pre c.lens i ≤ c.total := by
  have h := pre_mono (fun x hx => (ok.lb x hx).1) (n := i) (c.lens.length - i) (by omega)
  rw [show i + (c.lens.length - i) = c.lens.length by omega, pre_all] at h
  have : c.total = c.lens.sum := rfl
  omega
end
end RPm


set_option Elab.async false
set_option linter.all false
set_option maxRecDepth 100000
set_option maxHeartbeats 4000000
/-! The stands. -/
namespace K76
open PySem PySem.Spec PyProof.Rows L2 LamX NdefX
open RPm (Cfg Std)
theorem cr_lenM {X : Cx} {k j : Nat} {C : Addr} {sp : Sp} (c : Met X.prog X.w X.K X.mg X.base k C "__len__" sp) (hr : Room j X.A) (hk : k + 1 ≤ j) : CallR X (.builtin "len") (rLenO C sp E0) := by
  obtain ⟨f, fd, ps, hc, hm, F, b⟩ := c.ex
  exact cr_lenO hm F (hr.mono hk) b pass00
def stdV (s : Std) : List V := [.int s.num, .int s.coming, .int s.got, .int s.kept, .int s.played, .int s.going]
def CfgT (K : PySem.W.Frag) (H : Hp) (t : Addr) (c : Cfg) : Prop := TalkAt K H t c.lens c.sizes ∧ c.lens.length ≤ 12 ∧ c.sizes.length = c.lens.length ∧ 0 ≤ c.total ∧ c.total ≤ 100000
theorem CfgT.kp {K : PySem.W.Frag} {S : List Addr} {H H' : Hp} {t : Addr} {c : Cfg} (h : CfgT K H t c) (k : KpN S H H') (hS : t ∉ S) : CfgT K H' t c := ⟨h.1.kp k hS, h.2⟩
def spIsOver (K : PySem.W.Frag) : Sp := fun vs H Q _ => ∃ (t st : Addr) (c : Cfg) (s : Std), vs = [.ref t, .ref st] ∧ CfgT K H t c ∧ SqT K H st (stdV s) ∧ ∀ H', Kp [] H H' → Q (.bl (decide (s.played = c.total))) H'
def spHasRoom (K : PySem.W.Frag) : Sp := fun vs H Q _ => ∃ (t st : Addr) (c : Cfg) (s : Std), vs = [.ref t, .ref st, .int c.most] ∧ CfgT K H t c ∧ SqT K H st (stdV s) ∧ 0 ≤ s.num ∧ ∀ H', Kp [] H H' → Q (.bl (RPm.hasRoom c s)) H'
def spBegins (K : PySem.W.Frag) : Sp := fun vs H Q _ => ∃ (t st : Addr) (c : Cfg) (s : Std), vs = [.ref t, .ref st, .int c.begin_, .int c.again, .int c.most] ∧ CfgT K H t c ∧ SqT K H st (stdV s) ∧ 0 ≤ s.num ∧ (s.going = 0 ∨ s.going = 2) ∧ ∀ H', Kp [] H H' → Q (.bl (RPm.begins c s)) H'
def spPlayedOn (K : PySem.W.Frag) : Sp := fun vs H Q _ => ∃ (t st : Addr) (c : Cfg) (s : Std), vs = [.ref t, .ref st, .int c.begin_, .int c.again, .int c.most] ∧ CfgT K H t c ∧ SqT K H st (stdV s) ∧ 0 ≤ s.num ∧ (s.going = 0 ∨ s.going = 1 ∨ s.going = 2) ∧
  ∀ q H', SqT K H' q [.int (RPm.playedOn c s).1, .int (RPm.playedOn c s).2.1, .int (RPm.playedOn c s).2.2] → Kp [] H H' → Q (.ref q) H'
def spBeatOn (K : PySem.W.Frag) : Sp := fun vs H Q _ => ∃ (t st : Addr) (c : Cfg) (s : Std) (v : Int), vs = [.ref t, .ref st, .int v, .int c.begin_, .int c.again, .int c.most] ∧ CfgT K H t c ∧ SqT K H st (stdV s) ∧ 0 ≤ s.num ∧ (s.going = 0 ∨ s.going = 1 ∨ s.going = 2) ∧
  (s.coming ≠ -1 → s.num < c.lens.length ∧ 0 ≤ s.coming ∧ s.coming < (c.sizes.getD s.num.toNat []).length) ∧ ∀ q H', SqT K H' q (stdV (RPm.beatOn c s v)) → Kp [] H H' → Q (.ref q) H'
def spChosen (K : PySem.W.Frag) : Sp := fun vs H Q _ => ∃ (st : Addr) (s : Std) (r w : Int), vs = [.ref st, .int r, .int w] ∧ SqT K H st (stdV s) ∧ ∀ q H', SqT K H' q (stdV ⟨s.num, r, 0 - w, s.kept, s.played, s.going⟩) → Kp [] H H' → Q (.ref q) H'
def spLook (K : PySem.W.Frag) : Sp := fun vs H Q _ => ∃ (t : Addr) (c : Cfg), vs = [.ref t, .int c.most] ∧ CfgT K H t c ∧ (∀ x ∈ c.lens, x ≤ c.most) ∧ ∀ H', Kp [] H H' → Q .non H'
theorem b2 {p : Prop} [Decidable p] : decide p = true ↔ p := decide_eq_true_iff
section
variable {P : Program} {w : World} {K : PySem.W.Frag} {mg : Str → Option Value} {base : Heap}
theorem c_is_over (T : Tx K mg) : Cal P w K mg base 3 "is_over" (spIsOver K) := by
  have cL : Met P w K mg base 1 (cTalk K) "__len__" (spTalkLen K) := c_Talk_len T
  refine mk_is_over T (fun vs H Q E h => ?_) (fun cdv A outer s H vs Q E hr h => ?_)
  · obtain ⟨t, st, c, sd, rfl, _⟩ := h
    rfl
  · obtain ⟨t, st, c, sd, rfl, hT, hs, k⟩ := h
    refine ⟨_, (pss_one (ps_ret (pe_cmpR op_eq (pe_ix ix_tup (pv 1) pe_int (fun _ _ => rfl)) (pe_callB (cr_lenM cL hr (by decide)) rfl T.f_len (by decide +kernel) (pa_cons (pv 0) pa_nil)) (nomark _)))), ?_⟩
    obtain ⟨dx, tl, ts, h1, h2, h3⟩ := hT.1
    refine ⟨_, rfl, st, _, _, _, rfl, rfl, hs, at_nat (by decide) rfl, _, rfl, t, dx, _, rfl, h1, t, c.lens, c.sizes, rfl, hT.1, hT.2.2.2.1, ?_, fun H' k1 => ⟨c.lens.sum, rfl, hT.2.2.2.1, ?_, rfl, ?_⟩⟩
    · have := hT.2.2.2.2
      show c.total < _
      omega
    · have := hT.2.2.2.2
      show c.total < _
      omega
    · have e : decide (V.int sd.played = V.int c.lens.sum) = decide (sd.played = c.total) := by
        show decide (V.int sd.played = V.int c.total) = _
        rw [dec_int, Bool.beq_eq_decide_eq]
      show Q (.bl (decide (V.int sd.played = V.int c.lens.sum))) H'
      rw [e]
      exact k H' k1
theorem c_has_room (T : Tx K mg) : Cal P w K mg base 1 "has_room" (spHasRoom K) := by
  refine mk_has_room T (fun vs H Q E h => ?_) (fun cdv A outer s H vs Q E hr h => ?_)
  · obtain ⟨t, st, c, sd, rfl, _⟩ := h
    rfl
  · obtain ⟨t, st, c, sd, rfl, hT, hs, hn, k⟩ := h
    obtain ⟨dx, tl, ts, h1, h2, h3⟩ := hT.1
    refine ⟨_, (pss_cons (ps_asg (pv 1) (pg_star rfl (pgs_cons (pg_name (i := 3) sc_has_room.nd rfl (Or.inl rfl)) (pgs_cons (pg_name (i := 4) sc_has_room.nd rfl (Or.inl rfl)) (pgs_cons (pg_name (i := 5) sc_has_room.nd rfl (Or.inl rfl)) (pgs_cons (pg_name (i := 6) sc_has_room.nd rfl (Or.inl rfl)) (pgs_star (pg_name (i := 7) sc_has_room.nd rfl (Or.inl rfl)))))))))
      (pss_one (ps_ret (pe_and (pe_cmpR op_lt (pv 3) (pe_callB call_len_seq rfl T.f_len (by decide +kernel) (pa_cons (pe_fld (pv 0) rfl) pa_nil)) (nomark _)) (pe_one (pe_cmpR op_le (pe_op op_add (pv 6) (pe_ix ix_tup (pe_fld (pv 0) rfl) (pv 3) (fun _ _ => rfl))) (pv 2) (nomark _))))))), ?_⟩
    refine ⟨_, rfl, st, _, rfl, hs, (by show 4 ≤ 6; decide), (by show 6 ≤ 16384; decide), fun p hp => ⟨_, _, rfl, _, _, rfl, _, _, rfl, _, _, rfl, _, _, rfl, rfl, ?_⟩⟩
    have kk : Kp [] H (upd H p (.lst [.int sd.played, .int sd.going])) := Kp.refl.new hp
    have h1' := kk.ins (by simp) h1
    have h2' := kk.tup h2
    refine ⟨_, rfl, _, rfl, t, _, _, _, _, rfl, h1', T.cl_Talk, T.n_Talk_lengths, lookF (i := 0) nd_Talk rfl rfl, tl, _, rfl, .inr h2', _, _, rfl, rfl, _, rfl, ?_⟩
    rw [List.length_map]
    by_cases hq : sd.num < (c.lens.length : Int)
    · rw [decide_eq_true hq]
      refine iteT ?_
      refine ⟨_, rfl, _, rfl, t, _, _, _, _, rfl, h1', T.cl_Talk, T.n_Talk_lengths, lookF (i := 0) nd_Talk rfl rfl, _, rfl, tl, _, _, _, rfl, rfl, h2', at_int hn hq, _, _, rfl, rfl, _, rfl, _, _, rfl, rfl, ?_⟩
      have e : RPm.hasRoom c sd = decide (sd.kept + c.lens.getD sd.num.toNat 0 ≤ c.most) := by
        unfold RPm.hasRoom
        rw [decide_eq_true hq]
        rfl
      have := k _ kk
      rw [e] at this
      exact this
    · rw [decide_eq_false hq]
      refine iteF ?_
      have e : RPm.hasRoom c sd = false := by
        unfold RPm.hasRoom
        rw [decide_eq_false hq]
        rfl
      have := k _ kk
      rw [e] at this
      exact this
theorem c_chosen (T : Tx K mg) : ∃ fd, FnP K "chosen" "chosen" s_chosen [("wait", V.int 0)] (He.ga K "chosen") fd ∧ FnOk P w K mg base CX0 1 (He.ga K "chosen") fd ["stand", "rate", "wait"] (spChosen K) := by
  refine mk_chosen T (fun vs H Q E h => ?_) (fun cdv A outer s H vs Q E hr h => ?_)
  · obtain ⟨st, sd, r, wt, rfl, _⟩ := h
    rfl
  · obtain ⟨st, sd, r, wt, rfl, hs, k⟩ := h
    refine ⟨_, (pss_cons (ps_asg (pv 0) (pg_star rfl (pgs_cons (pg_name (i := 3) sc_chosen.nd rfl (Or.inl rfl)) (pgs_cons (pg_name (i := 4) sc_chosen.nd rfl (Or.inl rfl)) (pgs_cons (pg_name (i := 5) sc_chosen.nd rfl (Or.inl rfl)) (pgs_star (pg_name (i := 6) sc_chosen.nd rfl (Or.inl rfl))))))))
      (pss_one (ps_ret (pe_op op_catT (pe_tup (pa_cons (pv 3) (pa_cons (pv 1) (pa_cons (pe_op op_sub pe_int (pv 2)) pa_nil)))) (pe_callTy call_tuple_of rfl T.f_tuple (by decide +kernel) (pa_cons (pv 6) pa_nil)))))), ?_⟩
    refine ⟨_, rfl, st, _, rfl, hs, (by show 3 ≤ 6; decide), (by show 6 ≤ 16384; decide), fun p hp => ⟨_, _, rfl, _, _, rfl, _, _, rfl, _, _, rfl, rfl, ?_⟩⟩
    refine ⟨_, rfl, _, rfl, _, rfl, _, _, rfl, rfl, (by show 3 ≤ sizeLine; decide), fun q hq => ?_⟩
    refine ⟨_, rfl, p, _, rfl, .inl ⟨SqL.of (by rw [upd_ne (ne_of_none upd_same hq)]; exact upd_same), fun u hu => ?_⟩⟩
    refine ⟨q, u, _, _, rfl, rfl, SqT.of (by rw [upd_ne (ne_of_none upd_same hu)]; exact upd_same), SqT.of upd_same, by simp, (by show 3 + 3 ≤ sizeLine; decide), fun z => (by cases z), fun _ z hz => ?_⟩
    exact k z _ (SqT.of upd_same) ((((Kp.refl.new hp).trans (Kp.refl.new hq)).trans (Kp.refl.new hu)).trans (Kp.refl.new hz))
theorem c_begins (T : Tx K mg) : Cal P w K mg base 2 "begins" (spBegins K) := by
  have c_has_room : Cal P w K mg base 1 "has_room" (spHasRoom K) := c_has_room T
  refine mk_begins T (fun vs H Q E h => ?_) (fun cdv A outer s H vs Q E hr h => ?_)
  · obtain ⟨t, st, c, sd, rfl, _⟩ := h
    rfl
  · obtain ⟨t, st, c, sd, rfl, hT, hs, hn, hg, k⟩ := h
    obtain ⟨dx, tl, ts, h1, h2, h3⟩ := hT.1
    have hu := hu_of hr
    refine ⟨_, (pss_cons (ps_asg (pv 1) (pg_tup rfl (pgs_cons (pg_name (i := 5) sc_begins.nd rfl (Or.inl rfl)) (pgs_cons (pg_name (i := 6) sc_begins.nd rfl (Or.inl rfl)) (pgs_cons (pg_name (i := 7) sc_begins.nd rfl (Or.inl rfl)) (pgs_cons (pg_name (i := 8) sc_begins.nd rfl (Or.inl rfl)) (pgs_cons (pg_name (i := 9) sc_begins.nd rfl (Or.inl rfl)) (pgs_cons (pg_name (i := 10) sc_begins.nd rfl (Or.inl rfl)) pgs_nil))))))))
    (pss_cons (ps_if (PW.pt (pw_or (pt_cmpR op_ge (pv 8) (pe_dget hu (pe_disp (pps_cons (C8.pe_gc rfl T.i_AHEAD) (pv 2) (pps_cons (C8.pe_gc rfl T.i_STALLS) (pv 3) pps_nil)) (by rfl) (by rfl) (fun z => by cases z) (by decide)) (pv 10) (fun _ _ => rfl)) (nomark _)) (pw_or1 (pt_cmpR op_eq (pv 5) (pe_callB call_len_seq rfl T.f_len (by decide +kernel) (pa_cons (pe_fld (pv 0) rfl) pa_nil)) (nomark _))))) (pss_one (ps_ret pe_bl)) pss_nil)
    (pss_one (ps_ret (pe_and (pe_cmpR op_eq (pv 6) (C8.pe_gc rfl T.i_NONE) (nomark _)) (pe_one (pe_not (pe_c c_has_room hr (by decide) rfl (pa_cons (pv 0) (pa_cons (pv 1) (pa_cons (pv 4) pa_nil))))))))))), ?_⟩
    refine ⟨_, rfl, st, _, rfl, hs, rfl, _, _, rfl, _, _, rfl, _, _, rfl, _, _, rfl, _, _, rfl, _, _, rfl, rfl, ?_⟩
    refine ⟨_, rfl, fun p hp => ⟨_, rfl, _, rfl, upd_same, [(.inl 0, .int c.begin_), (.inl 2, .int c.again)], rfl, (by show 2 ≤ 15; decide), ?_⟩⟩
    have kk : Kp [] H (upd (upd H p (.dK [])) p (.dK (mergeK [] [(.inl 0, .int c.begin_), (.inl 2, .int c.again)]))) := (Kp.refl.new hp).new hp
    have h1' := kk.ins (by simp) h1
    have h2' := kk.tup h2
    refine ⟨_, rfl, p, .int (if sd.going = 0 then c.begin_ else c.again), rfl, ?_, _, _, rfl, rfl, _, rfl, ?_⟩
    · have e : valV (mergeK [] [(Sum.inl 0, V.int c.begin_), (Sum.inl 2, V.int c.again)]) (.inl sd.going) = some (.int (if sd.going = 0 then c.begin_ else c.again)) := by
        rcases hg with hg | hg
        · rw [hg, if_pos rfl]
          rfl
        · rw [hg, if_neg (by decide)]
          rfl
      rw [← e]
      exact DGet.k (k := .inl sd.going) upd_same
    · have eB : RPm.begins c sd = (decide (sd.kept ≥ (if sd.going = 0 then c.begin_ else c.again)) || decide (sd.num = c.lens.length) || (decide (sd.coming = -1) && !RPm.hasRoom c sd)) := rfl
      refine ite2 (fun h => ?_) fun h => ?_
      · refine iteT ?_
        have := k _ kk
        rw [eB, h] at this
        exact this
      · have hf : decide (sd.kept ≥ (if sd.going = 0 then c.begin_ else c.again)) = false := by
          cases e : decide (sd.kept ≥ (if sd.going = 0 then c.begin_ else c.again)) with
          | false => rfl
          | true => exact absurd e h
        refine ⟨_, rfl, _, rfl, t, _, _, _, _, rfl, h1', T.cl_Talk, T.n_Talk_lengths, lookF (i := 0) nd_Talk rfl rfl, tl, _, rfl, .inr h2', rfl, _, rfl, ?_⟩
        rw [List.length_map, dec_int, Bool.beq_eq_decide_eq]
        refine ite2 (fun h => ?_) fun h => ?_
        · have := k _ kk
          rw [eB, h, Bool.or_true, Bool.true_or] at this
          exact this
        · have hf2 : decide (sd.num = c.lens.length) = false := by
            cases e : decide (sd.num = (c.lens.length : Int)) with
            | false => rfl
            | true => exact absurd e h
          refine ⟨_, rfl, rfl, _, rfl, ?_⟩
          rw [dec_int, Bool.beq_eq_decide_eq]
          rw [hf, hf2, Bool.false_or, Bool.false_or] at eB
          refine ite2 (fun h => ?_) fun h => ?_
          · refine ⟨_, rfl, _, rfl, _, rfl, t, st, c, sd, rfl, hT.kp kk.toN (by simp), kk.tup hs, hn, fun H' k1 => ⟨_, rfl, ?_⟩⟩
            have := k _ (kk.trans k1)
            rw [eB, h] at this
            exact this
          · have := k _ kk
            rw [eB] at this
            cases e : decide (sd.coming = -1) with
            | true => exact absurd e h
            | false =>
              rw [e] at this
              exact this
theorem c_played_on (T : Tx K mg) : Cal P w K mg base 3 "played_on" (spPlayedOn K) := by
  have c_begins : Cal P w K mg base 2 "begins" (spBegins K) := c_begins T
  refine mk_played_on T (fun vs H Q E h => ?_) (fun cdv A outer s H vs Q E hr h => ?_)
  · obtain ⟨t, st, c, sd, rfl, _⟩ := h
    rfl
  · obtain ⟨t, st, c, sd, rfl, hT, hs, hn, hg, k⟩ := h
    refine ⟨_, (pss_cons (ps_asg (pv 1) (pg_tup rfl (pgs_cons (pg_name (i := 5) sc_played_on.nd rfl (Or.inl rfl)) (pgs_cons (pg_name (i := 6) sc_played_on.nd rfl (Or.inl rfl)) (pgs_cons (pg_name (i := 7) sc_played_on.nd rfl (Or.inl rfl)) (pgs_cons (pg_name (i := 8) sc_played_on.nd rfl (Or.inl rfl)) (pgs_cons (pg_name (i := 9) sc_played_on.nd rfl (Or.inl rfl)) (pgs_cons (pg_name (i := 10) sc_played_on.nd rfl (Or.inl rfl)) pgs_nil))))))))
    (pss_cons (ps_if (PW.pt (pw_and (pt_cmpR op_ne (pv 10) (C8.pe_gc rfl T.i_PLAYS) (nomark _)) (pw_and1 (pt_not (pt_val (pe_c c_begins hr (by decide) rfl (pa_cons (pv 0) (pa_cons (pv 1) (pa_cons (pv 2) (pa_cons (pv 3) (pa_cons (pv 4) pa_nil))))))))))) (pss_one (ps_ret (pe_tup (pa_cons (pv 8) (pa_cons (pv 9) (pa_cons (pv 10) pa_nil)))))) pss_nil)
    (pss_cons (ps_if (pt_cmpR op_eq (pv 8) pe_int (nomark _)) (pss_one (ps_ret (pe_tup (pa_cons (pv 8) (pa_cons (pv 9) (pa_cons (C8.pe_gc rfl T.i_STALLS) pa_nil)))))) pss_nil)
    (pss_one (ps_ret (pe_tup (pa_cons (pe_op op_sub (pv 8) pe_int) (pa_cons (pe_op op_add (pv 9) pe_int) (pa_cons (C8.pe_gc rfl T.i_PLAYS) pa_nil))))))))), ?_⟩
    refine ⟨_, rfl, st, _, rfl, hs, rfl, _, _, rfl, _, _, rfl, _, _, rfl, _, _, rfl, _, _, rfl, _, _, rfl, rfl, ?_⟩
    have fin : ∀ H1, Kp [] H H1 → ¬ (sd.going ≠ 1 ∧ RPm.begins c sd = false) → (tSeq (tIfS (tTest (tOp rEq (tVar 8) (tC (.int 0)))) (tRet (tTup (tCons (tVar 8) (tCons (tVar 9) (tCons (tC (.int 2)) tNil))))) tNext) (tRet (tTup (tCons (tOp (rI0 fun i j => V.int (i - j)) (tVar 8) (tC (.int 1))) (tCons (tOp (rI0 fun i j => V.int (i + j)) (tVar 9) (tC (.int 1))) (tCons (tC (.int 1)) tNil)))))) { nx := fun _ H' => Q .non H', rt := Q } [some (.ref t), some (.ref st), some (.int c.begin_), some (.int c.again), some (.int c.most), some (.int sd.num), some (.int sd.coming), some (.int sd.got), some (.int sd.kept), some (.int sd.played), some (.int sd.going)] H1 := fun H1 k1 hb => by
      refine ⟨_, rfl, rfl, _, rfl, ?_⟩
      rw [dec_int, Bool.beq_eq_decide_eq]
      refine ite2 (fun h => ?_) fun h => ?_
      · have h := of_decide_eq_true h
        refine ⟨_, rfl, _, rfl, (by show 3 ≤ sizeLine; decide), fun q hq => k q _ ?_ (k1.trans (Kp.refl.new hq))⟩
        have e : RPm.playedOn c sd = (sd.kept, sd.played, 2) := by
          unfold RPm.playedOn
          rw [if_neg hb, if_pos h]
        rw [e]
        exact SqT.of upd_same
      · have h : ¬ sd.kept = 0 := fun z => h (decide_eq_true z)
        refine ⟨_, rfl, _, _, rfl, rfl, _, rfl, _, _, rfl, rfl, (by show 3 ≤ sizeLine; decide), fun q hq => k q _ ?_ (k1.trans (Kp.refl.new hq))⟩
        have e : RPm.playedOn c sd = (sd.kept - 1, sd.played + 1, 1) := by
          unfold RPm.playedOn
          rw [if_neg hb, if_neg h]
        rw [e]
        exact SqT.of upd_same
    refine ⟨_, rfl, rfl, _, rfl, ?_⟩
    rw [dec_int, Bool.beq_eq_decide_eq]
    by_cases hg1 : sd.going = 1
    · rw [decide_eq_true hg1]
      refine iteF (iteF ?_)
      exact fin H Kp.refl fun z => z.1 hg1
    · rw [decide_eq_false hg1]
      refine iteT ?_
      refine ⟨_, rfl, _, rfl, _, rfl, _, rfl, _, rfl, t, st, c, sd, rfl, hT, hs, hn, by omega, fun H' k1 => ⟨_, rfl, ?_⟩⟩
      cases hb : RPm.begins c sd with
      | true =>
        refine iteF ?_
        exact fin H' k1 fun z => by
          have := z.2
          rw [hb] at this
          cases this
      | false =>
        refine iteT ?_
        refine ⟨_, rfl, _, rfl, _, rfl, (by show 3 ≤ sizeLine; decide), fun q hq => k q _ ?_ (k1.trans (Kp.refl.new hq))⟩
        have e : RPm.playedOn c sd = (sd.kept, sd.played, sd.going) := by
          unfold RPm.playedOn
          rw [if_pos ⟨hg1, hb⟩]
        rw [e]
        exact SqT.of upd_same
theorem c_beat_on (T : Tx K mg) : Cal P w K mg base 4 "beat_on" (spBeatOn K) := by
  have c_played_on : Cal P w K mg base 3 "played_on" (spPlayedOn K) := c_played_on T
  refine mk_beat_on T (fun vs H Q E h => ?_) (fun cdv A outer s H vs Q E hr h => ?_)
  · obtain ⟨t, st, c, sd, v, rfl, _⟩ := h
    rfl
  · obtain ⟨t, st, c, sd, v, rfl, hT, hs, hn, hg, hc, k⟩ := h
    refine ⟨_, (pss_cons (ps_asg (pv 1) (pg_star rfl (pgs_cons (pg_name (i := 6) sc_beat_on.nd rfl (Or.inl rfl)) (pgs_cons (pg_name (i := 7) sc_beat_on.nd rfl (Or.inl rfl)) (pgs_cons (pg_name (i := 8) sc_beat_on.nd rfl (Or.inl rfl)) (pgs_star (pg_name (i := 9) sc_beat_on.nd rfl (Or.inl rfl))))))))
    (pss_cons (ps_asg (pe_c c_played_on hr (by decide) rfl (pa_cons (pv 0) (pa_cons (pv 1) (pa_cons (pv 3) (pa_cons (pv 4) (pa_cons (pv 5) pa_nil)))))) (pg_tup rfl (pgs_cons (pg_name (i := 10) sc_beat_on.nd rfl (Or.inl rfl)) (pgs_cons (pg_name (i := 11) sc_beat_on.nd rfl (Or.inl rfl)) (pgs_cons (pg_name (i := 12) sc_beat_on.nd rfl (Or.inl rfl)) pgs_nil)))))
    (pss_cons (ps_if (pt_cmpR op_eq (pv 7) (C8.pe_gc rfl T.i_NONE) (nomark _)) (pss_one (ps_ret (pe_tup (pa_cons (pv 6) (pa_cons (pv 7) (pa_cons (pv 8) (pa_cons (pv 10) (pa_cons (pv 11) (pa_cons (pv 12) pa_nil))))))))) pss_nil)
    (C8.pss_cut (ps_aug (i := 8) sc_beat_on.nd rfl (Or.inl rfl) (pe_ifExp (pt_cmpR op_lt (pv 8) pe_int (nomark _)) pe_int (pv 2)) ip_add)
    (pss_cons (ps_if (pt_cmpR op_lt (pv 8) (pe_ix ix_tup (pe_ix ix_tup (pe_fld (pv 0) rfl) (pv 6) (fun _ _ => rfl)) (pv 7) (fun _ _ => rfl)) (nomark _)) (pss_one (ps_ret (pe_tup (pa_cons (pv 6) (pa_cons (pv 7) (pa_cons (pv 8) (pa_cons (pv 10) (pa_cons (pv 11) (pa_cons (pv 12) pa_nil))))))))) pss_nil)
    (pss_one (ps_ret (pe_tup (pa_cons (pe_op op_add (pv 6) pe_int) (pa_cons (C8.pe_gc rfl T.i_NONE) (pa_cons pe_int (pa_cons (pe_op op_add (pv 10) (pe_ix ix_tup (pe_fld (pv 0) rfl) (pv 6) (fun _ _ => rfl))) (pa_cons (pv 11) (pa_cons (pv 12) pa_nil)))))))))))))), ?_⟩
    refine ⟨_, rfl, st, _, rfl, hs, (by show 3 ≤ 6; decide), (by show 6 ≤ 16384; decide), fun p hp => ⟨_, _, rfl, _, _, rfl, _, _, rfl, _, _, rfl, rfl, ?_⟩⟩
    have k0 : Kp [] H (upd H p (.lst [.int sd.kept, .int sd.played, .int sd.going])) := Kp.refl.new hp
    refine ⟨_, rfl, _, rfl, _, rfl, _, rfl, _, rfl, t, st, c, sd, rfl, hT.kp k0.toN (by simp), k0.tup hs, hn, hg, fun q H1 hq k1 => ?_⟩
    have k2 := k0.trans k1
    refine ⟨q, _, rfl, hq, rfl, _, _, rfl, _, _, rfl, _, _, rfl, rfl, ?_⟩
    refine ⟨_, rfl, rfl, _, rfl, ?_⟩
    rw [dec_int, Bool.beq_eq_decide_eq]
    refine ite2 (fun h => ?_) fun h => ?_
    · have h := of_decide_eq_true h
      refine ⟨_, rfl, _, rfl, _, rfl, _, rfl, _, rfl, _, rfl, (by show 6 ≤ sizeLine; decide), fun r hr => k r _ ?_ (k2.trans (Kp.refl.new hr))⟩
      have e : RPm.beatOn c sd v = ⟨sd.num, sd.coming, sd.got, (RPm.playedOn c sd).1, (RPm.playedOn c sd).2.1, (RPm.playedOn c sd).2.2⟩ := by
        unfold RPm.beatOn
        rw [if_pos h]
      rw [e]
      exact SqT.of upd_same
    · have h : ¬ sd.coming = -1 := fun z => h (decide_eq_true z)
      obtain ⟨c1, c2, c3⟩ := hc h
      obtain ⟨dx, tl, ts, h1, h2, h3⟩ := hT.1
      obtain ⟨as, g1, g2, g3⟩ := h3.at_
      have hz : c.sizes[sd.num.toNat]? = some (c.sizes.getD sd.num.toNat []) := by
        have hlt : sd.num.toNat < c.sizes.length := by
          have := hT.2.2.1
          omega
        rw [List.getD_eq_getElem?_getD, List.getElem?_eq_getElem hlt]
        rfl
      obtain ⟨ra, e1, e2⟩ := g3 _ _ hz
      have h1' := k2.ins (by simp) h1
      refine ⟨fun σ' H2 => H2 = H1 ∧ σ' = [some (.ref t), some (.ref st), some (.int v), some (.int c.begin_), some (.int c.again), some (.int c.most), some (.int sd.num), some (.int sd.coming), some (.int (RPm.gotOn sd v)), some (.ref p), some (.int (RPm.playedOn c sd).1), some (.int (RPm.playedOn c sd).2.1), some (.int (RPm.playedOn c sd).2.2)], ?_, ?_⟩
      · refine ⟨_, rfl, _, rfl, _, _, rfl, rfl, _, rfl, ?_⟩
        refine ite2 (fun h => ?_) fun h => ?_
        · have h := of_decide_eq_true h
          refine ⟨_, _, rfl, rfl, rfl, ?_⟩
          unfold RPm.gotOn
          rw [if_pos h]
          rfl
        · have h : ¬ sd.got < 0 := fun z => h (decide_eq_true z)
          refine ⟨_, rfl, _, _, rfl, rfl, rfl, ?_⟩
          unfold RPm.gotOn
          rw [if_neg h]
          rfl
      · rintro _ _ ⟨rfl, rfl⟩
        refine ⟨_, rfl, _, rfl, t, _, _, _, _, rfl, h1', T.cl_Talk, T.n_Talk_sizes, lookF (i := 1) nd_Talk rfl rfl, _, rfl, ts, _, _, _, rfl, rfl, k2.tup g1, at_nat hn (by rw [List.getElem?_map, e1] <;> rfl), _, rfl, ra, _, _, _, rfl, rfl, k2.tup e2, at_int c2 c3, _, _, rfl, rfl, _, rfl, ?_⟩
        have es : (c.sizes.getD sd.num.toNat []).getD sd.coming.toNat 0 = c.size sd.num sd.coming := rfl
        rw [es]
        refine ite2 (fun h5 => ?_) fun h5 => ?_
        · have h5 := of_decide_eq_true h5
          refine ⟨_, rfl, _, rfl, _, rfl, _, rfl, _, rfl, _, rfl, (by show 6 ≤ sizeLine; decide), fun r hr => k r _ ?_ (k2.trans (Kp.refl.new hr))⟩
          have e : RPm.beatOn c sd v = ⟨sd.num, sd.coming, RPm.gotOn sd v, (RPm.playedOn c sd).1, (RPm.playedOn c sd).2.1, (RPm.playedOn c sd).2.2⟩ := by
            unfold RPm.beatOn
            rw [if_neg h, if_pos h5]
          rw [e]
          exact SqT.of upd_same
        · have h5 : ¬ RPm.gotOn sd v < c.size sd.num sd.coming := fun z => h5 (decide_eq_true z)
          refine ⟨_, rfl, _, _, rfl, rfl, _, rfl, _, rfl, t, _, _, _, _, rfl, h1', T.cl_Talk, T.n_Talk_lengths, lookF (i := 0) nd_Talk rfl rfl, _, rfl, tl, _, _, _, rfl, rfl, k2.tup h2, at_int hn c1, _, _, rfl, rfl, _, rfl, _, rfl, (by show 6 ≤ sizeLine; decide), fun r hr => k r _ ?_ (k2.trans (Kp.refl.new hr))⟩
          have e : RPm.beatOn c sd v = ⟨sd.num + 1, -1, 0, (RPm.playedOn c sd).1 + c.len sd.num, (RPm.playedOn c sd).2.1, (RPm.playedOn c sd).2.2⟩ := by
            unfold RPm.beatOn
            rw [if_neg h, if_neg h5]
          rw [e]
          exact SqT.of upd_same
end
end K76


set_option Elab.async false
set_option linter.all false
set_option maxRecDepth 100000
set_option maxHeartbeats 4000000
/-! What a chooser sees; the rules within their cells. -/
namespace K76
open PySem PySem.Spec PyProof.Rows L2 LamX NdefX
open RPm (Cfg Std)
/-! ### what tuples and small instances are -/
structure Kx (H H' : Hp) : Prop where
  tup : ∀ b xs, H b = some (.tup xs) → H' b = some (.tup xs)
  frz : ∀ b o u, H b = some (.frz o u) → H' b = some (.frz o u)
  ins : ∀ b C dx fs, H b = some (.ins C dx fs) → fs.length ≠ 15 → H' b = some (.ins C dx fs)
theorem KpN.x {S : List Addr} {H H' : Hp} (k : KpN S H H') : Kx H H' := ⟨fun _ _ h => k _ _ h (fun _ => mv_tup) fun _ z => (by cases z), fun _ _ _ h => k _ _ h (fun _ => mv_frz) fun _ z => (by cases z), fun _ _ _ _ h l => k.insF h l⟩
theorem Kp.x {S : List Addr} {H H' : Hp} (k : Kp S H H') : Kx H H' := k.toN.x
theorem cell_ne_tup {c : Addr} {v : V} {xs : List V} : CellO c v ≠ .tup xs := fun z => by unfold CellO at z; cases z
theorem hide_x {cs : List (Addr × V)} {H : Hp} (oc : OnC cs H) : Kx H (hideC cs H) :=
  ⟨fun b xs h => by rw [hide_out (oc.out h fun c v z => by unfold CellO at z; cases z)]; exact h, fun b o u h => by rw [hide_out (oc.out h fun c v z => by unfold CellO at z; cases z)]; exact h,
    fun b C dx fs h _ => by rw [hide_out (oc.out h fun c v z => by unfold CellO at z; cases z)]; exact h⟩
/-- behind a body run with its cells hidden -/
theorem kp_trk {S : List Addr} {cs : List (Addr × V)} {H H' : Hp} (oc : OnC cs H) (k : Kp S (hideC cs H) H') : Kp S H (trkC cs H') := fun b o e n => by
  cases q : cs.lookup b with
  | none =>
    rw [trk_out q]
    exact k b o (by rw [hide_out q]; exact e) n
  | some v =>
    rw [trk_in q]
    have := oc b v q
    rw [e] at this
    exact this.symm
theorem hide_kp {S : List Addr} {cs : List (Addr × V)} {H H' : Hp} (k : KpN S H H') : KpN S (hideC cs H) (hideC cs H') := fun b o e n t => by
  obtain ⟨q, e2⟩ := hide_some e
  rw [hide_out q]
  exact k b o e2 n t
section
variable {K : PySem.W.Frag} {H H' : Hp} {a t r : Addr} {rows sizes : List (List Int)} {lens : List Int} {pieces : List (Int × Int)} {xs : List V}
theorem Kx.sqt (k : Kx H H') (h : SqT K H a xs) : SqT K H' a xs := h.elim (fun h => .inl (h.elim (fun h => .inl (k.tup _ _ h)) fun ⟨o, h⟩ => .inr ⟨o, k.frz _ _ _ h⟩)) fun h => .inr h
theorem Kx.tups (k : Kx H H') (h : TupsAt K H t rows) : TupsAt K H' t rows := by
  obtain ⟨as, h1, h2, h3⟩ := h
  refine ⟨as, k.sqt h1, h2, fun i a e => ?_⟩
  obtain ⟨r, e1, e2⟩ := h3 i a e
  exact ⟨r, e1, k.sqt e2⟩
theorem Kx.talk (k : Kx H H') (h : TalkAt K H t lens sizes) : TalkAt K H' t lens sizes := by
  obtain ⟨dx, tl, ts, h1, h2, h3⟩ := h
  exact ⟨dx, tl, ts, k.ins _ _ _ _ h1 (by show 2 ≠ 15; decide), k.sqt h2, k.tups h3⟩
theorem Kx.road (k : Kx H H') (h : RoadAt K H r pieces) : RoadAt K H' r pieces := by
  obtain ⟨dx, tp, h1, h3⟩ := h
  exact ⟨dx, tp, k.ins _ _ _ _ h1 (by show 1 ≠ 15; decide), k.tups h3⟩
def SlAt (K : PySem.W.Frag) (H : Hp) (v : V) : Option (Int × Int) → Prop
  | none => v = .non
  | some p => ∃ a dx, v = .ref a ∧ H a = some (.ins (cSpeed K) dx (kSpeed.zip [.int p.1, .int p.2]))
theorem Kx.sl {v : V} {o : Option (Int × Int)} (k : Kx H H') (h : SlAt K H v o) : SlAt K H' v o := by
  cases o with
  | none => exact h
  | some p =>
    obtain ⟨a, dx, e, h⟩ := h
    exact ⟨a, dx, e, k.ins _ _ _ _ h (by show 2 ≠ 15; decide)⟩
def rlV : Option Int → V
  | none => .non
  | some r => .int r
def SeenAt (K : PySem.W.Frag) (H : Hp) (a : Addr) (s : RPm.Seen) : Prop := ∃ sv, SqT K H a [.int s.num, .int s.kept, rlV s.rate, sv] ∧ SlAt K H sv s.speed
theorem Kx.seen {s : RPm.Seen} (k : Kx H H') (h : SeenAt K H a s) : SeenAt K H' a s := by
  obtain ⟨sv, h1, h2⟩ := h
  exact ⟨sv, k.sqt h1, k.sl h2⟩
end
/-- bounds of what is seen -/
def SeenOk (n : Nat) (s : RPm.Seen) : Prop := 0 ≤ s.num ∧ s.num < n ∧ 0 ≤ s.kept ∧ s.kept < 100000 ∧ ∀ p, s.speed = some p → 0 ≤ p.1 ∧ p.1 < 100000 ∧ 0 ≤ p.2 ∧ p.2 < 100000
/-! ### the inner defs -/
def sub (s : Stmt) : Stmt := (defBody s).getD 0 (.Pass ⟨0, 0, 0, 0⟩)
abbrev i_store : Stmt := sub s_by_store
abbrev i_speed : Stmt := sub s_by_speed
abbrev i_calm : Stmt := sub s_calm
abbrev i_told : Stmt := sub s__law_rule
abbrev nI_store : List Str := ["seen", "steps", "step"]
abbrev nI_speed : List Str := ["seen", "talk", "part", "number", "kept", "rate", "speed", "bits", "beats", "at", "size"]
abbrev nI_calm : List Str := ["seen", "rule", "told", "number"]
abbrev nI_told : List Str := ["_law_seen", "_law_asked", "_law_seed", "_law_wide", "_law_some"]
theorem sI_store : NSc nI_store ["seen"] ["steps"] (C8.fnScope i_store) := nsc_by (by decide +kernel)
theorem sI_speed : NSc nI_speed ["seen"] ["talk", "part"] (C8.fnScope i_speed) := nsc_by (by decide +kernel)
theorem sI_calm : NSc nI_calm ["seen"] ["rule"] (C8.fnScope i_calm) := nsc_by (by decide +kernel)
theorem sI_told : NSc nI_told ["_law_seen"] ["_law_asked", "_law_seed", "_law_wide"] (C8.fnScope i_told) := nsc_by (by decide +kernel)
inductive Rl where
  | store (steps : List Int)
  | speed (lens : List Int) (sizes : List (List Int)) (x y : Int)
def atsF (row : List Int) (beats bits : Int) : Nat → List Int
  | 0 => []
  | i + 1 => if row.getD i 0 * beats ≤ bits then atsF row beats bits i ++ [(i : Int)] else atsF row beats bits i
def tellR : Rl → RPm.Seen → Int
  | .store steps, s => ((steps.filter fun z => decide (z ≤ s.kept)).length : Nat)
  | .speed lens sizes x y, s => match s.speed with
    | none => 0
    | some p => maxOr 0 (atsF (sizes.getD s.num.toNat []) (p.2 * y) (p.1 * x * lens.getD s.num.toNat 0) (sizes.getD s.num.toNat []).length)
def RlAt (K : PySem.W.Frag) (H : Hp) (f : Addr) : Rl → Prop
  | .store steps => ∃ cl c cs a, ClosH H f (NF.of i_store "rule" "by_store.<locals>.rule" cl c) ["steps"] [.ref a] cs ∧ SqT K H a (steps.map V.int) ∧ steps.length ≤ 1000
  | .speed lens sizes x y => ∃ cl c cs t p, ClosH H f (NF.of i_speed "rule" "by_speed.<locals>.rule" cl c) ["talk", "part"] [.ref t, .ref p] cs ∧ TalkAt K H t lens sizes ∧ SqT K H p [.int x, .int y] ∧
    lens.length ≤ 12 ∧ sizes.length = lens.length ∧ (∀ z ∈ lens, 0 ≤ z ∧ z ≤ 20) ∧ (∀ r ∈ sizes, r.length ≤ 4 ∧ ∀ z ∈ r, 0 ≤ z ∧ z ≤ 300) ∧ 0 ≤ x ∧ x ≤ 100 ∧ 0 ≤ y ∧ y ≤ 100
theorem ClosH.kp {S : List Addr} {H H' : Hp} {f : Addr} {F : NF} {fr : List Str} {vs : List V} {cs : List (Addr × V)} (h : ClosH H f F fr vs cs) (k : KpN S H H') : ClosH H' f F fr vs cs :=
  ⟨k _ _ h.fn (fun _ => mv_fn) (fnO_ne), k _ _ h.code (fun _ => mv_code) codeO_ne, h.len, h.inj, h.dom, h.at_, fun b v e => k _ _ (h.on b v e) (fun _ => mv_cell) cell_tbl⟩
theorem RlAt.kp {K : PySem.W.Frag} {S : List Addr} {H H' : Hp} {f : Addr} {r : Rl} (h : RlAt K H f r) (k : KpN S H H') : RlAt K H' f r := by
  cases r with
  | store steps =>
    obtain ⟨cl, c, cs, a, h1, h2, h3⟩ := h
    exact ⟨cl, c, cs, a, h1.kp k, k.tup h2, h3⟩
  | speed lens sizes x y =>
    obtain ⟨cl, c, cs, t, p, h1, h2, h3, h4⟩ := h
    exact ⟨cl, c, cs, t, p, h1.kp k, h2.kp2 k, k.tup h3, h4⟩
def Rl.n : Rl → Nat
  | .store _ => 1000000
  | .speed lens _ _ _ => lens.length
def spTellR (K : PySem.W.Frag) (r : Rl) : Sp := fun vs H Q _ => ∃ (sn : Addr) (s : RPm.Seen), vs = [.ref sn] ∧ SeenAt K H sn s ∧ SeenOk r.n s ∧ ∀ H', Kp [] H H' → Q (.int (tellR r s)) H'
section
variable {P : Program} {w : World} {K : PySem.W.Frag} {mg : Str → Option Value} {base : Heap}
theorem filter_take {p : Int → Bool} {l : List Int} {i : Nat} {x : Int} (h : l[i]? = some x) : (l.take (i + 1)).filter p = (l.take i).filter p ++ if p x = true then [x] else [] := by
  rw [List.take_succ, h, List.filter_append]
  congr 1
  show [x].filter p = _
  cases e : p x <;> simp [e]
theorem call_store (T : Tx K mg) (f : Addr) (steps : List Int) : CallC P w K mg base 1 f (fun H => RlAt K H f (.store steps)) (spTellR K (.store steps)) := by
  refine ⟨fun A outer s H us vs Q E hr e0 hR rv hsp => ?_⟩
  obtain ⟨cl, c, cs, a, C, hst, hsl⟩ := hR
  obtain ⟨sn, sd, rfl, ⟨sv, hs1, hs2⟩, ok, k⟩ := hsp
  refine clos_call sI_store (fun doc pm ctv us hl => match us, hl with | [_], _ => rfl) hr e0 C rv rfl fun hr1 => ?_
  have X := hide_x C.on
  refine ⟨_, (pss_one (ps_ret (pe_callB call_len_seq rfl T.f_len (by decide +kernel) (pa_cons (pe_lc (own := [("step", 2)]) (g := gName 2) rfl sI_store.nd (pi_tup (pv 1)) (blkOk_by (own := [("step", 2)]) (N := nI_store) (sc := C8.fnScope i_store) (by decide +kernel)) (fun _ _ _ _ _ => pg_name (i := 2) sI_store.nd rfl (Or.inl rfl)) (fun _ _ _ _ _ => pts_one (pt_cmpR op_le (pv 2) (pe_ix (r := rIxT K) ix_tup (pv 0) pe_int (fun _ _ => rfl)) (nomark _))) (fun _ _ _ _ _ => pv 2)) pa_nil)))), ?_⟩
  refine ⟨_, rfl, a, rfl, ⟨_, X.sqt hst⟩, fun D hD => ?_⟩
  refine lc_tup (K := K) (a := a) (xs := steps.map V.int) (fun i H2 => H2 = upd (hideC cs H) D (.lst (((steps.take i).filter fun z => decide (z ≤ sd.kept)).map V.int))) rfl (fun i H2 _ e => ?_) ?_ ?_
  · rw [e]
    exact (Kp.refl (S := [])).new hD |>.tup (X.sqt hst)
  · rintro i x H2 hx rfl
    rw [List.getElem?_map] at hx
    obtain ⟨z, hz, rfl⟩ : ∃ z, steps[i]? = some z ∧ x = V.int z := by
      cases e : steps[i]? with
      | none => rw [e] at hx; cases hx
      | some z =>
        rw [e] at hx
        exact ⟨z, rfl, (Option.some.inj hx).symm⟩
    have hi : i < 1000 := by
      have := (List.getElem?_eq_some_iff.mp hz).1
      omega
    refine ⟨rfl, _, rfl, _, rfl, sn, _, _, _, rfl, rfl, (Kp.refl (S := [])).new hD |>.tup (X.sqt hs1), at_nat (by decide) rfl, _, _, rfl, rfl, _, rfl, ?_⟩
    refine ite2 (fun h => ?_) fun h => ?_
    · refine ⟨_, rfl, _, upd_same, ?_, ?_⟩
      · have hl : ((steps.take i).filter fun z => decide (z ≤ sd.kept)).length ≤ i := Nat.le_trans (List.length_filter_le _ _) (by rw [List.length_take]; omega)
        rw [List.length_map, sizeLine_eq]
        omega
      · rw [upd_upd, filter_take hz, if_pos h, List.map_append]
        rfl
    · have h' : decide (z ≤ sd.kept) = false := by
        cases e : decide (z ≤ sd.kept) with
        | false => rfl
        | true => exact absurd e h
      rw [filter_take hz, if_neg (by rw [h']; decide), List.append_nil]
  · rintro H2 rfl
    refine ⟨D, _, rfl, .inl (SqL.of upd_same), ?_⟩
    rw [List.length_map, List.length_map, List.take_of_length_le (Nat.le_refl _)]
    exact k _ (kp_trk C.on (Kp.refl.new hD))
end
end K76


set_option Elab.async false
set_option linter.all false
set_option maxRecDepth 100000
set_option maxHeartbeats 4000000
/-! The rules by speed, calm, the law's own; is_whole. -/
namespace K76
open PySem PySem.Spec PyProof.Rows L2 LamX NdefX
open RPm (Cfg Std)
def mx (i j : Int) : Int := if j > i then j else i
def mn (i j : Int) : Int := if j < i then j else i
theorem getR {l : List Int} {k : Int} (h0 : 0 ≤ k) (h1 : k < l.length) : l.getD k.toNat 0 ∈ l := RPm.getD_mem (by omega)
theorem atsF_succ (row : List Int) (b c : Int) (i : Nat) : atsF row b c (i + 1) = if row.getD i 0 * b ≤ c then atsF row b c i ++ [(i : Int)] else atsF row b c i := rfl
theorem atsF_len (row : List Int) (b c : Int) : ∀ n, (atsF row b c n).length ≤ n
  | 0 => Nat.le_refl _
  | n + 1 => by
    have := atsF_len row b c n
    unfold atsF
    split
    · rw [List.length_append]
      simp
      omega
    · omega
/-- an int, or one of the odd things -/
def FlatW (v : V) : Prop := (∃ i, v = .int i) ∨ v = .non ∨ (∃ b, v = .bl b) ∨ ∃ x, v = .str x
def spIsWhole : Sp := fun vs H Q _ => ∃ v, vs = [v] ∧ FlatW v ∧ Q (.bl (match v with | .int _ => true | _ => false)) H
section
variable {P : Program} {w : World} {K : PySem.W.Frag} {mg : Str → Option Value} {base : Heap}
theorem c_is_whole (T : Tx K mg) : Cal P w K mg base 1 "is_whole" spIsWhole := by
  refine mk_is_whole T (fun vs H Q E h => ?_) (fun cdv A outer s H vs Q E hr h => ?_)
  · obtain ⟨v, rfl, _⟩ := h
    rfl
  · obtain ⟨v, rfl, hf, k⟩ := h
    refine ⟨_, (pss_one (ps_ret (pe_and (pe_callB call_isi rfl T.f_isinstance (by decide +kernel) (pa_cons (pv 0) (pa_cons (pe_bltn (v := .ty "int") rfl T.f_int (by decide +kernel) rfl) pa_nil))) (pe_one (pe_not (pe_callB call_isi rfl T.f_isinstance (by decide +kernel) (pa_cons (pv 0) (pa_cons (pe_bltn (v := .ty "bool") rfl T.f_bool (by decide +kernel) rfl) pa_nil)))))))), ?_⟩
    rcases hf with ⟨i, rfl⟩ | rfl | ⟨b, rfl⟩ | ⟨x, rfl⟩
    · exact ⟨_, rfl, _, _, _, _, true, rfl, .ty "int", .base (.int i), kit_ty (by decide +kernel), _, rfl, iteT ⟨_, rfl, _, _, _, _, false, rfl, .ty "bool", .base (.int i), kit_ty (by decide +kernel), _, rfl, k⟩⟩
    · exact ⟨_, rfl, _, _, _, _, false, rfl, .ty "int", .base .non, kit_ty (by decide +kernel), _, rfl, iteF k⟩
    · exact ⟨_, rfl, _, _, _, _, true, rfl, .ty "int", .base (.bl b), kit_ty (by decide +kernel), _, rfl, iteT ⟨_, rfl, _, _, _, _, true, rfl, .ty "bool", .base (.bl b), kit_ty (by decide +kernel), _, rfl, k⟩⟩
    · exact ⟨_, rfl, _, _, _, _, false, rfl, .ty "int", .base (.str x), kit_ty (by decide +kernel), _, rfl, iteF k⟩
theorem call_speed (T : Tx K mg) (f : Addr) (lens : List Int) (sizes : List (List Int)) (x y : Int) : CallC P w K mg base 1 f (fun H => RlAt K H f (.speed lens sizes x y)) (spTellR K (.speed lens sizes x y)) := by
  refine ⟨fun A outer s H us vs Q E hr e0 hR rv hsp => ?_⟩
  obtain ⟨cl, c, cs, t, p, C, hT, hp, n0, n1, n2, n3, x0, x1, y0, y1⟩ := hR
  obtain ⟨sn, sd, rfl, ⟨sv, hs1, hs2⟩, ok, k⟩ := hsp
  refine clos_call sI_speed (fun doc pm ctv us hl => match us, hl with | [_], _ => rfl) hr e0 C rv rfl fun hr1 => ?_
  have X := hide_x C.on
  have hu64 := hr1.units
  refine ⟨_, (pss_cons (ps_asg (pv 0) (pg_tup rfl (pgs_cons (pg_name (i := 3) sI_speed.nd rfl (Or.inl rfl)) (pgs_cons (pg_name (i := 4) sI_speed.nd rfl (Or.inl rfl)) (pgs_cons (pg_name (i := 5) sI_speed.nd rfl (Or.inl rfl)) (pgs_cons (pg_name (i := 6) sI_speed.nd rfl (Or.inl rfl)) pgs_nil))))))
    (pss_cons (ps_if (pt_cmpR op_isN (pv 6) pe_non (nomark _)) (pss_one (ps_ret pe_int)) pss_nil)
    (pss_cons (ps_set (i := 7) sI_speed.nd rfl (Or.inr rfl) (pe_op op_mul (pe_op op_mul (pe_fld (pv 6) rfl) (pe_ix ix_tup (pv 2) pe_int (fun _ _ => rfl))) (pe_ix ix_tup (pe_fld (pv 1) rfl) (pv 3) (fun _ _ => rfl))))
    (pss_cons (ps_set (i := 8) sI_speed.nd rfl (Or.inr rfl) (pe_op op_mul (pe_fld (pv 6) rfl) (pe_ix ix_tup (pv 2) pe_int (fun _ _ => rfl))))
    (pss_one (ps_ret (pe_callBK (cr_maxD rfl hu64) rfl T.f_max (by decide +kernel) (pa_cons (pe_lc (own := [("at", 9), ("size", 10)]) (g := gTup K 2 (gCons (gName 9) (gCons (gName 10) gNil))) rfl sI_speed.nd (pi_enumT rfl T.f_enumerate (pa_cons (pe_ix ix_tup (pe_fld (pv 1) rfl) (pv 3) (fun _ _ => rfl)) pa_nil))
      (blkOk_by (own := [("at", 9), ("size", 10)]) (N := nI_speed) (sc := C8.fnScope i_speed) (by decide +kernel)) (fun _ _ _ _ _ => pg_tup rfl (pgs_cons (pg_name (i := 9) sI_speed.nd rfl (Or.inl rfl)) (pgs_cons (pg_name (i := 10) sI_speed.nd rfl (Or.inl rfl)) pgs_nil)))
      (fun _ _ _ _ _ => pts_one (pt_cmpR op_le (pe_op op_mul (pv 10) (pv 8)) (pv 7) (nomark _))) (fun _ _ _ _ _ => pv 9)) pa_nil) (pk_cons pe_int pk_nil)))))))), ?_⟩
  refine ⟨_, rfl, sn, _, rfl, X.sqt hs1, rfl, _, _, rfl, _, _, rfl, _, _, rfl, _, _, rfl, rfl, ?_⟩
  obtain ⟨dt, tl, ts, h1, h2, h3⟩ := X.talk hT
  obtain ⟨m0, m1, m2, m3, m4⟩ := ok
  have m1 : sd.num < lens.length := m1
  cases hsp : sd.speed with
  | none =>
    rw [hsp] at hs2
    have hs2 : sv = .non := hs2
    subst hs2
    refine ⟨_, rfl, rfl, _, rfl, iteT ?_⟩
    have e : tellR (.speed lens sizes x y) sd = 0 := by
      simp only [tellR, hsp]
    have := k (trkC cs (hideC cs H)) (by rw [trk_hide C.on]; exact Kp.refl)
    rw [e] at this
    exact this
  | some q =>
    rw [hsp] at hs2
    obtain ⟨sa, dsp, rfl, hsa⟩ := X.sl hs2
    have mb := m4 q hsp
    have hz : sizes[sd.num.toNat]? = some (sizes.getD sd.num.toNat []) := by
      rw [List.getD_eq_getElem?_getD, List.getElem?_eq_getElem (by omega)]
      rfl
    obtain ⟨as, g1, g2, g3⟩ := h3.at_
    obtain ⟨ra, e1, e2⟩ := g3 _ _ hz
    have hrow := n3 _ (List.mem_of_getElem? hz)
    generalize hrw : sizes.getD sd.num.toNat [] = row at hz e2 hrow
    have lb := n2 _ (getR m0 m1)
    refine ⟨_, rfl, rfl, _, rfl, iteF ?_⟩
    refine ⟨_, rfl, sa, _, _, _, _, rfl, hsa, T.cl_Speed, T.n_Speed_bits, lookF (i := 0) nd_Speed rfl rfl, _, rfl, p, _, _, _, rfl, rfl, X.sqt hp, at_nat (by decide) rfl, _, _, rfl, rfl, .inr ⟨by omega, by omega⟩,
      _, rfl, t, _, _, _, _, rfl, h1, T.cl_Talk, T.n_Talk_lengths, lookF (i := 0) nd_Talk rfl rfl, _, rfl, tl, _, _, _, rfl, rfl, h2, at_int m0 m1, _, _, rfl, rfl, .inr ⟨by omega, by omega⟩, ?_⟩
    refine ⟨_, rfl, sa, _, _, _, _, rfl, hsa, T.cl_Speed, T.n_Speed_beats, lookF (i := 1) nd_Speed rfl rfl, _, rfl, p, _, _, _, rfl, rfl, X.sqt hp, at_nat (by decide) rfl, _, _, rfl, rfl, .inr ⟨by omega, by omega⟩, ?_⟩
    refine ⟨_, rfl, t, _, _, _, _, rfl, h1, T.cl_Talk, T.n_Talk_sizes, lookF (i := 1) nd_Talk rfl rfl, _, rfl, ts, _, _, _, rfl, rfl, g1, at_nat m0 (by rw [List.getElem?_map, e1] <;> rfl), ra, _, rfl, e2, fun D hD => ?_⟩
    have nD : ∀ H2, Kp [] (hideC cs H) H2 → H2 D = none → hideC cs H D = none := fun H2 kk e => kk.none e (by simp)
    refine lc_it (walk_enumT (K := K) (a := ra) (xs := row.map V.int)) (fun i H2 => Kp [] (hideC cs H) H2 ∧ H2 D = some (.lst ((atsF row (q.2 * y) (q.1 * x * lens.getD sd.num.toNat 0) i).map V.int))) ⟨Kp.refl.new hD, upd_same⟩ (fun i H2 _ e => e.1.tup e2) ?_ ?_
    · rintro i z H2 H3 hi ⟨kk, hd⟩ ⟨Tt, z1, z2, rfl, hTt, rfl, ez1, ez2⟩
      cases ez1
      rw [List.length_map] at hi
      have ez2 : (row.map V.int)[i]? = some z2 := ez2
      rw [List.getElem?_map, List.getElem?_eq_getElem hi] at ez2
      cases ez2
      have nDT : D ≠ Tt := ne_of_none hd hTt
      have hzb := hrow.2 _ (List.getElem_mem hi)
      refine ⟨Tt, _, rfl, SqT.of upd_same, rfl, _, _, rfl, _, _, rfl, rfl, rfl, _, rfl, _, rfl, _, _, rfl, rfl, .inl ⟨by omega, by omega⟩, _, rfl, _, _, rfl, rfl, _, rfl, ?_⟩
      have eg : row[i] = row.getD i 0 := by
        rw [List.getD_eq_getElem?_getD, List.getElem?_eq_getElem hi]
        rfl
      have kk2 : Kp [] (hideC cs H) (upd H2 Tt (.tup [.int (i : Nat), .int row[i]])) := kk.trans (Kp.refl.new hTt)
      refine ite2 (fun h => ?_) fun h => ?_
      · have h := of_decide_eq_true h
        refine ⟨_, rfl, _, by rw [upd_ne nDT]; exact hd, ?_, kk2.new hD, ?_⟩
        · have := atsF_len row (q.2 * y) (q.1 * x * lens.getD sd.num.toNat 0) i
          rw [List.length_map, sizeLine_eq]
          omega
        · rw [upd_same, atsF_succ, if_pos (by rw [← eg]; exact h), List.map_append]
          rfl
      · have h : ¬ row[i] * (q.2 * y) ≤ q.1 * x * lens.getD sd.num.toNat 0 := fun z => h (decide_eq_true z)
        refine ⟨kk2, ?_⟩
        rw [upd_ne nDT, atsF_succ, if_neg (by rw [← eg]; exact h)]
        exact hd
    · rintro H2 ⟨kk, hd⟩
      rw [List.length_map] at hd
      refine ⟨D, _, 0, rfl, rfl, SqL.of hd, ?_⟩
      have e : tellR (.speed lens sizes x y) sd = maxOr 0 (atsF row (q.2 * y) (q.1 * x * lens.getD sd.num.toNat 0) row.length) := by
        simp only [tellR, hsp, hrw]
      have := k _ (kp_trk C.on kk)
      rw [e] at this
      exact this
theorem call_R (T : Tx K mg) (f : Addr) (r : Rl) : CallC P w K mg base 1 f (fun H => RlAt K H f r) (spTellR K r) := by
  cases r with
  | store steps => exact call_store T f steps
  | speed lens sizes x y => exact call_speed T f lens sizes x y
end
end K76


set_option Elab.async false
set_option linter.all false
set_option maxRecDepth 100000
set_option maxHeartbeats 4000000
/-! Choosers, and what is chosen by them. -/
namespace K76
open PySem PySem.Spec PyProof.Rows L2 LamX NdefX
open RPm (Cfg Std)
inductive Ch where
  | plan (ps : List Int)
  | own (seed wide : Int)
  | rl (r : Rl)
  | calm (r : Rl)
def ownL (wide : Int) : List V := rgV 0 wide ++ [.non, .bl true, .int wide, .int (-1), .str "0", .int (wide - 1)]
def calmI (r : Option Int) (t : Int) : Int := match r with
  | none => t
  | some q => mx (q - 1) (mn (q + 1) t)
def tellV : Ch → RPm.Seen → V
  | .plan _, _ => .non
  | .own seed wide, s => (ownL wide).getD ((seed + 7 * s.num + 3 * s.kept) % (wide + 6)).toNat .non
  | .rl r, s => .int (tellR r s)
  | .calm r, s => .int (calmI s.rate (tellR r s))
def isRate (wide : Int) (v : V) : Bool := match v with
  | .int i => decide (0 ≤ i) && decide (i < wide)
  | _ => false
def rateOf (wide : Int) (v : V) : Int := match v with
  | .int i => if isRate wide (.int i) = true then i else 0
  | _ => 0
def pick (ch : Ch) (wide : Int) (s : RPm.Seen) : Int := match ch with
  | .plan ps => ps.getD s.num.toNat 0
  | c => rateOf wide (tellV c s)
def askS (asked : Addr) : Ch → List Addr
  | .own _ _ => [asked]
  | _ => []
/-- what the list `asked` holds -/
def AskAt (K : PySem.W.Frag) (H : Hp) (asked : Addr) (seens : List RPm.Seen) : Prop := ∃ as : List Addr, H asked = some (.lst (as.map V.ref)) ∧ as.length = seens.length ∧ ∀ (i : Nat) (a : Addr), as[i]? = some a → ∃ s, seens[i]? = some s ∧ SeenAt K H a s
def AskP (K : PySem.W.Frag) (H : Hp) (asked : Addr) (ch : Ch) (seens : List RPm.Seen) : Prop := match ch with
  | .own _ _ => AskAt K H asked seens ∧ seens.length ≤ 100000
  | _ => True
def ChAt (K : PySem.W.Frag) (H : Hp) (asked : Addr) (v : V) : Ch → Prop
  | .plan ps => ∃ a, v = .ref a ∧ SqT K H a (ps.map V.int)
  | .own seed wide => ∃ f cl c cs, v = .ref f ∧ ClosH H f (NF.of i_told "_law_told_by" "_law_rule.<locals>._law_told_by" cl c) ["_law_asked", "_law_seed", "_law_wide"] [.ref asked, .int seed, .int wide] cs ∧ 0 ≤ wide ∧ wide ≤ 100
  | .rl r => ∃ f, v = .ref f ∧ RlAt K H f r
  | .calm r => ∃ f cl c cs g, v = .ref f ∧ ClosH H f (NF.of i_calm "calmed" "calm.<locals>.calmed" cl c) ["rule"] [.ref g] cs ∧ RlAt K (hideC cs H) g r
theorem ChAt.kp {K : PySem.W.Frag} {S : List Addr} {H H' : Hp} {asked : Addr} {v : V} {ch : Ch} (h : ChAt K H asked v ch) (k : KpN S H H') : ChAt K H' asked v ch := by
  cases ch with
  | plan ps =>
    obtain ⟨a, e, h⟩ := h
    exact ⟨a, e, k.tup h⟩
  | own seed wide =>
    obtain ⟨f, cl, c, cs, e, h, h2⟩ := h
    exact ⟨f, cl, c, cs, e, h.kp k, h2⟩
  | rl r =>
    obtain ⟨f, e, h⟩ := h
    exact ⟨f, e, h.kp k⟩
  | calm r =>
    obtain ⟨f, cl, c, cs, g, e, h1, h2⟩ := h
    exact ⟨f, cl, c, cs, g, e, h1.kp k, h2.kp (hide_kp k)⟩
theorem AskAt.kp {K : PySem.W.Frag} {S : List Addr} {H H' : Hp} {asked : Addr} {seens : List RPm.Seen} (h : AskAt K H asked seens) (k : KpN S H H') (hS : asked ∉ S) : AskAt K H' asked seens := by
  obtain ⟨as, h1, h2, h3⟩ := h
  refine ⟨as, k.lst hS h1, h2, fun i a e => ?_⟩
  obtain ⟨s, e1, e2⟩ := h3 i a e
  exact ⟨s, e1, k.x.seen e2⟩
theorem AskP.kp {K : PySem.W.Frag} {S : List Addr} {H H' : Hp} {asked : Addr} {ch : Ch} {seens : List RPm.Seen} (h : AskP K H asked ch seens) (k : KpN S H H') (hS : asked ∈ askS asked ch → asked ∉ S) : AskP K H' asked ch seens := by
  cases ch with
  | own seed wide => exact ⟨h.1.kp k (hS (by simp [askS])), h.2⟩
  | _ => exact True.intro
def Ch.n : Ch → Nat
  | .rl r => r.n
  | .calm r => r.n
  | _ => 1000000
/-- the promise of a chooser that is a function -/
def spTell (K : PySem.W.Frag) (asked : Addr) (ch : Ch) : Sp := fun vs H Q _ => ∃ (sn : Addr) (s : RPm.Seen) (seens : List RPm.Seen), vs = [.ref sn] ∧ SeenAt K H sn s ∧ SeenOk ch.n s ∧ AskP K H asked ch seens ∧ seens.length < 100000 ∧
  ∀ H', Kp (askS asked ch) H H' → AskP K H' asked ch (seens ++ [s]) → Q (tellV ch s) H'
theorem flat_tell (ch : Ch) (s : RPm.Seen) : FlatW (tellV ch s) := by
  cases ch with
  | plan ps => exact .inr (.inl rfl)
  | rl r => exact .inl ⟨_, rfl⟩
  | calm r => exact .inl ⟨_, rfl⟩
  | own seed wide =>
    show FlatW ((ownL wide).getD _ .non)
    have gen : ∀ (l : List V) (k : Nat), (∀ v ∈ l, FlatW v) → FlatW (l.getD k .non) := fun l k h => by
      rw [List.getD_eq_getElem?_getD]
      cases e : l[k]? with
      | none => exact .inr (.inl rfl)
      | some v => exact h v (List.mem_of_getElem? e)
    refine gen _ _ fun v hv => ?_
    unfold ownL at hv
    rcases List.mem_append.mp hv with hv | hv
    · unfold rgV at hv
      obtain ⟨i, _, rfl⟩ := List.mem_map.mp hv
      exact .inl ⟨_, rfl⟩
    · simp only [List.mem_cons, List.not_mem_nil, or_false] at hv
      rcases hv with rfl | rfl | rfl | rfl | rfl | rfl
      · exact .inr (.inl rfl)
      · exact .inr (.inr (.inl ⟨_, rfl⟩))
      · exact .inl ⟨_, rfl⟩
      · exact .inl ⟨_, rfl⟩
      · exact .inr (.inr (.inr ⟨_, rfl⟩))
      · exact .inl ⟨_, rfl⟩
def spIsRate (K : PySem.W.Frag) : Sp := fun vs H Q _ => ∃ (t : Addr) (v : V) (c : Cfg) (row : List Int) (rest : List (List Int)), vs = [.ref t, v] ∧ CfgT K H t c ∧ c.sizes = row :: rest ∧ FlatW v ∧ ∀ H', Kp [] H H' → Q (.bl (isRate row.length v)) H'
section
variable {P : Program} {w : World} {K : PySem.W.Frag} {mg : Str → Option Value} {base : Heap}
theorem call_calm (T : Tx K mg) (f : Addr) (asked : Addr) (r : Rl) : CallC P w K mg base 3 f (fun H => ChAt K H asked (.ref f) (.calm r)) (spTell K asked (.calm r)) := by
  refine ⟨fun A outer s H us vs Q E hr e0 hR rv hsp => ?_⟩
  obtain ⟨f', cl, c, cs, g, ef, C, hg⟩ := hR
  cases ef
  obtain ⟨sn, sd, seens, rfl, ⟨sv, hs1, hs2⟩, ok, ha, hl, k⟩ := hsp
  have c_is_whole : Cal P w K mg base 1 "is_whole" spIsWhole := c_is_whole T
  refine clos_call sI_calm (fun doc pm ctv us hl => match us, hl with | [_], _ => rfl) hr e0 C rv rfl fun hr1 => ?_
  have X := hide_x C.on
  refine ⟨_, (pss_cons (ps_set (i := 2) sI_calm.nd rfl (Or.inl rfl) (pe_callC (i := 1) rfl (Or.inr (Or.inr rfl)) (pa_cons (pv 0) pa_nil)))
    (pss_cons (ps_set (i := 3) sI_calm.nd rfl (Or.inl rfl) (pe_ifExp (pt_val (pe_c c_is_whole hr1 (by decide) rfl (pa_cons (pv 2) pa_nil))) (pv 2) pe_int))
    (pss_cons (ps_if (pt_cmpR op_isN (pe_ix ix_tup (pv 0) pe_int (fun _ _ => rfl)) pe_non (nomark _)) (pss_one (ps_ret (pv 3))) pss_nil)
    (pss_one (ps_ret (pe_callB (call_max2 rfl) rfl T.f_max (by decide +kernel) (pa_cons (pe_op op_sub (pe_ix ix_tup (pv 0) pe_int (fun _ _ => rfl)) pe_int) (pa_cons (pe_callB (call_min2 rfl) rfl T.f_min (by decide +kernel) (pa_cons (pe_op op_add (pe_ix ix_tup (pv 0) pe_int (fun _ _ => rfl)) pe_int) (pa_cons (pv 3) pa_nil))) pa_nil)))))))), ?_⟩
  have hgf : ∃ F0, hideC cs H g = some (FnO g F0) := by
    cases r with
    | store steps =>
      obtain ⟨cl, c, cs, a, h1, _⟩ := hg
      exact ⟨_, h1.fn⟩
    | speed lens sizes x y =>
      obtain ⟨cl, c, cs, t, p, h1, _⟩ := hg
      exact ⟨_, h1.fn⟩
  obtain ⟨F0, hF0⟩ := hgf
  refine ⟨g, F0, 1, _, _, rfl, hF0, call_R T g r, hr1.mono (by decide), _, rfl, hF0, hg, sn, sd, rfl, ⟨sv, X.sqt hs1, X.sl hs2⟩, ok, fun H1 k1 => ?_⟩
  have fin : Q (tellV (.calm r) sd) (trkC cs H1) := k _ (kp_trk C.on k1) True.intro
  refine ⟨_, rfl, _, rfl, .inl ⟨_, rfl⟩, _, rfl, iteT ⟨_, rfl, ?_⟩⟩
  refine ⟨_, rfl, sn, _, _, _, rfl, rfl, k1.tup (X.sqt hs1), at_nat (by decide) rfl, rfl, _, rfl, ?_⟩
  cases hr' : sd.rate with
  | none =>
    have e : tellV (.calm r) sd = .int (tellR r sd) := by
      simp only [tellV, calmI, hr']
    rw [e] at fin
    exact iteT ⟨_, rfl, fin⟩
  | some q =>
    have e : tellV (.calm r) sd = .int (mx (q - 1) (mn (q + 1) (tellR r sd))) := by
      simp only [tellV, calmI, hr']
    rw [e] at fin
    rw [hr'] at hs1
    refine iteF ?_
    exact ⟨_, rfl, sn, _, _, _, rfl, rfl, k1.tup (X.sqt hs1), at_nat (by decide) rfl, _, _, rfl, rfl, _, rfl, sn, _, _, _, rfl, rfl, k1.tup (X.sqt hs1), at_nat (by decide) rfl, _, _, rfl, rfl, _, rfl, _, _, rfl, _, _, rfl, fin⟩
theorem call_own (T : Tx K mg) (f : Addr) (asked : Addr) (seed wide : Int) : CallC P w K mg base 1 f (fun H => ChAt K H asked (.ref f) (.own seed wide)) (spTell K asked (.own seed wide)) := by
  refine ⟨fun A outer s H us vs Q E hr e0 hR rv hsp => ?_⟩
  obtain ⟨f', cl, c, cs, ef, C, w0, w1⟩ := hR
  cases ef
  obtain ⟨sn, sd, seens, rfl, hsn, ok, ⟨⟨as, ha1, ha2, ha3⟩, ha4⟩, hl, k⟩ := hsp
  obtain ⟨sv, hs1, hs2⟩ := id hsn
  refine clos_call sI_told (fun doc pm ctv us hl => match us, hl with | [_], _ => rfl) hr e0 C rv rfl fun hr1 => ?_
  have X := hide_x C.on
  refine ⟨_, (pss_cons (ps_expr (pe_bm PySem.F.plainAttrs_list PySem.F.slot_list_append PySem.F.type_list_append mt_append (pv 1) (pa_cons (pv 0) pa_nil)))
    (pss_cons (ps_set (i := 4) sI_told.nd rfl (Or.inl rfl) (pe_op op_cat (pe_listRg rfl rfl T.f_list (prg_1 rfl T.f_range (pv 3))) (pe_lst (pa_cons pe_non (pa_cons pe_bl (pa_cons (pv 3) (pa_cons (pe_un un_neg pe_int) (pa_cons pe_str (pa_cons (pe_op op_sub (pv 3) pe_int) pa_nil)))))))))
    (pss_one (ps_ret (pe_ix ix_list (pv 4) (pe_op op_mod (pe_op op_add (pe_op op_add (pv 2) (pe_op op_mul pe_int (pe_ix ix_tup (pv 0) pe_int (fun _ _ => rfl)))) (pe_op op_mul pe_int (pe_ix ix_tup (pv 0) pe_int (fun _ _ => rfl)))) (pe_callB call_len_seq rfl T.f_len (by decide +kernel) (pa_cons (pv 4) pa_nil))) (fun _ _ => rfl)))))), ?_⟩
  have hasked : cs.lookup asked = none := C.on.out ha1 fun c v z => by unfold CellO at z; cases z
  have ha1' : hideC cs H asked = some (.lst (as.map V.ref)) := by
    rw [hide_out hasked]
    exact ha1
  refine ⟨_, rfl, .inl ⟨rfl, _, SqL.of ha1'⟩, _, rfl, asked, _, _, rfl, rfl, ha1', (by rw [List.length_map, ha2, sizeLine_eq]; omega), ?_⟩
  have k1 : Kp [asked] (hideC cs H) (upd (hideC cs H) asked (.lst (as.map V.ref ++ [V.ref sn]))) := Kp.refl.put (by simp) ha1' mvL
  refine ⟨_, rfl, wide, rfl, RgOk.of_le (by decide) (by omega) (by decide) w0, fun p1 hp1 => ?_⟩
  refine ⟨_, rfl, _, rfl, _, rfl, _, _, rfl, rfl, (by show 6 ≤ sizeLine; decide), fun p2 hp2 => ?_⟩
  have n12 : p1 ≠ p2 := ne_of_none upd_same hp2
  refine ⟨p1, p2, _, _, rfl, rfl, by rw [upd_ne n12]; exact upd_same, upd_same, (by rw [rgV_length, sizeLine_eq]; show (wide - 0).toNat + 6 ≤ _; omega), fun p3 hp3 => ?_⟩
  have na1 : asked ≠ p1 := ne_of_none upd_same hp1
  have kk : Kp [asked] (hideC cs H) (upd (upd (upd (upd (hideC cs H) asked (.lst (as.map V.ref ++ [V.ref sn]))) p1 (.lst (rgV 0 wide))) p2 (.lst [.non, .bl true, .int wide, .int (-1), .str "0", .int (wide - 1)])) p3 (.lst (rgV 0 wide ++ [.non, .bl true, .int wide, .int (-1), .str "0", .int (wide - 1)]))) := (((k1.trans (Kp.refl.new hp1)).trans (Kp.refl.new hp2)).trans (Kp.refl.new hp3))
  have hs1' := kk.tup (X.sqt hs1)
  have na2 : asked ≠ p2 := ne_of_none (by rw [upd_ne na1]; exact upd_same) hp2
  have na3 : asked ≠ p3 := ne_of_none (by rw [upd_ne na2, upd_ne na1]; exact upd_same) hp3
  have el : (rgV 0 wide ++ [V.non, .bl true, .int wide, .int (-1), .str "0", .int (wide - 1)]).length = wide.toNat + 6 := by
    rw [List.length_append, rgV_length]
    show (wide - 0).toNat + 6 = _
    omega
  refine ⟨_, rfl, _, rfl, _, rfl, sn, _, _, _, rfl, rfl, hs1', at_nat (by decide) rfl, _, _, rfl, rfl, .inl ⟨by decide, by decide⟩, _, _, rfl, rfl, _, rfl, sn, _, _, _, rfl, rfl, hs1', at_nat (by decide) rfl, _, _, rfl, rfl, .inl ⟨by decide, by decide⟩, _, _, rfl, rfl, _, rfl, p3, _, rfl, .inl (SqL.of upd_same), _, _, rfl, rfl, ?_⟩
  rw [el]
  refine ⟨(by show (0 : Int) < ((wide.toNat + 6 : Nat) : Int); omega), ?_⟩
  have em : (((wide.toNat + 6 : Nat)) : Int) = wide + 6 := by omega
  rw [em]
  have b0 := Int.emod_nonneg (seed + 7 * sd.num + 3 * sd.kept) (show wide + 6 ≠ 0 by omega)
  have b1 := Int.emod_lt_of_pos (seed + 7 * sd.num + 3 * sd.kept) (show 0 < wide + 6 by omega)
  refine ⟨p3, _, _, (ownL wide).getD ((seed + 7 * sd.num + 3 * sd.kept) % (wide + 6)).toNat .non, rfl, rfl, SqL.of upd_same, at_nat b0 ?_, ?_⟩
  · show (ownL wide)[((seed + 7 * sd.num + 3 * sd.kept) % (wide + 6)).toNat]? = _
    have hlt : ((seed + 7 * sd.num + 3 * sd.kept) % (wide + 6)).toNat < (ownL wide).length := by
      show _ < (rgV 0 wide ++ [V.non, .bl true, .int wide, .int (-1), .str "0", .int (wide - 1)]).length
      rw [el]
      omega
    rw [List.getD_eq_getElem?_getD, List.getElem?_eq_getElem hlt]
    rfl
  · have kt := kp_trk C.on kk
    refine k _ kt ⟨⟨as ++ [sn], ?_, by rw [List.length_append, List.length_append, ha2] <;> rfl, fun i a e => ?_⟩, by rw [List.length_append]; simp; omega⟩
    · rw [trk_out hasked, upd_ne na3, upd_ne na2, upd_ne na1, upd_same, List.map_append]
      rfl
    · by_cases hi : i < as.length
      · rw [List.getElem?_append_left hi] at e
        obtain ⟨q, e1, e2⟩ := ha3 i a e
        exact ⟨q, by rw [List.getElem?_append_left (by omega)]; exact e1, kt.x.seen e2⟩
      · have e2 := (List.getElem?_eq_some_iff.mp e).1
        rw [List.length_append] at e2
        simp at e2
        have hi2 : i = as.length := by omega
        subst hi2
        rw [List.getElem?_append_right (Nat.le_refl _), Nat.sub_self] at e
        cases e
        refine ⟨sd, by rw [ha2, List.getElem?_append_right (Nat.le_refl _), Nat.sub_self] <;> rfl, kt.x.seen hsn⟩
theorem call_rl (T : Tx K mg) (f : Addr) (asked : Addr) (r : Rl) : CallC P w K mg base 3 f (fun H => ChAt K H asked (.ref f) (.rl r)) (spTell K asked (.rl r)) := by
  refine ⟨fun A outer s H us vs Q E hr e0 hR rv hsp => ?_⟩
  obtain ⟨f', ef, hf⟩ := hR
  cases ef
  obtain ⟨sn, sd, seens, e, hsn, ok, ha, hl, k⟩ := hsp
  exact (call_R T f r).run A outer s H us vs Q E (hr.mono (by decide)) e0 hf rv ⟨sn, sd, e, hsn, ok, fun H' k1 => k H' k1 True.intro⟩
theorem call_ch (T : Tx K mg) (f : Addr) (asked : Addr) (ch : Ch) (hp : ∀ ps, ch ≠ .plan ps) : CallC P w K mg base 3 f (fun H => ChAt K H asked (.ref f) ch) (spTell K asked ch) := by
  cases ch with
  | plan ps => exact absurd rfl (hp ps)
  | own seed wide => exact ⟨fun A outer s H us vs Q E hr => (call_own T f asked seed wide).run A outer s H us vs Q E (hr.mono (by decide))⟩
  | rl r => exact call_rl T f asked r
  | calm r => exact call_calm T f asked r
theorem c_is_rate (T : Tx K mg) : Cal P w K mg base 2 "is_rate" (spIsRate K) := by
  have c_many_rates : Met P w K mg base 1 (cTalk K) "many_rates" (spMany K) := c_many_rates T
  refine mk_is_rate T (fun vs H Q E h => ?_) (fun cdv A outer s H vs Q E hr h => ?_)
  · obtain ⟨t, v, c, row, rest, rfl, _⟩ := h
    rfl
  · obtain ⟨t, v, c, row, rest, rfl, hT, he, hf, k⟩ := h
    refine ⟨_, (pss_one (ps_ret (pe_and (pe_callB call_isi rfl T.f_isinstance (by decide +kernel) (pa_cons (pv 1) (pa_cons (pe_bltn (v := .ty "int") rfl T.f_int (by decide +kernel) rfl) pa_nil))) (pe_and (pe_not (pe_callB call_isi rfl T.f_isinstance (by decide +kernel) (pa_cons (pv 1) (pa_cons (pe_bltn (v := .ty "bool") rfl T.f_bool (by decide +kernel) rfl) pa_nil)))) (pe_one (pe_chain op_le op_lt pe_int (pv 1) (pe_mt0 c_many_rates hr (by decide) (pv 0)))))))), ?_⟩
    have k0 := k H Kp.refl
    rcases hf with ⟨i, rfl⟩ | rfl | ⟨b, rfl⟩ | ⟨x, rfl⟩
    · refine ⟨_, rfl, _, _, _, _, true, rfl, .ty "int", .base (.int i), kit_ty (by decide +kernel), _, rfl, iteT ⟨_, rfl, _, _, _, _, false, rfl, .ty "bool", .base (.int i), kit_ty (by decide +kernel), _, rfl, _, rfl, iteT ⟨_, rfl, _, _, rfl, rfl, _, rfl, ?_⟩⟩⟩
      by_cases h0 : 0 ≤ i
      · rw [decide_eq_true h0]
        refine iteT ?_
        have hz := hT.2.2.1
        have hl := hT.2.1
        obtain ⟨dx, tl, ts, h1, h2, h3⟩ := id hT.1
        rw [he] at h3 hz
        refine ⟨_, rfl, t, dx, _, rfl, h1, rfl, t, c.lens, row, rest, rfl, ⟨dx, tl, ts, h1, h2, h3⟩, (by simp at hz; omega), fun H' k1 => ⟨_, _, rfl, rfl, ?_⟩⟩
        have := k H' k1
        have e : isRate row.length (.int i) = decide (i < (row.length : Int)) := by
          show (decide (0 ≤ i) && decide (i < (row.length : Int))) = _
          rw [decide_eq_true h0]
          rfl
        rw [e] at this
        exact this
      · rw [decide_eq_false h0]
        refine iteF ?_
        have e : isRate row.length (.int i) = false := by
          show (decide (0 ≤ i) && decide (i < (row.length : Int))) = _
          rw [decide_eq_false h0]
          rfl
        rw [e] at k0
        exact k0
    · exact ⟨_, rfl, _, _, _, _, false, rfl, .ty "int", .base .non, kit_ty (by decide +kernel), _, rfl, iteF k0⟩
    · exact ⟨_, rfl, _, _, _, _, true, rfl, .ty "int", .base (.bl b), kit_ty (by decide +kernel), _, rfl, iteT ⟨_, rfl, _, _, _, _, true, rfl, .ty "bool", .base (.bl b), kit_ty (by decide +kernel), _, rfl, _, rfl, iteF k0⟩⟩
    · exact ⟨_, rfl, _, _, _, _, false, rfl, .ty "int", .base (.str x), kit_ty (by decide +kernel), _, rfl, iteF k0⟩
end
end K76


set_option Elab.async false
set_option linter.all false
set_option maxRecDepth 100000
set_option maxHeartbeats 4000000
/-! rate_by; a Walk: made, asked. -/
namespace K76
open PySem PySem.Spec PyProof.Rows L2 LamX NdefX
open RPm (Cfg Std)
def spRateBy (K : PySem.W.Frag) : Sp := fun vs H Q _ => ∃ (t sn asked : Addr) (chv : V) (ch : Ch) (c : Cfg) (row : List Int) (rest : List (List Int)) (s : RPm.Seen) (seens : List RPm.Seen), vs = [.ref t, chv, .ref sn] ∧ CfgT K H t c ∧ c.sizes = row :: rest ∧ SeenAt K H sn s ∧ SeenOk ch.n s ∧
  ChAt K H asked chv ch ∧ AskP K H asked ch seens ∧ seens.length < 100000 ∧ (∀ ps, ch = .plan ps → s.num < ps.length) ∧ ∀ H', Kp (askS asked ch) H H' → AskP K H' asked ch (seens ++ [s]) → Q (.int (pick ch row.length s)) H'
structure WkA where
  t : Addr
  lim : Addr
  st : Addr
  r : Addr
  b : Addr
  w : Addr
  p : Addr
  s : Addr
  k : Addr
  dx : Addr
  ov : V
  sv : V
def WkA.S (a : WkA) (wk : Addr) : List Addr := [wk, a.r, a.b, a.w, a.p, a.s, a.k]
def wkV (a : WkA) (c : Cfg) (chv : V) (s : RPm.St) : List V := [.ref a.t, chv, .ref a.lim, .int c.wait, a.ov, .ref a.st, .int s.beat, rlV s.rl, a.sv, .ref a.r, .ref a.b, .ref a.w, .ref a.p, .ref a.s, .ref a.k]
structure WalkAt (K : PySem.W.Frag) (H : Hp) (wk : Addr) (c : Cfg) (chv : V) (a : WkA) (s : RPm.St) : Prop where
  ins : H wk = some (.ins (cWalk K) a.dx (kWalk.zip (wkV a c chv s)))
  cfg : CfgT K H a.t c
  lim : SqT K H a.lim [.int c.begin_, .int c.again, .int c.most]
  ov : OpV K H a.ov c.opens
  st : SqT K H a.st (stdV s.std)
  sl : SlAt K H a.sv s.sl
  r : H a.r = some (.lst (s.rates.map V.int))
  b : H a.b = some (.lst (s.begun.map V.int))
  w : H a.w = some (.lst (s.whole.map V.int))
  p : H a.p = some (.lst (s.plays.map V.int))
  sr : ∃ as, H a.s = some (.lst (as.map V.ref)) ∧ RowsL K H as (prs s.stalls)
  k : H a.k = some (.lst (s.kepts.map V.int))
  nd : [a.r, a.b, a.w, a.p, a.s, a.k].Nodup
theorem CfgT.x {K : PySem.W.Frag} {H H' : Hp} {t : Addr} {c : Cfg} (h : CfgT K H t c) (k : Kx H H') : CfgT K H' t c := ⟨k.talk h.1, h.2⟩
theorem OpV.x {K : PySem.W.Frag} {H H' : Hp} {ov : V} {op : Option (List Int)} (h : OpV K H ov op) (k : Kx H H') : OpV K H' ov op := by
  cases op with
  | none => exact h
  | some os =>
    obtain ⟨a, e, z⟩ := h
    exact ⟨a, e, k.sqt z⟩
theorem RowsL.x {K : PySem.W.Frag} {H H' : Hp} {as : List Addr} {rows : List (List Int)} (h : RowsL K H as rows) (k : Kx H H') : RowsL K H' as rows := ⟨h.1, fun i a e => by
  obtain ⟨r, e1, e2⟩ := h.2 i a e
  exact ⟨r, e1, k.sqt e2⟩⟩
theorem WalkAt.kp {K : PySem.W.Frag} {S : List Addr} {H H' : Hp} {wk : Addr} {c : Cfg} {chv : V} {a : WkA} {s : RPm.St} (h : WalkAt K H wk c chv a s) (k : KpN S H H') (hS : ∀ x ∈ a.S wk, x ∉ S) : WalkAt K H' wk c chv a s where
  ins := k.ins (hS _ (by simp [WkA.S])) h.ins
  cfg := h.cfg.x k.x
  lim := k.tup h.lim
  ov := h.ov.x k.x
  st := k.tup h.st
  sl := k.x.sl h.sl
  r := k.lst (hS _ (by simp [WkA.S])) h.r
  b := k.lst (hS _ (by simp [WkA.S])) h.b
  w := k.lst (hS _ (by simp [WkA.S])) h.w
  p := k.lst (hS _ (by simp [WkA.S])) h.p
  sr := by
    obtain ⟨as, h1, h2⟩ := h.sr
    exact ⟨as, k.lst (hS _ (by simp [WkA.S])) h1, h2.x k.x⟩
  k := k.lst (hS _ (by simp [WkA.S])) h.k
  nd := h.nd
/-- a Walk half made -/
structure InitZ (H G : Hp) (C p dx : Addr) (n : Nat) (vs : List V) (ls : List Addr) (lim : Addr) (lv : List V) : Prop where
  ins : G p = some (.ins C dx ((kWalk.take n).zip vs))
  lst : ∀ l ∈ ls, G l = some (.lst [])
  fr : ∀ l ∈ ls, H l = none
  nd : ls.Nodup
  lim : G lim = some (.tup lv)
  old : ∀ b o, H b = some o → b ≠ p → G b = some o
theorem InitZ.next {H G : Hp} {C p dx : Addr} {n : Nat} {vs : List V} {ls : List Addr} {lim l : Addr} {lv : List V} {fs : List (Str × V)} (z : InitZ H G C p dx n vs ls lim lv) (hp : H p = some (.ins C dx fs)) (hl : G l = none) :
    InitZ H (upd (upd G l (.lst [])) p (.ins C dx ((kWalk.take (n + 1)).zip (vs ++ [.ref l])))) C p dx (n + 1) (vs ++ [.ref l]) (ls ++ [l]) lim lv := by
  have npl : p ≠ l := ne_of_none z.ins hl
  have Hl : H l = none := by
    cases e : H l with
    | none => rfl
    | some o => rw [z.old l o e (Ne.symm npl)] at hl; cases hl
  have ne : ∀ x, x ∈ ls → x ≠ p := fun x hx e => by
    have := z.fr x hx
    rw [e, hp] at this
    cases this
  have ne2 : ∀ x, x ∈ ls → x ≠ l := fun x hx e => by
    have := z.lst x hx
    rw [e, hl] at this
    cases this
  refine ⟨upd_same, fun x hx => ?_, fun x hx => ?_, ?_, ?_, fun b o e hb => ?_⟩
  · rcases List.mem_append.mp hx with hx | hx
    · rw [upd_ne (ne x hx), upd_ne (ne2 x hx)]
      exact z.lst x hx
    · rw [List.mem_singleton.mp hx, upd_ne (Ne.symm npl)]
      exact upd_same
  · rcases List.mem_append.mp hx with hx | hx
    · exact z.fr x hx
    · rw [List.mem_singleton.mp hx]
      exact Hl
  · exact List.nodup_append.mpr ⟨z.nd, by simp, fun a ha b hb => by
      rw [List.mem_singleton.mp hb]
      exact ne2 a ha⟩
  · rw [upd_ne (ne_of z.lim z.ins (by intro q; cases q)), upd_ne (ne_of_none z.lim hl)]
    exact z.lim
  · rw [upd_ne hb, upd_ne (ne_of_none e Hl)]
    exact z.old b o e hb
def spWalkInit (K : PySem.W.Frag) : Sp := fun vs H Q _ => ∃ (p t dx : Addr) (chv ov : V) (c : Cfg), vs = [.ref p, .ref t, chv, .int c.begin_, .int c.again, .int c.most, .int c.wait, ov] ∧ H p = some (.ins (cWalk K) dx []) ∧ CfgT K H t c ∧ (∀ x ∈ c.lens, x ≤ c.most) ∧ OpV K H ov c.opens ∧
  ∀ (a : WkA) (H' : Hp), WalkAt K H' p c chv a RPm.st0 → (∀ x ∈ [a.r, a.b, a.w, a.p, a.s, a.k], H x = none) → (∀ b o, H b = some o → b ≠ p → H' b = some o) → Q .non H'
def spIsAtEnd (K : PySem.W.Frag) : Sp := fun vs H Q _ => ∃ (wk : Addr) (c : Cfg) (chv : V) (a : WkA) (s : RPm.St), vs = [.ref wk] ∧ WalkAt K H wk c chv a s ∧ ∀ H', Kp [] H H' → Q (.bl (RPm.over c s)) H'
def spAsksHere (K : PySem.W.Frag) : Sp := fun vs H Q _ => ∃ (wk : Addr) (c : Cfg) (chv : V) (a : WkA) (s : RPm.St), vs = [.ref wk] ∧ WalkAt K H wk c chv a s ∧ 0 ≤ s.std.num ∧ (∀ os, c.opens = some os → os.length = c.lens.length) ∧ ∀ H', Kp [] H H' → Q (.bl (RPm.asks c s)) H'
section
variable {P : Program} {w : World} {K : PySem.W.Frag} {mg : Str → Option Value} {base : Heap}
theorem ch_fn {H : Hp} {asked : Addr} {v : V} {ch : Ch} (h : ChAt K H asked v ch) (hp : ∀ ps, ch ≠ .plan ps) : ∃ f F0, v = .ref f ∧ H f = some (FnO f F0) := by
  cases ch with
  | plan ps => exact absurd rfl (hp ps)
  | own seed wide =>
    obtain ⟨f, cl, c, cs, e, h, _⟩ := h
    exact ⟨f, _, e, h.fn⟩
  | rl r =>
    obtain ⟨f, e, h⟩ := h
    cases r with
    | store steps =>
      obtain ⟨cl, c, cs, a, h1, _⟩ := h
      exact ⟨f, _, e, h1.fn⟩
    | speed lens sizes x y =>
      obtain ⟨cl, c, cs, t, p, h1, _⟩ := h
      exact ⟨f, _, e, h1.fn⟩
  | calm r =>
    obtain ⟨f, cl, c, cs, g, e, h1, _⟩ := h
    exact ⟨f, _, e, h1.fn⟩
theorem c_rate_by (T : Tx K mg) : Cal P w K mg base 4 "rate_by" (spRateBy K) := by
  have c_is_rate : Cal P w K mg base 2 "is_rate" (spIsRate K) := c_is_rate T
  refine mk_rate_by T (fun vs H Q E h => ?_) (fun cdv A outer s H vs Q E hr h => ?_)
  · obtain ⟨t, sn, asked, chv, ch, c, row, rest, s, seens, rfl, _⟩ := h
    rfl
  · obtain ⟨t, sn, asked, chv, ch, c, row, rest, sd, seens, rfl, hT, he, hsn, ok, hch, hask, hl, hpl, k⟩ := h
    refine ⟨_, (pss_cons (ps_if (pt_val (pe_callB cr_isiE rfl T.f_isinstance (by decide +kernel) (pa_cons (pv 1) (pa_cons (pe_bltn (v := .ty "tuple") rfl T.f_tuple (by decide +kernel) rfl) pa_nil)))) (pss_one (ps_ret (pe_ix ix_tup (pv 1) (pe_ix ix_tup (pv 2) pe_int (fun _ _ => rfl)) (fun _ _ => rfl)))) pss_nil)
    (pss_cons (ps_set (i := 3) sc_rate_by.nd rfl (Or.inl rfl) (pe_callC (i := 1) rfl (Or.inl rfl) (pa_cons (pv 2) pa_nil)))
    (pss_one (ps_ret (pe_ifExp (pt_val (pe_c c_is_rate hr (by decide) rfl (pa_cons (pv 0) (pa_cons (pv 3) pa_nil)))) (pv 3) pe_int))))), ?_⟩
    obtain ⟨sv, hs1, hs2⟩ := id hsn
    by_cases hp : ∃ ps, ch = .plan ps
    · obtain ⟨ps, rfl⟩ := hp
      obtain ⟨a, rfl, hps⟩ := hch
      refine ⟨_, rfl, .inr ⟨_, _, _, _, true, rfl, .ty "tuple", tyx_tup hps, kit_ty (by decide +kernel), _, rfl, iteT ?_⟩⟩
      exact ⟨_, rfl, _, rfl, sn, _, _, _, rfl, rfl, hs1, at_nat (by decide) rfl, a, _, _, _, rfl, rfl, hps, at_int ok.1 (hpl ps rfl), k H Kp.refl True.intro⟩
    · have hp : ∀ ps, ch ≠ .plan ps := fun ps e => hp ⟨ps, e⟩
      obtain ⟨f, F0, rfl, hf⟩ := ch_fn hch hp
      refine ⟨_, rfl, .inl ⟨f, F0, _, _, false, rfl, hf, .ty "tuple", kit_ty (by decide +kernel), _, rfl, iteF ?_⟩⟩
      refine ⟨f, F0, 3, _, _, rfl, hf, call_ch T f asked ch hp, hr, _, rfl, hf, hch, sn, sd, seens, rfl, hsn, ok, hask, hl, fun H1 k1 ha1 => ?_⟩
      have ep : pick ch row.length sd = rateOf row.length (tellV ch sd) := by
        cases ch with
        | plan ps => exact absurd rfl (hp ps)
        | own _ _ => rfl
        | rl _ => rfl
        | calm _ => rfl
      refine ⟨_, rfl, _, rfl, t, _, c, row, rest, rfl, hT.x k1.x, he, flat_tell ch sd, fun H2 k2 => ⟨_, rfl, ?_⟩⟩
      have fin := k H2 (k1.trans (k2.mono (by simp))) (ha1.kp k2.toN (by simp))
      rw [ep] at fin
      cases hb : isRate row.length (tellV ch sd) with
      | true =>
        refine iteT ⟨_, rfl, ?_⟩
        cases hv : tellV ch sd with
        | int i =>
          rw [hv] at hb fin
          have e : rateOf row.length (.int i) = i := by
            show (if isRate row.length (.int i) = true then i else 0) = i
            rw [if_pos hb]
          rw [e] at fin
          exact fin
        | _ => rw [hv] at hb; cases hb
      | false =>
        refine iteF ?_
        have e : rateOf row.length (tellV ch sd) = 0 := by
          unfold rateOf
          cases hv : tellV ch sd with
          | int i =>
            rw [hv] at hb
            show (if isRate row.length (.int i) = true then i else 0) = 0
            rw [if_neg (by rw [hb]; decide)]
          | _ => rfl
        rw [e] at fin
        exact fin
theorem c_look_room (T : Tx K mg) : Cal P w K mg base 1 "look_room" (spLook K) := by
  refine mk_look_room T (fun vs H Q E h => ?_) (fun cdv A outer s H vs Q E hr h => ?_)
  · obtain ⟨t, c, rfl, _⟩ := h
    rfl
  · obtain ⟨t, c, rfl, hT, hm, k⟩ := h
    refine ⟨_, (pss_one (ps_for PassesOwn.never rfl (pi_enumT rfl T.f_enumerate (pa_cons (pe_fld (pv 0) rfl) pa_nil)) (pg_tup rfl (pgs_cons (pg_name (i := 2) sc_look_room.nd rfl (Or.inl rfl)) (pgs_cons (pg_name (i := 3) sc_look_room.nd rfl (Or.inl rfl)) pgs_nil)))
      (pss_one (ps_if (pt_cmpR op_gt (pv 3) (pv 1) (nomark _)) (pss_one (ps_never)) pss_nil)))), ?_⟩
    obtain ⟨dx, tl, ts, h1, h2, h3⟩ := hT.1
    refine ⟨_, rfl, t, _, _, _, _, rfl, h1, T.cl_Talk, T.n_Talk_lengths, lookF (i := 0) nd_Talk rfl rfl, tl, _, rfl, h2, for_it (walk_enumT (K := K) (a := tl) (xs := c.lens.map V.int)) (fun i σ H2 => ∃ v2 v3 : Option V, σ = [some (.ref t), some (.int c.most), v2, v3] ∧ Kp [] H H2) ⟨none, none, rfl, Kp.refl⟩ (fun i σ H2 _ ⟨_, _, _, k2⟩ => k2.tup h2) ?_ ?_⟩
    · rintro i x σ H2 H3 hi ⟨v2, v3, rfl, k2⟩ ⟨Tt, z1, z2, rfl, hTt, rfl, ez1, ez2⟩
      cases ez1
      rw [List.length_map] at hi
      have ez2 : (c.lens.map V.int)[i]? = some z2 := ez2
      rw [List.getElem?_map, List.getElem?_eq_getElem hi] at ez2
      cases ez2
      refine ⟨Tt, _, rfl, SqT.of upd_same, rfl, _, _, rfl, _, _, rfl, rfl, _, rfl, _, rfl, _, _, rfl, rfl, _, rfl, ?_⟩
      have := hm _ (List.getElem_mem hi)
      rw [decide_eq_false (by omega)]
      exact iteF ⟨_, _, rfl, k2.trans (Kp.refl.new hTt)⟩
    · rintro σ H2 ⟨v2, v3, rfl, k2⟩
      exact k H2 k2
theorem c_Walk_init (T : Tx K mg) : ∃ fd, FnP K "__init__" "Walk.__init__" s_Walk_init [("begin", V.int 4), ("again", V.int 8), ("most", V.int 30), ("wait", V.int 0), ("opens", V.non)] (He.ma K (He.ga K "Walk") "__init__") fd ∧ FnOk P w K mg base CX0 2 (He.ma K (He.ga K "Walk") "__init__") fd ["self", "talk", "chooser", "begin", "again", "most", "wait", "opens"] (spWalkInit K) := by
  have c_look_room : Cal P w K mg base 1 "look_room" (spLook K) := c_look_room T
  have c_first_stand : Cal P w K mg base 1 "first_stand" (spFirst K) := c_first_stand T
  refine mk_Walk_init T (fun vs H Q E h => ?_) (fun cdv A outer s H vs Q E hr h => ?_)
  · obtain ⟨p, t, dx, chv, ov, c, rfl, _⟩ := h
    rfl
  · obtain ⟨p, t, dx, chv, ov, c, rfl, hp, hT, hm, ho, k⟩ := h
    refine ⟨_, (pss_cons (ps_expr (pe_c c_look_room hr (by decide) rfl (pa_cons (pv 1) (pa_cons (pv 5) pa_nil))))
    (pss_cons (ps_fld (pv 0) (pv 1) rfl)
    (pss_cons (ps_fld (pv 0) (pv 2) rfl)
    (pss_cons (ps_fld (pv 0) (pe_tup (pa_cons (pv 3) (pa_cons (pv 4) (pa_cons (pv 5) pa_nil)))) rfl)
    (pss_cons (ps_fld (pv 0) (pv 6) rfl)
    (pss_cons (ps_fld (pv 0) (pv 7) rfl)
    (pss_cons (ps_fld (pv 0) (pe_c0 c_first_stand hr (by decide) rfl) rfl)
    (pss_cons (ps_fld (pv 0) pe_int rfl)
    (C8.pss_cut (ps_asg2 pe_non (pg_fld (pv 0)) (pg_fld (pv 0)))
    (C8.pss_cut (ps_fld (pv 0) (pe_lst pa_nil) rfl)
    (C8.pss_cut (ps_fld (pv 0) (pe_lst pa_nil) rfl)
    (C8.pss_cut (ps_fld (pv 0) (pe_lst pa_nil) rfl)
    (C8.pss_cut (ps_fld (pv 0) (pe_lst pa_nil) rfl)
    (C8.pss_cut (ps_fld (pv 0) (pe_lst pa_nil) rfl)
    (pss_one (ps_fld (pv 0) (pe_lst pa_nil) rfl)))))))))))))))), ?_⟩
    refine ⟨_, rfl, _, rfl, t, c, rfl, hT, hm, fun H1 k1 => ?_⟩
    have hp1 : H1 p = some (.ins (cWalk K) dx []) := k1.ins (by simp) hp
    have z0 : (0 : Nat) ≤ sizeLine := by decide
    refine ⟨_, rfl, rd_new (ks := kWalk) (vs := []) 0 rfl hp1 T.cl_Walk T.n_Walk_talk_walked nd_Walk rfl rfl (by decide) ?_⟩
    refine ⟨_, rfl, rd_new (ks := kWalk) (vs := [.ref t]) 1 rfl upd_same T.cl_Walk T.n_Walk_chooser_asked nd_Walk rfl rfl (by decide) ?_⟩
    rw [upd_upd]
    refine ⟨_, rfl, _, rfl, _, rfl, (by show 3 ≤ sizeLine; decide), fun lim hlim => ?_⟩
    have n1 : p ≠ lim := ne_of_none upd_same hlim
    refine rd_new (ks := kWalk) (vs := [.ref t, chv]) 2 rfl (by rw [upd_ne n1]; exact upd_same) T.cl_Walk T.n_Walk_limits nd_Walk rfl rfl (by decide) ?_
    refine ⟨_, rfl, rd_new (ks := kWalk) (vs := [.ref t, chv, .ref lim]) 3 rfl upd_same T.cl_Walk T.n_Walk_waiting nd_Walk rfl rfl (by decide) ?_⟩
    refine ⟨_, rfl, rd_new (ks := kWalk) (vs := [.ref t, chv, .ref lim, .int c.wait]) 4 rfl upd_same T.cl_Walk T.n_Walk_opening nd_Walk rfl rfl (by decide) ?_⟩
    refine ⟨rfl, rd_new (ks := kWalk) (vs := [.ref t, chv, .ref lim, .int c.wait, ov]) 5 rfl upd_same T.cl_Walk T.n_Walk_stand_here nd_Walk rfl rfl (by decide) ?_⟩
    refine rd_new (ks := kWalk) (vs := [.ref t, chv, .ref lim, .int c.wait, ov, .ref (He.ga K "FIRST")]) 6 rfl upd_same T.cl_Walk T.n_Walk_beat_here nd_Walk rfl rfl (by decide) ?_
    simp only [upd_upd]
    have Hlim : H lim = none := by
      cases e : H lim with
      | none => rfl
      | some o =>
        have e1 := k1.toSame lim o e
        rw [upd_ne (Ne.symm n1), e1] at hlim
        cases hlim
    have hlv : ∀ G : Hp, True := fun _ => True.intro
    refine ⟨fun σ' G => σ' = [some (.ref p), some (.ref t), some chv, some (.int c.begin_), some (.int c.again), some (.int c.most), some (.int c.wait), some ov] ∧ InitZ H G (cWalk K) p dx 9 [.ref t, chv, .ref lim, .int c.wait, ov, .ref (He.ga K "FIRST"), .int 0, .non, .non] [] lim [.int c.begin_, .int c.again, .int c.most], ?_, ?_⟩
    · refine rd_new (R := fun σ2 H2 => gFld K (tVar 0) "speed_last" V.non σ2 H2 _) (ks := kWalk) (vs := [.ref t, chv, .ref lim, .int c.wait, ov, .ref (He.ga K "FIRST"), .int 0]) 7 rfl upd_same T.cl_Walk T.n_Walk_rate_last nd_Walk rfl rfl (by decide) ?_
      refine rd_new (ks := kWalk) (vs := [.ref t, chv, .ref lim, .int c.wait, ov, .ref (He.ga K "FIRST"), .int 0, .non]) 8 rfl upd_same T.cl_Walk T.n_Walk_speed_last nd_Walk rfl rfl (by decide) ?_
      simp only [upd_upd]
      refine ⟨rfl, upd_same, by simp, by simp, by simp, ?_, fun b o e hb => ?_⟩
      · rw [upd_ne (Ne.symm n1)]
        exact upd_same
      · rw [upd_ne hb, upd_ne (ne_of_none e Hlim), upd_ne hb]
        exact k1.toSame b o e
    rintro _ G ⟨rfl, z⟩
    refine ⟨fun σ' G' => σ' = [some (.ref p), some (.ref t), some chv, some (.int c.begin_), some (.int c.again), some (.int c.most), some (.int c.wait), some ov] ∧ ∃ l, InitZ H G' (cWalk K) p dx 10 [.ref t, chv, .ref lim, .int c.wait, ov, .ref (He.ga K "FIRST"), .int 0, .non, .non, .ref l] [l] lim [.int c.begin_, .int c.again, .int c.most], ⟨z0, fun l hl => rd_new (ks := kWalk) 9 rfl (by rw [upd_ne (ne_of_none z.ins hl)]; exact z.ins) T.cl_Walk T.n_Walk_rates nd_Walk rfl rfl (by decide) ⟨rfl, l, z.next hp hl⟩⟩, ?_⟩
    rintro _ G ⟨rfl, l1, z⟩
    refine ⟨fun σ' G' => σ' = [some (.ref p), some (.ref t), some chv, some (.int c.begin_), some (.int c.again), some (.int c.most), some (.int c.wait), some ov] ∧ ∃ l, InitZ H G' (cWalk K) p dx 11 [.ref t, chv, .ref lim, .int c.wait, ov, .ref (He.ga K "FIRST"), .int 0, .non, .non, .ref l1, .ref l] [l1, l] lim [.int c.begin_, .int c.again, .int c.most], ⟨z0, fun l hl => rd_new (ks := kWalk) 10 rfl (by rw [upd_ne (ne_of_none z.ins hl)]; exact z.ins) T.cl_Walk T.n_Walk_begun nd_Walk rfl rfl (by decide) ⟨rfl, l, z.next hp hl⟩⟩, ?_⟩
    rintro _ G ⟨rfl, l2, z⟩
    refine ⟨fun σ' G' => σ' = [some (.ref p), some (.ref t), some chv, some (.int c.begin_), some (.int c.again), some (.int c.most), some (.int c.wait), some ov] ∧ ∃ l, InitZ H G' (cWalk K) p dx 12 [.ref t, chv, .ref lim, .int c.wait, ov, .ref (He.ga K "FIRST"), .int 0, .non, .non, .ref l1, .ref l2, .ref l] [l1, l2, l] lim [.int c.begin_, .int c.again, .int c.most], ⟨z0, fun l hl => rd_new (ks := kWalk) 11 rfl (by rw [upd_ne (ne_of_none z.ins hl)]; exact z.ins) T.cl_Walk T.n_Walk_whole nd_Walk rfl rfl (by decide) ⟨rfl, l, z.next hp hl⟩⟩, ?_⟩
    rintro _ G ⟨rfl, l3, z⟩
    refine ⟨fun σ' G' => σ' = [some (.ref p), some (.ref t), some chv, some (.int c.begin_), some (.int c.again), some (.int c.most), some (.int c.wait), some ov] ∧ ∃ l, InitZ H G' (cWalk K) p dx 13 [.ref t, chv, .ref lim, .int c.wait, ov, .ref (He.ga K "FIRST"), .int 0, .non, .non, .ref l1, .ref l2, .ref l3, .ref l] [l1, l2, l3, l] lim [.int c.begin_, .int c.again, .int c.most], ⟨z0, fun l hl => rd_new (ks := kWalk) 12 rfl (by rw [upd_ne (ne_of_none z.ins hl)]; exact z.ins) T.cl_Walk T.n_Walk_plays nd_Walk rfl rfl (by decide) ⟨rfl, l, z.next hp hl⟩⟩, ?_⟩
    rintro _ G ⟨rfl, l4, z⟩
    refine ⟨fun σ' G' => σ' = [some (.ref p), some (.ref t), some chv, some (.int c.begin_), some (.int c.again), some (.int c.most), some (.int c.wait), some ov] ∧ ∃ l, InitZ H G' (cWalk K) p dx 14 [.ref t, chv, .ref lim, .int c.wait, ov, .ref (He.ga K "FIRST"), .int 0, .non, .non, .ref l1, .ref l2, .ref l3, .ref l4, .ref l] [l1, l2, l3, l4, l] lim [.int c.begin_, .int c.again, .int c.most], ⟨z0, fun l hl => rd_new (ks := kWalk) 13 rfl (by rw [upd_ne (ne_of_none z.ins hl)]; exact z.ins) T.cl_Walk T.n_Walk_stalls nd_Walk rfl rfl (by decide) ⟨rfl, l, z.next hp hl⟩⟩, ?_⟩
    rintro _ G ⟨rfl, l5, z⟩
    refine ⟨z0, fun l6 hl => rd_new (ks := kWalk) 14 rfl (by rw [upd_ne (ne_of_none z.ins hl)]; exact z.ins) T.cl_Walk T.n_Walk_kept nd_Walk rfl rfl (by decide) ?_⟩
    have zz := z.next (l := l6) hp hl
    have Y : ∀ a xs, SqT K H a xs → SqT K _ a xs := fun a xs h => h.elim (fun h => .inl (h.elim (fun h => .inl (zz.old a _ h (ne_of h hp (by intro q; cases q)))) fun ⟨o, h⟩ => .inr ⟨o, zz.old a _ h (ne_of h hp (by intro q; cases q))⟩)) fun h => .inr h
    refine k ⟨t, lim, He.ga K "FIRST", l1, l2, l3, l4, l5, l6, dx, ov, .non⟩ _ ?_ zz.fr zz.old
    refine ⟨zz.ins, ⟨?_, hT.2⟩, SqT.of zz.lim, ?_, first_at T _, rfl, zz.lst l1 (by simp), zz.lst l2 (by simp), zz.lst l3 (by simp), zz.lst l4 (by simp), ⟨[], zz.lst l5 (by simp), rfl, fun i a e => by simp at e⟩, zz.lst l6 (by simp), zz.nd⟩
    · obtain ⟨dt, tl, ts, g1, g2, as, g3, g4, g5⟩ := hT.1
      have ntp : t ≠ p := fun e => by
        rw [e, hp] at g1
        have g1 := Option.some.inj g1
        injection g1 with _ _ e3
        exact absurd (congrArg List.length e3) (by show ¬ 0 = 2; decide)
      refine ⟨dt, tl, ts, zz.old t _ g1 ntp, Y _ _ g2, as, Y _ _ g3, g4, fun i a e => ?_⟩
      obtain ⟨r, e1, e2⟩ := g5 i a e
      exact ⟨r, e1, Y _ _ e2⟩
    · show OpV K _ ov c.opens
      cases hop : c.opens with
      | none =>
        rw [hop] at ho
        exact ho
      | some os =>
        rw [hop] at ho
        obtain ⟨a, e, h⟩ := ho
        exact ⟨a, e, Y _ _ h⟩
theorem c_is_at_end (T : Tx K mg) : Met P w K mg base 4 (cWalk K) "is_at_end" (spIsAtEnd K) := by
  have c_is_over : Cal P w K mg base 3 "is_over" (spIsOver K) := c_is_over T
  refine mk_Walk_is_at_end T (fun vs H Q E h => ?_) (fun cdv A outer s H vs Q E hr h => ?_)
  · obtain ⟨wk, c, chv, a, s, rfl, _⟩ := h
    rfl
  · obtain ⟨wk, c, chv, a, sd, rfl, hW, k⟩ := h
    refine ⟨_, (pss_one (ps_ret (pe_c c_is_over hr (by decide) rfl (pa_cons (pe_fld (pv 0) rfl) (pa_cons (pe_fld (pv 0) rfl) pa_nil))))), ?_⟩
    exact ⟨_, rfl, wk, _, _, _, _, rfl, hW.ins, T.cl_Walk, T.n_Walk_talk_walked, lookF (i := 0) nd_Walk rfl rfl, _, rfl, wk, _, _, _, _, rfl, hW.ins, T.cl_Walk, T.n_Walk_stand_here, lookF (i := 5) nd_Walk rfl rfl, a.t, a.st, c, sd.std, rfl, hW.cfg, hW.st, k⟩
theorem c_asks_here (T : Tx K mg) : Met P w K mg base 2 (cWalk K) "asks_here" (spAsksHere K) := by
  have c_has_room : Cal P w K mg base 1 "has_room" (spHasRoom K) := c_has_room T
  refine mk_Walk_asks_here T (fun vs H Q E h => ?_) (fun cdv A outer s H vs Q E hr h => ?_)
  · obtain ⟨wk, c, chv, a, s, rfl, _⟩ := h
    rfl
  · obtain ⟨wk, c, chv, a, sd, rfl, hW, hn, hol, k⟩ := h
    refine ⟨_, (pss_cons (ps_asg (pe_fld (pv 0) rfl) (pg_star rfl (pgs_cons (pg_name (i := 1) sc_Walk_asks_here.nd rfl (Or.inl rfl)) (pgs_cons (pg_name (i := 2) sc_Walk_asks_here.nd rfl (Or.inl rfl)) (pgs_star (pg_name (i := 3) sc_Walk_asks_here.nd rfl (Or.inl rfl)))))))
    (pss_cons (ps_if (PW.pt (pw_or (pt_cmpR op_ne (pv 2) (C8.pe_gc rfl T.i_NONE) (nomark _)) (pw_or1 (pt_not (pt_val (pe_c c_has_room hr (by decide) rfl (pa_cons (pe_fld (pv 0) rfl) (pa_cons (pe_fld (pv 0) rfl) (pa_cons (pe_ix ix_tup (pe_fld (pv 0) rfl) pe_int (fun _ _ => rfl)) pa_nil))))))))) (pss_one (ps_ret pe_bl)) pss_nil)
    (pss_one (ps_ret (pe_or (pe_cmpR op_isN (pe_fld (pv 0) rfl) pe_non (nomark _)) (pe_one (pe_cmpR op_le (pe_ix ix_tup (pe_fld (pv 0) rfl) (pv 1) (fun _ _ => rfl)) (pe_fld (pv 0) rfl) (nomark _)))))))), ?_⟩
    refine ⟨_, rfl, wk, _, _, _, _, rfl, hW.ins, T.cl_Walk, T.n_Walk_stand_here, lookF (i := 5) nd_Walk rfl rfl, a.st, _, rfl, hW.st, (by show 2 ≤ 6; decide), (by show 6 ≤ 16384; decide), fun p hp => ⟨_, _, rfl, _, _, rfl, _, _, rfl, rfl, ?_⟩⟩
    have k1 : Kp [] H (upd H p (.lst [.int sd.std.got, .int sd.std.kept, .int sd.std.played, .int sd.std.going])) := Kp.refl.new hp
    have W1 := hW.kp k1.toN (by simp)
    refine ⟨_, rfl, rfl, _, rfl, ?_⟩
    rw [dec_int, Bool.beq_eq_decide_eq]
    by_cases hc : sd.std.coming = -1
    · rw [decide_eq_true hc]
      refine iteF ?_
      refine ⟨_, rfl, wk, _, _, _, _, rfl, W1.ins, T.cl_Walk, T.n_Walk_talk_walked, lookF (i := 0) nd_Walk rfl rfl, _, rfl, wk, _, _, _, _, rfl, W1.ins, T.cl_Walk, T.n_Walk_stand_here, lookF (i := 5) nd_Walk rfl rfl, _, rfl, wk, _, _, _, _, rfl, W1.ins, T.cl_Walk, T.n_Walk_limits, lookF (i := 2) nd_Walk rfl rfl, a.lim, _, _, _, rfl, rfl, W1.lim, at_nat (by decide) rfl, a.t, a.st, c, sd.std, rfl, W1.cfg, W1.st, hn, fun H2 k2 => ⟨_, rfl, ?_⟩⟩
      have kk := k1.trans k2
      have W2 := W1.kp k2.toN (by simp)
      have fin := k H2 kk
      cases hr' : RPm.hasRoom c sd.std with
      | false =>
        have e : RPm.asks c sd = false := by
          unfold RPm.asks
          rw [hr', decide_eq_true hc]
          rfl
        rw [e] at fin
        exact iteT fin
      | true =>
        have e : RPm.asks c sd = RPm.isOpen c sd := by
          unfold RPm.asks
          rw [hr', decide_eq_true hc]
          rfl
        rw [e] at fin
        refine iteF ?_
        have ho := W2.ov
        refine ⟨_, rfl, wk, _, _, _, _, rfl, W2.ins, T.cl_Walk, T.n_Walk_opening, lookF (i := 4) nd_Walk rfl rfl, rfl, _, rfl, ?_⟩
        cases hop : c.opens with
        | none =>
          rw [hop] at ho
          have ho : a.ov = .non := ho
          rw [ho]
          have e2 : RPm.isOpen c sd = true := by
            unfold RPm.isOpen
            rw [hop]
          rw [e2] at fin
          exact iteT fin
        | some os =>
          rw [hop] at ho
          obtain ⟨oa, eo, hos⟩ := ho
          rw [eo]
          have e2 : RPm.isOpen c sd = decide (os.getD sd.std.num.toNat 0 ≤ sd.beat) := by
            unfold RPm.isOpen
            rw [hop]
          rw [e2] at fin
          have hlt : sd.std.num < (os.length : Int) := by
            unfold RPm.hasRoom at hr'
            simp only [Bool.and_eq_true, decide_eq_true_eq] at hr'
            rw [hol os hop]
            exact hr'.1
          have ins2 := W2.ins
          exact iteF ⟨_, rfl, wk, _, _, _, _, rfl, ins2, T.cl_Walk, T.n_Walk_opening, lookF (i := 4) nd_Walk rfl (by show some a.ov = _; rw [eo]), _, rfl, oa, _, _, _, rfl, rfl, hos, at_int hn hlt, _, rfl, wk, _, _, _, _, rfl, ins2, T.cl_Walk, T.n_Walk_beat_here, lookF (i := 6) nd_Walk rfl rfl, _, _, rfl, rfl, fin⟩
    · rw [decide_eq_false hc]
      have fin := k _ k1
      have e : RPm.asks c sd = false := by
        unfold RPm.asks
        rw [decide_eq_false hc]
        rfl
      rw [e] at fin
      exact iteT (iteT fin)
end
end K76


set_option Elab.async false
set_option linter.all false
set_option maxRecDepth 100000
set_option maxHeartbeats 4000000
/-! A Walk changed; a choice made. -/
namespace K76
open PySem PySem.Spec PyProof.Rows L2 LamX NdefX
open RPm (Cfg Std)
section
variable {K : PySem.W.Frag} {H : Hp} {wk : Addr} {c : Cfg} {chv : V} {a : WkA} {s : RPm.St}
theorem WalkAt.wne (h : WalkAt K H wk c chv a s) : wk ≠ a.r ∧ wk ≠ a.b ∧ wk ≠ a.w ∧ wk ≠ a.p ∧ wk ≠ a.s ∧ wk ≠ a.k := by
  obtain ⟨as, h1, _⟩ := h.sr
  exact ⟨ne_of h.ins h.r (by intro q; cases q), ne_of h.ins h.b (by intro q; cases q), ne_of h.ins h.w (by intro q; cases q), ne_of h.ins h.p (by intro q; cases q), ne_of h.ins h1 (by intro q; cases q), ne_of h.ins h.k (by intro q; cases q)⟩
theorem WalkAt.lne (h : WalkAt K H wk c chv a s) : (a.r ≠ a.b ∧ a.r ≠ a.w ∧ a.r ≠ a.p ∧ a.r ≠ a.s ∧ a.r ≠ a.k) ∧ (a.b ≠ a.w ∧ a.b ≠ a.p ∧ a.b ≠ a.s ∧ a.b ≠ a.k) ∧ (a.w ≠ a.p ∧ a.w ≠ a.s ∧ a.w ≠ a.k) ∧ (a.p ≠ a.s ∧ a.p ≠ a.k) ∧ a.s ≠ a.k := by
  have := h.nd
  simp only [List.nodup_cons, List.mem_cons, List.not_mem_nil, or_false, not_or, List.nodup_nil, not_false_eq_true, and_true] at this
  obtain ⟨⟨a1, a2, a3, a4, a5⟩, ⟨b1, b2, b3, b4⟩, ⟨c1, c2, c3⟩, ⟨d1, d2⟩, e1⟩ := this
  exact ⟨⟨a1, a2, a3, a4, a5⟩, ⟨b1, b2, b3, b4⟩, ⟨c1, c2, c3⟩, ⟨d1, d2⟩, e1⟩
theorem n1 {x y : Addr} (h : x ≠ y) : x ∉ [y] := by simpa using h
/-- a field is put -/
theorem WalkAt.put (h : WalkAt K H wk c chv a s) {q : Addr} {v' : V} {std' : Std} {beat' : Int} {rl' : Option Int} {sl' : Option (Int × Int)} {vs : List V} (hst : SqT K H q (stdV std')) (hsl : SlAt K H v' sl')
    (e : vs = wkV { a with st := q, sv := v' } c chv { s with std := std', beat := beat', rl := rl', sl := sl' }) :
    WalkAt K (upd H wk (.ins (cWalk K) a.dx (kWalk.zip vs))) wk c chv { a with st := q, sv := v' } { s with std := std', beat := beat', rl := rl', sl := sl' } := by
  have k : Kp [wk] H (upd H wk (.ins (cWalk K) a.dx (kWalk.zip vs))) := Kp.refl.put (by simp) h.ins (.inr ⟨_, _, _, rfl, rfl⟩)
  obtain ⟨w1, w2, w3, w4, w5, w6⟩ := h.wne
  obtain ⟨as, h1, h2⟩ := h.sr
  refine ⟨by rw [e]; exact upd_same, h.cfg.x k.x, k.tup h.lim, h.ov.x k.x, k.tup hst, k.x.sl hsl, k.lst (n1 w1.symm) h.r, k.lst (n1 w2.symm) h.b, k.lst (n1 w3.symm) h.w, k.lst (n1 w4.symm) h.p, ⟨as, k.lst (n1 w5.symm) h1, h2.x k.x⟩, k.lst (n1 w6.symm) h.k, h.nd⟩
theorem WalkAt.app_r (h : WalkAt K H wk c chv a s) (x : Int) : WalkAt K (upd H a.r (.lst (s.rates.map V.int ++ [.int x]))) wk c chv a { s with rates := s.rates ++ [x] } := by
  have k : Kp [a.r] H (upd H a.r (.lst (s.rates.map V.int ++ [.int x]))) := Kp.refl.put (by simp) h.r mvL
  obtain ⟨w1, w2, w3, w4, w5, w6⟩ := h.wne
  obtain ⟨⟨a1, a2, a3, a4, a5⟩, ⟨b1, b2, b3, b4⟩, ⟨c1, c2, c3⟩, ⟨d1, d2⟩, e1⟩ := h.lne
  obtain ⟨as, h1, h2⟩ := h.sr
  exact ⟨k.ins (n1 w1) h.ins, h.cfg.x k.x, k.tup h.lim, h.ov.x k.x, k.tup h.st, k.x.sl h.sl, by rw [List.map_append]; exact upd_same, k.lst (n1 a1.symm) h.b, k.lst (n1 a2.symm) h.w, k.lst (n1 a3.symm) h.p, ⟨as, k.lst (n1 a4.symm) h1, h2.x k.x⟩, k.lst (n1 a5.symm) h.k, h.nd⟩
theorem WalkAt.app_b (h : WalkAt K H wk c chv a s) (x : Int) : WalkAt K (upd H a.b (.lst (s.begun.map V.int ++ [.int x]))) wk c chv a { s with begun := s.begun ++ [x] } := by
  have k : Kp [a.b] H (upd H a.b (.lst (s.begun.map V.int ++ [.int x]))) := Kp.refl.put (by simp) h.b mvL
  obtain ⟨w1, w2, w3, w4, w5, w6⟩ := h.wne
  obtain ⟨⟨a1, a2, a3, a4, a5⟩, ⟨b1, b2, b3, b4⟩, ⟨c1, c2, c3⟩, ⟨d1, d2⟩, e1⟩ := h.lne
  obtain ⟨as, h1, h2⟩ := h.sr
  exact ⟨k.ins (n1 w2) h.ins, h.cfg.x k.x, k.tup h.lim, h.ov.x k.x, k.tup h.st, k.x.sl h.sl, k.lst (n1 a1) h.r, by rw [List.map_append]; exact upd_same, k.lst (n1 b1.symm) h.w, k.lst (n1 b2.symm) h.p, ⟨as, k.lst (n1 b3.symm) h1, h2.x k.x⟩, k.lst (n1 b4.symm) h.k, h.nd⟩
theorem WalkAt.app_w (h : WalkAt K H wk c chv a s) (x : Int) : WalkAt K (upd H a.w (.lst (s.whole.map V.int ++ [.int x]))) wk c chv a { s with whole := s.whole ++ [x] } := by
  have k : Kp [a.w] H (upd H a.w (.lst (s.whole.map V.int ++ [.int x]))) := Kp.refl.put (by simp) h.w mvL
  obtain ⟨w1, w2, w3, w4, w5, w6⟩ := h.wne
  obtain ⟨⟨a1, a2, a3, a4, a5⟩, ⟨b1, b2, b3, b4⟩, ⟨c1, c2, c3⟩, ⟨d1, d2⟩, e1⟩ := h.lne
  obtain ⟨as, h1, h2⟩ := h.sr
  exact ⟨k.ins (n1 w3) h.ins, h.cfg.x k.x, k.tup h.lim, h.ov.x k.x, k.tup h.st, k.x.sl h.sl, k.lst (n1 a2) h.r, k.lst (n1 b1) h.b, by rw [List.map_append]; exact upd_same, k.lst (n1 c1.symm) h.p, ⟨as, k.lst (n1 c2.symm) h1, h2.x k.x⟩, k.lst (n1 c3.symm) h.k, h.nd⟩
theorem WalkAt.app_p (h : WalkAt K H wk c chv a s) (x : Int) : WalkAt K (upd H a.p (.lst (s.plays.map V.int ++ [.int x]))) wk c chv a { s with plays := s.plays ++ [x] } := by
  have k : Kp [a.p] H (upd H a.p (.lst (s.plays.map V.int ++ [.int x]))) := Kp.refl.put (by simp) h.p mvL
  obtain ⟨w1, w2, w3, w4, w5, w6⟩ := h.wne
  obtain ⟨⟨a1, a2, a3, a4, a5⟩, ⟨b1, b2, b3, b4⟩, ⟨c1, c2, c3⟩, ⟨d1, d2⟩, e1⟩ := h.lne
  obtain ⟨as, h1, h2⟩ := h.sr
  exact ⟨k.ins (n1 w4) h.ins, h.cfg.x k.x, k.tup h.lim, h.ov.x k.x, k.tup h.st, k.x.sl h.sl, k.lst (n1 a3) h.r, k.lst (n1 b2) h.b, k.lst (n1 c1) h.w, by rw [List.map_append]; exact upd_same, ⟨as, k.lst (n1 d1.symm) h1, h2.x k.x⟩, k.lst (n1 d2.symm) h.k, h.nd⟩
theorem WalkAt.app_k (h : WalkAt K H wk c chv a s) (x : Int) : WalkAt K (upd H a.k (.lst (s.kepts.map V.int ++ [.int x]))) wk c chv a { s with kepts := s.kepts ++ [x] } := by
  have k : Kp [a.k] H (upd H a.k (.lst (s.kepts.map V.int ++ [.int x]))) := Kp.refl.put (by simp) h.k mvL
  obtain ⟨w1, w2, w3, w4, w5, w6⟩ := h.wne
  obtain ⟨⟨a1, a2, a3, a4, a5⟩, ⟨b1, b2, b3, b4⟩, ⟨c1, c2, c3⟩, ⟨d1, d2⟩, e1⟩ := h.lne
  obtain ⟨as, h1, h2⟩ := h.sr
  exact ⟨k.ins (n1 w6) h.ins, h.cfg.x k.x, k.tup h.lim, h.ov.x k.x, k.tup h.st, k.x.sl h.sl, k.lst (n1 a5) h.r, k.lst (n1 b4) h.b, k.lst (n1 c3) h.w, k.lst (n1 d2) h.p, ⟨as, k.lst (n1 e1) h1, h2.x k.x⟩, by rw [List.map_append]; exact upd_same, h.nd⟩
/-- the rows of stalls are others -/
theorem WalkAt.set_s (h : WalkAt K H wk c chv a s) {as : List Addr} {rows : List (Int × Int)} (hr : RowsL K H as (prs rows)) : WalkAt K (upd H a.s (.lst (as.map V.ref))) wk c chv a { s with stalls := rows } := by
  obtain ⟨as0, h1, h2⟩ := h.sr
  have k : Kp [a.s] H (upd H a.s (.lst (as.map V.ref))) := Kp.refl.put (by simp) h1 mvL
  obtain ⟨w1, w2, w3, w4, w5, w6⟩ := h.wne
  obtain ⟨⟨a1, a2, a3, a4, a5⟩, ⟨b1, b2, b3, b4⟩, ⟨c1, c2, c3⟩, ⟨d1, d2⟩, e1⟩ := h.lne
  exact ⟨k.ins (n1 w5) h.ins, h.cfg.x k.x, k.tup h.lim, h.ov.x k.x, k.tup h.st, k.x.sl h.sl, k.lst (n1 a4) h.r, k.lst (n1 b3) h.b, k.lst (n1 c2) h.w, k.lst (n1 d1) h.p, ⟨as, upd_same, hr.x k.x⟩, k.lst (n1 e1.symm) h.k, h.nd⟩
end
theorem kb_chosen {K : PySem.W.Frag} {fd : FuncData} (F : FnP K "chosen" "chosen" s_chosen [("wait", V.int 0)] (He.ga K "chosen") fd) : ∃ g, KBn K fd ["stand", "rate", "wait"] 2 ["wait"] g (fun vs zs => vs ++ zs) := by
  obtain ⟨mv, kb⟩ := F.kbinds0 (ps := ["stand", "rate", "wait"]) 2 ["wait"] [] (fun vs _ zs => vs ++ zs) (by simp) (by simp) (fun h1 _ h3 => h1.append h3) (fun D doc pm an cdv ct us mv ws h1 h2 h3 => match us, ws, h1, h3 with | [_, _], [_], _, _ => rfl)
  exact ⟨_, kb⟩
def spChoose (K : PySem.W.Frag) : Sp := fun vs H Q _ => ∃ (wk asked : Addr) (c : Cfg) (chv : V) (a : WkA) (s : RPm.St) (ch : Ch) (row : List Int) (rest : List (List Int)) (pre : List RPm.Seen), vs = [.ref wk] ∧ WalkAt K H wk c chv a s ∧ c.sizes = row :: rest ∧ c.pick = pick ch row.length ∧ ChAt K H asked chv ch ∧ AskP K H asked ch (pre ++ s.seens) ∧
  (∀ x ∈ a.S wk, x ∉ askS asked ch) ∧ 0 ≤ s.std.num ∧ (∀ os, c.opens = some os → os.length = c.lens.length) ∧ (pre ++ s.seens).length < 100000 ∧ s.rates.length < 100000 ∧ s.begun.length < 100000 ∧ (RPm.asks c s = true → SeenOk ch.n (RPm.seenOf s)) ∧ (RPm.asks c s = true → ∀ ps, ch = .plan ps → s.std.num < ps.length) ∧
  ∀ (a' : WkA) (H' : Hp), WalkAt K H' wk c chv a' (RPm.chooseHere c s) → a'.S wk = a.S wk → Kp (a.S wk ++ askS asked ch) H H' → AskP K H' asked ch (pre ++ (RPm.chooseHere c s).seens) → Q .non H'
section
variable {P : Program} {w : World} {K : PySem.W.Frag} {mg : Str → Option Value} {base : Heap}
theorem c_choose_here (T : Tx K mg) : Met P w K mg base 5 (cWalk K) "choose_here" (spChoose K) := by
  have c_asks_here : Met P w K mg base 2 (cWalk K) "asks_here" (spAsksHere K) := c_asks_here T
  have c_seen_at : Cal P w K mg base 1 "seen_at" (spSeenAt K) := c_seen_at T
  have c_rate_by : Cal P w K mg base 4 "rate_by" (spRateBy K) := c_rate_by T
  obtain ⟨fd, Fd, Gd⟩ := c_chosen (P := P) (w := w) (base := base) T
  obtain ⟨g, kb⟩ := kb_chosen Fd
  refine mk_Walk_choose_here T (fun vs H Q E h => ?_) (fun cdv A outer s H vs Q E hr h => ?_)
  · obtain ⟨wk, asked, c, chv, a, s, ch, row, rest, pre, rfl, _⟩ := h
    rfl
  · obtain ⟨wk, asked, c, chv, a, sd, ch, row, rest, pre, rfl, hW, he, hpk, hch, hask, hdis, hn, hol, l1, l2, l3, hok, hpl, k⟩ := h
    refine ⟨_, (pss_one (ps_if (pt_val (pe_mt0 c_asks_here hr (by decide) (pv 0))) (pss_cons (ps_set (i := 1) sc_Walk_choose_here.nd rfl (Or.inl rfl) (pe_c c_seen_at hr (by decide) rfl (pa_cons (pe_fld (pv 0) rfl) (pa_cons (pe_fld (pv 0) rfl) (pa_cons (pe_fld (pv 0) rfl) pa_nil)))))
      (C8.pss_cut (ps_fld (pv 0) (pe_c c_rate_by hr (by decide) rfl (pa_cons (pe_fld (pv 0) rfl) (pa_cons (pe_fld (pv 0) rfl) (pa_cons (pv 1) pa_nil)))) rfl)
      (C8.pss_cut (ps_fld (pv 0) (pe_callN (E := E0) Gd (hr.mono (by decide)) rfl T.g_chosen Fd.kp kb pass00 (pa_cons (pe_fld (pv 0) rfl) (pa_cons (pe_fld (pv 0) rfl) pa_nil)) (pk_cons (pe_fld (pv 0) rfl) pk_nil)) rfl)
      (C8.pss_cut (ps_expr (pe_bm PySem.F.plainAttrs_list PySem.F.slot_list_append PySem.F.type_list_append mt_append (pe_fld (pv 0) rfl) (pa_cons (pe_fld (pv 0) rfl) pa_nil)))
      (pss_one (ps_expr (pe_bm PySem.F.plainAttrs_list PySem.F.slot_list_append PySem.F.type_list_append mt_append (pe_fld (pv 0) rfl) (pa_cons (pe_fld (pv 0) rfl) pa_nil)))))))) pss_nil)), ?_⟩
    refine ⟨_, rfl, wk, _, _, rfl, hW.ins, lookNo (by decide +kernel), wk, c, chv, a, sd, rfl, hW, hn, hol, fun H1 k1 => ⟨_, rfl, ?_⟩⟩
    have W1 := hW.kp k1.toN (by simp)
    cases ha : RPm.asks c sd with
    | false =>
      refine iteF ?_
      have e : RPm.chooseHere c sd = sd := by
        unfold RPm.chooseHere
        rw [if_neg (by rw [ha]; decide)]
      have := k a H1 (by rw [e]; exact W1) rfl (k1.mono (by simp)) (by rw [e]; exact hask.kp k1.toN (by simp))
      exact this
    | true =>
      refine iteT ?_
      have ok := hok ha
      have hpl := hpl ha
      refine ⟨_, rfl, wk, _, _, _, _, rfl, W1.ins, T.cl_Walk, T.n_Walk_stand_here, lookF (i := 5) nd_Walk rfl rfl, _, rfl, wk, _, _, _, _, rfl, W1.ins, T.cl_Walk, T.n_Walk_rate_last, lookF (i := 7) nd_Walk rfl rfl, _, rfl, wk, _, _, _, _, rfl, W1.ins, T.cl_Walk, T.n_Walk_speed_last, lookF (i := 8) nd_Walk rfl rfl, a.st, _, rlV sd.rl, a.sv, .int sd.std.num, .int sd.std.kept, rfl, W1.st, rfl, rfl, fun sn hsn => ?_⟩
      have k2 : Kp [] H (upd H1 sn (.tup [.int sd.std.num, .int sd.std.kept, rlV sd.rl, a.sv])) := k1.trans (Kp.refl.new hsn)
      have W2 := hW.kp k2.toN (by simp)
      have hsnA : SeenAt K (upd H1 sn (.tup [.int sd.std.num, .int sd.std.kept, rlV sd.rl, a.sv])) sn (RPm.seenOf sd) := ⟨a.sv, SqT.of upd_same, W2.sl⟩
      generalize hr' : pick ch row.length (RPm.seenOf sd) = r
      have ecp : c.pick (RPm.seenOf sd) = r := by rw [hpk, hr']
      refine ⟨fun σ' G => σ' = [some (.ref wk), some (.ref sn)] ∧ WalkAt K G wk c chv a { sd with rl := some r } ∧ Kp (a.S wk ++ askS asked ch) H G ∧ AskP K G asked ch ((pre ++ sd.seens) ++ [RPm.seenOf sd]), ?_, ?_⟩
      · refine ⟨_, rfl, wk, _, _, _, _, rfl, W2.ins, T.cl_Walk, T.n_Walk_talk_walked, lookF (i := 0) nd_Walk rfl rfl, _, rfl, wk, _, _, _, _, rfl, W2.ins, T.cl_Walk, T.n_Walk_chooser_asked, lookF (i := 1) nd_Walk rfl rfl, _, rfl, a.t, sn, asked, chv, ch, c, row, rest, RPm.seenOf sd, pre ++ sd.seens, rfl, W2.cfg, he, hsnA, ok, hch.kp k2.toN, hask.kp k2.toN (by simp), l1, hpl, fun H3 k3 ha3 => ?_⟩
        have W3 := W2.kp k3.toN hdis
        rw [hr']
        refine rd_put (ks := kWalk) (vs := wkV a c chv sd) 7 rfl W3.ins T.cl_Walk T.n_Walk_rate_last nd_Walk rfl (by show 7 < 15; decide) (by show 15 < 1000; decide) ?_
        have W4 := W3.put (vs := (wkV a c chv sd).set 7 (.int r)) (q := a.st) (v' := a.sv) (std' := sd.std) (beat' := sd.beat) (rl' := some r) (sl' := sd.sl) W3.st W3.sl rfl
        have kp4 : Kp [wk] H3 (upd H3 wk (.ins (cWalk K) a.dx (kWalk.zip ((wkV a c chv sd).set 7 (.int r))))) := Kp.refl.put (by simp) W3.ins (.inr ⟨_, _, _, rfl, rfl⟩)
        refine ⟨rfl, W4, ((k2.mono (by simp)).trans (k3.mono fun x h => List.mem_append_right _ h)).trans (kp4.mono fun x h => List.mem_append_left _ (by rw [List.mem_singleton.mp h]; simp [WkA.S])), ha3.kp kp4.toN fun h1 => ?_⟩
        have := hdis wk (by simp [WkA.S])
        intro z
        have ez := List.mem_singleton.mp z
        exact this (by rw [← ez]; exact h1)
      rintro _ G ⟨rfl, WG, kG, aG⟩
      refine ⟨fun σ' G2 => σ' = [some (.ref wk), some (.ref sn)] ∧ (∃ q, WalkAt K G2 wk c chv { a with st := q } { sd with rl := some r, std := ⟨sd.std.num, r, 0 - c.wait, sd.std.kept, sd.std.played, sd.std.going⟩ }) ∧ Kp (a.S wk) G G2, ?_, ?_⟩
      · refine ⟨_, rfl, wk, _, _, _, _, rfl, WG.ins, T.cl_Walk, T.n_Walk_stand_here, lookF (i := 5) nd_Walk rfl rfl, _, rfl, wk, _, _, _, _, rfl, WG.ins, T.cl_Walk, T.n_Walk_rate_last, lookF (i := 7) nd_Walk rfl rfl, _, rfl, wk, _, _, _, _, rfl, WG.ins, T.cl_Walk, T.n_Walk_waiting, lookF (i := 3) nd_Walk rfl rfl, rfl, rfl, a.st, sd.std, r, c.wait, rfl, WG.st, fun q G2 hq kq => ?_⟩
        have WG2 := WG.kp kq.toN (by simp)
        refine rd_put (ks := kWalk) (vs := wkV a c chv { sd with rl := some r }) 5 rfl WG2.ins T.cl_Walk T.n_Walk_stand_here nd_Walk rfl (by show 5 < 15; decide) (by show 15 < 1000; decide) ?_
        refine ⟨rfl, ⟨q, WG2.put (vs := (wkV a c chv { sd with rl := some r }).set 5 (.ref q)) (q := q) (v' := a.sv) (std' := ⟨sd.std.num, r, 0 - c.wait, sd.std.kept, sd.std.played, sd.std.going⟩) (beat' := sd.beat) (rl' := some r) (sl' := sd.sl) hq WG2.sl rfl⟩, (kq.mono (by simp)).put (by simp [WkA.S]) WG2.ins (.inr ⟨_, _, _, rfl, rfl⟩)⟩
      rintro _ G2 ⟨rfl, ⟨q, WQ⟩, kQ⟩
      refine ⟨fun σ' G3 => σ' = [some (.ref wk), some (.ref sn)] ∧ WalkAt K G3 wk c chv { a with st := q } { sd with rl := some r, std := ⟨sd.std.num, r, 0 - c.wait, sd.std.kept, sd.std.played, sd.std.going⟩, rates := sd.rates ++ [r] } ∧ Kp (a.S wk) G2 G3, ?_, ?_⟩
      · refine ⟨_, rfl, wk, _, _, _, _, rfl, WQ.ins, T.cl_Walk, T.n_Walk_rates, lookF (i := 9) nd_Walk rfl rfl, .inl ⟨rfl, _, SqL.of WQ.r⟩, _, rfl, wk, _, _, _, _, rfl, WQ.ins, T.cl_Walk, T.n_Walk_rate_last, lookF (i := 7) nd_Walk rfl rfl, a.r, _, _, rfl, rfl, WQ.r, (by rw [List.length_map, sizeLine_eq]; show sd.rates.length < 16777216; omega), ?_⟩
        exact ⟨rfl, WQ.app_r r, Kp.refl.put (by simp [WkA.S]) WQ.r mvL⟩
      rintro _ G3 ⟨rfl, W5, k5⟩
      refine ⟨_, rfl, wk, _, _, _, _, rfl, W5.ins, T.cl_Walk, T.n_Walk_begun, lookF (i := 10) nd_Walk rfl rfl, .inl ⟨rfl, _, SqL.of W5.b⟩, _, rfl, wk, _, _, _, _, rfl, W5.ins, T.cl_Walk, T.n_Walk_beat_here, lookF (i := 6) nd_Walk rfl rfl, a.b, _, _, rfl, rfl, W5.b, (by rw [List.length_map, sizeLine_eq]; show sd.begun.length < 16777216; omega), ?_⟩
      have W6 := W5.app_b sd.beat
      have k6 : Kp (a.S wk) G3 (upd G3 a.b (.lst (sd.begun.map V.int ++ [.int sd.beat]))) := Kp.refl.put (by simp [WkA.S]) W5.b mvL
      have kk : Kp (a.S wk) G (upd G3 a.b (.lst (sd.begun.map V.int ++ [.int sd.beat]))) := (kQ.trans k5).trans k6
      have e : RPm.chooseHere c sd = { sd with std := ⟨sd.std.num, r, 0 - c.wait, sd.std.kept, sd.std.played, sd.std.going⟩, rl := some r, rates := sd.rates ++ [r], begun := sd.begun ++ [sd.beat], seens := sd.seens ++ [RPm.seenOf sd] } := by
        unfold RPm.chooseHere
        rw [if_pos ha, ecp]
      have W7 : WalkAt K (upd G3 a.b (.lst (sd.begun.map V.int ++ [.int sd.beat]))) wk c chv { a with st := q } (RPm.chooseHere c sd) := by
        rw [e]
        exact ⟨W6.ins, W6.cfg, W6.lim, W6.ov, W6.st, W6.sl, W6.r, W6.b, W6.w, W6.p, W6.sr, W6.k, W6.nd⟩
      refine k _ _ W7 rfl (kG.trans (kk.mono fun x h => List.mem_append_left _ h)) ?_
      rw [e]
      show AskP K _ asked ch (pre ++ (sd.seens ++ [RPm.seenOf sd]))
      rw [← List.append_assoc]
      refine aG.kp kk.toN fun h1 z => hdis _ z h1
end
end K76


set_option Elab.async false
set_option linter.all false
set_option maxRecDepth 100000
set_option maxHeartbeats 4000000
/-! A beat of a Walk. -/
namespace K76
open PySem PySem.Spec PyProof.Rows L2 LamX NdefX
open RPm (Cfg Std)
def spStep (K : PySem.W.Frag) : Sp := fun vs H Q _ => ∃ (wk : Addr) (c : Cfg) (chv : V) (a : WkA) (s : RPm.St) (v : Int), vs = [.ref wk, .int v] ∧ WalkAt K H wk c chv a s ∧ 0 ≤ s.std.num ∧ (s.std.going = 0 ∨ s.std.going = 1 ∨ s.std.going = 2) ∧
  (s.std.coming ≠ -1 → s.std.num < c.lens.length ∧ 0 ≤ s.std.coming ∧ s.std.coming < (c.sizes.getD s.std.num.toNat []).length ∧ s.begun ≠ []) ∧
  (¬ (RPm.beatOn c s.std v).played > s.std.played → (RPm.beatOn c s.std v).going = 2 → s.std.going ≠ 1 → s.stalls ≠ []) ∧
  s.plays.length < 100000 ∧ s.stalls.length < 100000 ∧ s.kepts.length < 100000 ∧ s.whole.length < 100000 ∧
  ∀ (a' : WkA) (H' : Hp), WalkAt K H' wk c chv a' (RPm.stepOn c s v) → a'.S wk = a.S wk → Kp (a.S wk) H H' → Q .non H'
theorem rows_last {K : PySem.W.Frag} {H : Hp} {as : List Addr} {rows : List (Int × Int)} {r : Int × Int} (h : RowsL K H as (prs (rows ++ [r]))) : ∃ as' al, as = as' ++ [al] ∧ RowsL K H as' (prs rows) ∧ SqT K H al [.int r.1, .int r.2] := by
  rw [prs_snoc] at h
  have hl : as.length = rows.length + 1 := by rw [h.1, List.length_append, prs_len] <;> rfl
  have han : as ≠ [] := fun z => by
    rw [z] at hl
    cases hl
  obtain ⟨as', al, rfl⟩ : ∃ as' al, as = as' ++ [al] := ⟨as.dropLast, as.getLast han, (List.dropLast_concat_getLast han).symm⟩
  have hl2 : as'.length = rows.length := by simpa using hl
  refine ⟨as', al, rfl, ⟨by rw [prs_len, hl2], fun i a e => ?_⟩, ?_⟩
  · have hi := (List.getElem?_eq_some_iff.mp e).1
    obtain ⟨r', e1, e3⟩ := h.2 i a (by rw [List.getElem?_append_left hi]; exact e)
    rw [List.getElem?_append_left (by rw [prs_len, ← hl2]; exact hi)] at e1
    exact ⟨r', e1, e3⟩
  · obtain ⟨r', e1, e3⟩ := h.2 as'.length al (by rw [List.getElem?_append_right (Nat.le_refl _), Nat.sub_self] <;> rfl)
    rw [List.getElem?_append_right (by rw [prs_len, hl2]; exact Nat.le_refl _), prs_len, hl2, Nat.sub_self] at e1
    cases e1
    exact e3
theorem last_at (xs : List V) (y : V) : (xs ++ [y])[(xs ++ [y]).length - 1]? = some y := by
  rw [List.length_append, show xs.length + [y].length - 1 = xs.length by simp, List.getElem?_append_right (Nat.le_refl _), Nat.sub_self]
  rfl
section
variable {P : Program} {w : World} {K : PySem.W.Frag} {mg : Str → Option Value} {base : Heap}
set_option maxHeartbeats 16000000 in
theorem c_step_on (T : Tx K mg) : Met P w K mg base 5 (cWalk K) "step_on" (spStep K) := by
  have c_beat_on : Cal P w K mg base 4 "beat_on" (spBeatOn K) := c_beat_on T
  have c_Speed : Mak P w K mg base 1 "Speed" (spInit (cSpeed K) kSpeed) := c_Speed T
  refine mk_Walk_step_on T (fun vs H Q E h => ?_) (fun cdv A outer s H vs Q E hr h => ?_)
  · obtain ⟨wk, c, chv, a, s, v, rfl, _⟩ := h
    rfl
  · obtain ⟨wk, c, chv, a, sd, v, rfl, hW, hn, hg, hc, hst, l1, l2, l3, l4, k⟩ := h
    refine ⟨_, (pss_cons (ps_asg (pe_fld (pv 0) rfl) (pg_tup rfl (pgs_cons (pg_name (i := 2) sc_Walk_step_on.nd rfl (Or.inl rfl)) (pgs_cons (pg_name (i := 3) sc_Walk_step_on.nd rfl (Or.inl rfl)) (pgs_cons (pg_name (i := 4) sc_Walk_step_on.nd rfl (Or.inl rfl)) pgs_nil)))))
    (pss_cons (ps_set (i := 5) sc_Walk_step_on.nd rfl (Or.inl rfl) (pe_fld (pv 0) rfl))
    (C8.pss_cut (ps_fld (pv 0) (pe_c c_beat_on hr (by decide) rfl (pa_cons (pe_fld (pv 0) rfl) (pa_cons (pv 5) (pa_cons (pv 1) (pa_cons (pv 2) (pa_cons (pv 3) (pa_cons (pv 4) pa_nil))))))) rfl)
    (C8.pss_cut (ps_if (pt_cmpR op_gt (pe_ix ix_tup (pe_fld (pv 0) rfl) pe_int (fun _ _ => rfl)) (pe_ix ix_tup (pv 5) pe_int (fun _ _ => rfl)) (nomark _)) (pss_one (ps_expr (pe_bm PySem.F.plainAttrs_list PySem.F.slot_list_append PySem.F.type_list_append mt_append (pe_fld (pv 0) rfl) (pa_cons (pe_fld (pv 0) rfl) pa_nil)))) (pss_one (ps_if (pt_cmpR op_eq (pe_ix ix_tup (pe_fld (pv 0) rfl) pe_int (fun _ _ => rfl)) (C8.pe_gc rfl T.i_STALLS) (nomark _)) (C8.pss_cut (ps_if (pt_cmpR op_eq (pe_ix ix_tup (pv 5) pe_int (fun _ _ => rfl)) (C8.pe_gc rfl T.i_PLAYS) (nomark _)) (pss_one (ps_expr (pe_bm PySem.F.plainAttrs_list PySem.F.slot_list_append PySem.F.type_list_append mt_append (pe_fld (pv 0) rfl) (pa_cons (pe_tup (pa_cons (pe_fld (pv 0) rfl) (pa_cons pe_int pa_nil))) pa_nil)))) pss_nil)
        (pss_cons (ps_asg (pe_bm0 PySem.F.plainAttrs_list PySem.F.slot_list_pop PySem.F.type_list_pop mt_pop (pe_fld (pv 0) rfl)) (pg_tup rfl (pgs_cons (pg_name (i := 6) sc_Walk_step_on.nd rfl (Or.inl rfl)) (pgs_cons (pg_name (i := 7) sc_Walk_step_on.nd rfl (Or.inl rfl)) pgs_nil))))
        (pss_one (ps_expr (pe_bm PySem.F.plainAttrs_list PySem.F.slot_list_append PySem.F.type_list_append mt_append (pe_fld (pv 0) rfl) (pa_cons (pe_tup (pa_cons (pv 6) (pa_cons (pe_op op_add (pv 7) pe_int) pa_nil))) pa_nil)))))) pss_nil)))
    (C8.pss_cut (ps_fldaug (pv 0) pe_int in_add)
    (C8.pss_cut (ps_expr (pe_bm PySem.F.plainAttrs_list PySem.F.slot_list_append PySem.F.type_list_append mt_append (pe_fld (pv 0) rfl) (pa_cons (pe_ix ix_tup (pe_fld (pv 0) rfl) pe_int (fun _ _ => rfl)) pa_nil)))
    (pss_one (ps_if (pt_cmpR op_gt (pe_ix ix_tup (pe_fld (pv 0) rfl) pe_int (fun _ _ => rfl)) (pe_ix ix_tup (pv 5) pe_int (fun _ _ => rfl)) (nomark _)) (C8.pss_cut (ps_expr (pe_bm PySem.F.plainAttrs_list PySem.F.slot_list_append PySem.F.type_list_append mt_append (pe_fld (pv 0) rfl) (pa_cons (pe_fld (pv 0) rfl) pa_nil)))
      (pss_cons (ps_set (i := 8) sc_Walk_step_on.nd rfl (Or.inl rfl) (pe_ix ix_tup (pe_ix ix_tup (pe_fld (pe_fld (pv 0) rfl) rfl) (pe_ix ix_tup (pv 5) pe_int (fun _ _ => rfl)) (fun _ _ => rfl)) (pe_ix ix_tup (pv 5) pe_int (fun _ _ => rfl)) (fun _ _ => rfl)))
      (pss_one (ps_fld (pv 0) (pe_mk c_Speed hr (by decide) rfl (pa_cons (pv 8) (pa_cons (pe_op op_sub (pe_fld (pv 0) rfl) (pe_ix ix_list (pe_fld (pv 0) rfl) (pe_un un_neg pe_int) (fun _ _ => rfl))) pa_nil))) rfl)))) pss_nil)))))))), ?_⟩
    refine ⟨_, rfl, wk, _, _, _, _, rfl, hW.ins, T.cl_Walk, T.n_Walk_limits, lookF (i := 2) nd_Walk rfl rfl, a.lim, _, rfl, hW.lim, rfl, _, _, rfl, _, _, rfl, _, _, rfl, rfl, ?_⟩
    refine ⟨_, rfl, wk, _, _, _, _, rfl, hW.ins, T.cl_Walk, T.n_Walk_stand_here, lookF (i := 5) nd_Walk rfl rfl, ?_⟩
    generalize hN : RPm.beatOn c sd.std v = n at hst
    -- the new stand
    refine ⟨fun σ' G => σ' = [some (.ref wk), some (.int v), some (.int c.begin_), some (.int c.again), some (.int c.most), some (.ref a.st), none, none, none] ∧ (∃ q, WalkAt K G wk c chv { a with st := q } { sd with std := n }) ∧ Kp (a.S wk) H G, ?_, ?_⟩
    · refine ⟨_, rfl, wk, _, _, _, _, rfl, hW.ins, T.cl_Walk, T.n_Walk_talk_walked, lookF (i := 0) nd_Walk rfl rfl, _, rfl, _, rfl, _, rfl, _, rfl, _, rfl, a.t, a.st, c, sd.std, v, rfl, hW.cfg, hW.st, hn, hg, fun z => ⟨(hc z).1, (hc z).2.1, (hc z).2.2.1⟩, fun q G hq kq => ?_⟩
      rw [hN] at hq
      have WG := hW.kp kq.toN (by simp)
      refine rd_put (ks := kWalk) (vs := wkV a c chv sd) 5 rfl WG.ins T.cl_Walk T.n_Walk_stand_here nd_Walk rfl (by show 5 < 15; decide) (by show 15 < 1000; decide) ?_
      exact ⟨rfl, ⟨q, WG.put (vs := (wkV a c chv sd).set 5 (.ref q)) (q := q) (v' := a.sv) (std' := n) (beat' := sd.beat) (rl' := sd.rl) (sl' := sd.sl) hq WG.sl rfl⟩, (kq.mono (by simp)).put (by simp [WkA.S]) WG.ins (.inr ⟨_, _, _, rfl, rfl⟩)⟩
    rintro _ G ⟨rfl, ⟨q, W1⟩, k1⟩
    have hst1 : SqT K G a.st (stdV sd.std) := k1.tup hW.st
    -- plays, stalls
    refine ⟨fun σ' G2 => (∃ v6 v7 : Option V, σ' = [some (.ref wk), some (.int v), some (.int c.begin_), some (.int c.again), some (.int c.most), some (.ref a.st), v6, v7, none]) ∧
      WalkAt K G2 wk c chv { a with st := q } { sd with std := n, plays := if n.played > sd.std.played then sd.plays ++ [sd.beat] else sd.plays, stalls := RPm.stallsOn sd n } ∧ Kp (a.S wk) G G2, ?_, ?_⟩
    · refine ⟨_, rfl, wk, _, _, _, _, rfl, W1.ins, T.cl_Walk, T.n_Walk_stand_here, lookF (i := 5) nd_Walk rfl rfl, q, _, _, _, rfl, rfl, W1.st, at_nat (by decide) rfl, _, rfl, a.st, _, _, _, rfl, rfl, hst1, at_nat (by decide) rfl, _, _, rfl, rfl, _, rfl, ?_⟩
      refine ite2 (fun hp => ?_) fun hp => ?_
      · have hp : n.played > sd.std.played := of_decide_eq_true hp
        refine ⟨_, rfl, wk, _, _, _, _, rfl, W1.ins, T.cl_Walk, T.n_Walk_plays, lookF (i := 12) nd_Walk rfl rfl, .inl ⟨rfl, _, SqL.of W1.p⟩, _, rfl, wk, _, _, _, _, rfl, W1.ins, T.cl_Walk, T.n_Walk_beat_here, lookF (i := 6) nd_Walk rfl rfl, a.p, _, _, rfl, rfl, W1.p, (by rw [List.length_map, sizeLine_eq]; show sd.plays.length < 16777216; omega), ?_⟩
        refine ⟨⟨none, none, rfl⟩, ?_, Kp.refl.put (by simp [WkA.S]) W1.p mvL⟩
        have e1 : RPm.stallsOn sd n = sd.stalls := by
          unfold RPm.stallsOn
          rw [if_pos hp]
        rw [if_pos hp, e1]
        have := W1.app_p sd.beat
        exact ⟨this.ins, this.cfg, this.lim, this.ov, this.st, this.sl, this.r, this.b, this.w, this.p, this.sr, this.k, this.nd⟩
      · have hp : ¬ n.played > sd.std.played := fun z => hp (decide_eq_true z)
        rw [if_neg hp]
        refine ⟨_, rfl, wk, _, _, _, _, rfl, W1.ins, T.cl_Walk, T.n_Walk_stand_here, lookF (i := 5) nd_Walk rfl rfl, q, _, _, _, rfl, rfl, W1.st, at_nat (by decide) rfl, rfl, _, rfl, ?_⟩
        rw [dec_int, Bool.beq_eq_decide_eq]
        by_cases hgo : n.going = 2
        · rw [decide_eq_true hgo]
          refine iteT ?_
          obtain ⟨rows1, f, m, erow, hcase⟩ : ∃ (rows1 : List (Int × Int)) (f m : Int), RPm.stallsOn sd n = rows1 ++ [(f, m + 1)] ∧ ((sd.std.going = 1 ∧ rows1 = sd.stalls ∧ f = sd.beat ∧ m = 0) ∨ (sd.std.going ≠ 1 ∧ sd.stalls = rows1 ++ [(f, m)])) := by
            unfold RPm.stallsOn
            rw [if_neg hp, if_pos hgo]
            by_cases h1 : sd.std.going = 1
            · rw [if_pos h1]
              exact ⟨sd.stalls, sd.beat, 0, rfl, .inl ⟨h1, rfl, rfl, rfl⟩⟩
            · rw [if_neg h1]
              have hne := hst hp hgo h1
              obtain ⟨rs, r, er⟩ : ∃ rs r, sd.stalls = rs ++ [r] := ⟨sd.stalls.dropLast, sd.stalls.getLast hne, (List.dropLast_concat_getLast hne).symm⟩
              refine ⟨rs, r.1, r.2, ?_, .inr ⟨h1, er⟩⟩
              unfold RPm.bump
              rw [er, List.getLast?_concat, List.dropLast_concat]
          have hln : rows1.length ≤ sd.stalls.length := by
            rcases hcase with ⟨_, e, _⟩ | ⟨_, e⟩
            · rw [e]
              exact Nat.le_refl _
            · rw [e, List.length_append]
              omega
          refine ⟨fun σ' G2 => σ' = [some (.ref wk), some (.int v), some (.int c.begin_), some (.int c.again), some (.int c.most), some (.ref a.st), none, none, none] ∧ WalkAt K G2 wk c chv { a with st := q } { sd with std := n, stalls := rows1 ++ [(f, m)] } ∧ Kp (a.S wk) G G2, ?_, ?_⟩
          · refine ⟨_, rfl, a.st, _, _, _, rfl, rfl, hst1, at_nat (by decide) rfl, rfl, _, rfl, ?_⟩
            rw [dec_int, Bool.beq_eq_decide_eq]
            rcases hcase with ⟨h1, e1, e2, e3⟩ | ⟨h1, e1⟩
            · rw [decide_eq_true h1]
              refine iteT ?_
              obtain ⟨as, g1, g2⟩ := W1.sr
              refine ⟨_, rfl, wk, _, _, _, _, rfl, W1.ins, T.cl_Walk, T.n_Walk_stalls, lookF (i := 13) nd_Walk rfl rfl, .inl ⟨rfl, _, SqL.of g1⟩, _, rfl, wk, _, _, _, _, rfl, W1.ins, T.cl_Walk, T.n_Walk_beat_here, lookF (i := 6) nd_Walk rfl rfl, (by show 2 ≤ sizeLine; decide), fun tp htp => ?_⟩
              have kt : Kp [] G (upd G tp (.tup [.int sd.beat, .int 0])) := Kp.refl.new htp
              have W2 := W1.kp kt.toN (by simp)
              refine ⟨a.s, _, _, rfl, rfl, kt.lst (by simp) g1, (by rw [List.length_map, g2.1, prs_len, sizeLine_eq]; show sd.stalls.length < 16777216; omega), ?_⟩
              have hrw : RowsL K (upd G tp (.tup [.int sd.beat, .int 0])) (as ++ [tp]) (prs (rows1 ++ [(f, m)])) := by
                rw [prs_snoc, e1, e2, e3]
                exact (g2.kp kt.toN).snoc (SqT.of upd_same)
              have := W2.set_s hrw
              rw [List.map_append] at this
              refine ⟨rfl, this, (kt.mono (by simp)).put (by simp [WkA.S]) (kt.lst (by simp) g1) mvL⟩
            · rw [decide_eq_false h1]
              refine iteF ?_
              rw [← e1]
              exact ⟨rfl, W1, Kp.refl⟩
          · rintro _ G2 ⟨rfl, W2, k2⟩
            obtain ⟨as, g1, g2⟩ := W2.sr
            obtain ⟨as', al, rfl, g3, g4⟩ := rows_last g2
            have g1' : G2 a.s = some (.lst (as'.map V.ref ++ [V.ref al])) := by
              have g1 : G2 a.s = some (.lst ((as' ++ [al]).map V.ref)) := g1
              rw [g1, List.map_append] <;> rfl
            refine ⟨_, rfl, wk, _, _, _, _, rfl, W2.ins, T.cl_Walk, T.n_Walk_stalls, lookF (i := 13) nd_Walk rfl rfl, .inl ⟨rfl, _, SqL.of g1'⟩, a.s, _, _, rfl, rfl, g1', last_at _ _, ?_⟩
            rw [List.dropLast_concat]
            have W3 := W2.set_s g3
            have k3 : Kp (a.S wk) G2 (upd G2 a.s (.lst (as'.map V.ref))) := Kp.refl.put (by simp [WkA.S]) g1' mvL
            refine ⟨al, _, rfl, k3.tup g4, rfl, _, _, rfl, _, _, rfl, rfl, ?_⟩
            refine ⟨_, rfl, wk, _, _, _, _, rfl, W3.ins, T.cl_Walk, T.n_Walk_stalls, lookF (i := 13) nd_Walk rfl rfl, .inl ⟨rfl, _, SqL.of upd_same⟩, _, rfl, _, rfl, _, _, rfl, rfl, (by show 2 ≤ sizeLine; decide), fun tp htp => ?_⟩
            have kt : Kp [] (upd G2 a.s (.lst (as'.map V.ref))) (upd (upd G2 a.s (.lst (as'.map V.ref))) tp (.tup [.int f, .int (m + 1)])) := Kp.refl.new htp
            have W4 := W3.kp kt.toN (by simp)
            have hl4 := kt.lst (by simp) (upd_same (H := G2) (a := a.s) (o := .lst (as'.map V.ref)))
            refine ⟨a.s, _, _, rfl, rfl, hl4, (by rw [List.length_map, g3.1, prs_len, sizeLine_eq]; omega), ?_⟩
            have hrw : RowsL K (upd (upd G2 a.s (.lst (as'.map V.ref))) tp (.tup [.int f, .int (m + 1)])) (as' ++ [tp]) (prs (rows1 ++ [(f, m + 1)])) := by
              rw [prs_snoc]
              exact ((g3.kp k3.toN).kp kt.toN).snoc (SqT.of upd_same)
            have W5 := W4.set_s hrw
            rw [List.map_append] at W5
            rw [erow]
            exact ⟨⟨_, _, rfl⟩, W5, ((k2.trans k3).trans (kt.mono (by simp))).put (by simp [WkA.S]) hl4 mvL⟩
        · rw [decide_eq_false hgo]
          refine iteF ?_
          have e1 : RPm.stallsOn sd n = sd.stalls := by
            unfold RPm.stallsOn
            rw [if_neg hp, if_neg hgo]
          rw [e1]
          exact ⟨⟨none, none, rfl⟩, W1, Kp.refl⟩
    rintro _ G2 ⟨⟨v6, v7, rfl⟩, W2, k2⟩
    generalize hpl : (if n.played > sd.std.played then sd.plays ++ [sd.beat] else sd.plays) = plays' at W2
    generalize hsl : RPm.stallsOn sd n = stalls' at W2
    -- beat_here += 1
    refine ⟨fun σ' G3 => σ' = [some (.ref wk), some (.int v), some (.int c.begin_), some (.int c.again), some (.int c.most), some (.ref a.st), v6, v7, none] ∧ WalkAt K G3 wk c chv { a with st := q } { sd with std := n, plays := plays', stalls := stalls', beat := sd.beat + 1 } ∧ Kp (a.S wk) G2 G3, ?_, ?_⟩
    · refine ⟨_, rfl, wk, _, _, _, _, rfl, W2.ins, T.cl_Walk, T.n_Walk_beat_here, lookF (i := 6) nd_Walk rfl rfl, _, _, rfl, rfl, _, _, W2.ins, Nat.lt_of_le_of_lt (zipLen (Nat.le_refl _)) (by show 15 < 1000; decide), ?_⟩
      rw [putF_at nd_Walk (i := 6) rfl (by show 6 < 15; decide)]
      exact ⟨rfl, W2.put (q := q) (v' := a.sv) (std' := n) (beat' := sd.beat + 1) (rl' := sd.rl) (sl' := sd.sl) W2.st W2.sl rfl, Kp.refl.put (by simp [WkA.S]) W2.ins (.inr ⟨_, _, _, rfl, rfl⟩)⟩
    rintro _ G3 ⟨rfl, W3, k3⟩
    -- kept.append(..)
    refine ⟨fun σ' G4 => σ' = [some (.ref wk), some (.int v), some (.int c.begin_), some (.int c.again), some (.int c.most), some (.ref a.st), v6, v7, none] ∧ WalkAt K G4 wk c chv { a with st := q } { sd with std := n, plays := plays', stalls := stalls', beat := sd.beat + 1, kepts := sd.kepts ++ [n.kept] } ∧ Kp (a.S wk) G3 G4, ?_, ?_⟩
    · refine ⟨_, rfl, wk, _, _, _, _, rfl, W3.ins, T.cl_Walk, T.n_Walk_kept, lookF (i := 14) nd_Walk rfl rfl, .inl ⟨rfl, _, SqL.of W3.k⟩, _, rfl, wk, _, _, _, _, rfl, W3.ins, T.cl_Walk, T.n_Walk_stand_here, lookF (i := 5) nd_Walk rfl rfl, q, _, _, _, rfl, rfl, W3.st, at_nat (by decide) rfl, a.k, _, _, rfl, rfl, W3.k, (by rw [List.length_map, sizeLine_eq]; show sd.kepts.length < 16777216; omega), ?_⟩
      exact ⟨rfl, W3.app_k n.kept, Kp.refl.put (by simp [WkA.S]) W3.k mvL⟩
    rintro _ G4 ⟨rfl, W4, k4⟩
    have kk4 : Kp (a.S wk) H G4 := ((k1.trans k2).trans k3).trans k4
    have hst4 : SqT K G4 a.st (stdV sd.std) := kk4.tup hW.st
    have eS : ∀ X, RPm.stepOn c sd v = X → X = { sd with std := n, plays := plays', stalls := stalls', beat := sd.beat + 1, kepts := sd.kepts ++ [n.kept], whole := if n.num > sd.std.num then sd.whole ++ [sd.beat + 1] else sd.whole, sl := if n.num > sd.std.num then some (c.size sd.std.num sd.std.coming, sd.beat + 1 - sd.begun.getLastD 0) else sd.sl } := fun X e => by
      rw [← e]
      unfold RPm.stepOn
      rw [hN, hpl, hsl]
    have eS := eS _ rfl
    refine ⟨_, rfl, wk, _, _, _, _, rfl, W4.ins, T.cl_Walk, T.n_Walk_stand_here, lookF (i := 5) nd_Walk rfl rfl, q, _, _, _, rfl, rfl, W4.st, at_nat (by decide) rfl, _, rfl, a.st, _, _, _, rfl, rfl, hst4, at_nat (by decide) rfl, _, _, rfl, rfl, _, rfl, ?_⟩
    refine ite2 (fun hw => ?_) fun hw => ?_
    · have hw : n.num > sd.std.num := of_decide_eq_true hw
      rw [if_pos hw, if_pos hw] at eS
      have hco : sd.std.coming ≠ -1 := fun z => by
        have : n.num = sd.std.num := by
          rw [← hN]
          unfold RPm.beatOn
          rw [if_pos z]
        omega
      obtain ⟨c1, c2, c3, c4⟩ := hc hco
      obtain ⟨bs, bl, eb⟩ : ∃ bs bl, sd.begun = bs ++ [bl] := ⟨sd.begun.dropLast, sd.begun.getLast c4, (List.dropLast_concat_getLast c4).symm⟩
      have ebl : sd.begun.getLastD 0 = bl := by
        rw [eb]
        simp
      rw [ebl] at eS
      refine ⟨fun σ' G5 => σ' = [some (.ref wk), some (.int v), some (.int c.begin_), some (.int c.again), some (.int c.most), some (.ref a.st), v6, v7, none] ∧ WalkAt K G5 wk c chv { a with st := q } { sd with std := n, plays := plays', stalls := stalls', beat := sd.beat + 1, kepts := sd.kepts ++ [n.kept], whole := sd.whole ++ [sd.beat + 1] } ∧ Kp (a.S wk) G4 G5, ?_, ?_⟩
      · refine ⟨_, rfl, wk, _, _, _, _, rfl, W4.ins, T.cl_Walk, T.n_Walk_whole, lookF (i := 11) nd_Walk rfl rfl, .inl ⟨rfl, _, SqL.of W4.w⟩, _, rfl, wk, _, _, _, _, rfl, W4.ins, T.cl_Walk, T.n_Walk_beat_here, lookF (i := 6) nd_Walk rfl rfl, a.w, _, _, rfl, rfl, W4.w, (by rw [List.length_map, sizeLine_eq]; show sd.whole.length < 16777216; omega), ?_⟩
        exact ⟨rfl, W4.app_w (sd.beat + 1), Kp.refl.put (by simp [WkA.S]) W4.w mvL⟩
      rintro _ G5 ⟨rfl, W5, k5⟩
      have hst5 : SqT K G5 a.st (stdV sd.std) := k5.tup hst4
      obtain ⟨dt, tl, ts, t1, t2, t3⟩ := W5.cfg.1
      obtain ⟨as, g1, g2, g3⟩ := t3.at_
      have hz : c.sizes[sd.std.num.toNat]? = some (c.sizes.getD sd.std.num.toNat []) := by
        have hlt : sd.std.num.toNat < c.sizes.length := by
          have := hW.cfg.2.2.1
          omega
        rw [List.getD_eq_getElem?_getD, List.getElem?_eq_getElem hlt]
        rfl
      obtain ⟨ra, e1, e2⟩ := g3 _ _ hz
      refine ⟨_, rfl, wk, _, _, _, _, rfl, W5.ins, T.cl_Walk, T.n_Walk_talk_walked, lookF (i := 0) nd_Walk rfl rfl, a.t, _, _, _, _, rfl, t1, T.cl_Talk, T.n_Talk_sizes, lookF (i := 1) nd_Talk rfl rfl, _, rfl, a.st, _, _, _, rfl, rfl, hst5, at_nat (by decide) rfl, ts, _, _, _, rfl, rfl, g1, at_nat hn (by rw [List.getElem?_map, e1] <;> rfl), _, rfl, a.st, _, _, _, rfl, rfl, hst5, at_nat (by decide) rfl, ra, _, _, _, rfl, rfl, e2, at_int c2 c3, ?_⟩
      have es : (c.sizes.getD sd.std.num.toNat []).getD sd.std.coming.toNat 0 = c.size sd.std.num sd.std.coming := rfl
      rw [es]
      have hb5 : G5 a.b = some (.lst (bs.map V.int ++ [V.int bl])) := by
        have := W5.b
        have this : G5 a.b = some (.lst (sd.begun.map V.int)) := this
        rw [this, eb, List.map_append] <;> rfl
      refine ⟨_, rfl, _, rfl, wk, _, _, _, _, rfl, W5.ins, T.cl_Walk, T.n_Walk_beat_here, lookF (i := 6) nd_Walk rfl rfl, _, rfl, wk, _, _, _, _, rfl, W5.ins, T.cl_Walk, T.n_Walk_begun, lookF (i := 10) nd_Walk rfl rfl, _, rfl, a.b, _, _, _, rfl, rfl, SqL.of hb5, atI_last _ _, _, _, rfl, rfl, fun x dx hx hdx hne => ?_⟩
      refine ⟨x, dx, [.int (c.size sd.std.num sd.std.coming), .int (sd.beat + 1 - bl)], rfl, rfl, upd_same, rfl, ?_⟩
      have kx : Kp [] G5 (upd (upd (upd G5 dx (.own x)) x (.ins (cSpeed K) dx [])) x (.ins (cSpeed K) dx (kSpeed.zip [.int (c.size sd.std.num sd.std.coming), .int (sd.beat + 1 - bl)]))) := ((Kp.refl.new hdx).new hx).new hx
      have W6 := W5.kp kx.toN (by simp)
      refine rd_put (ks := kWalk) (vs := wkV { a with st := q } c chv { sd with std := n, plays := plays', stalls := stalls', beat := sd.beat + 1, kepts := sd.kepts ++ [n.kept], whole := sd.whole ++ [sd.beat + 1] }) 8 rfl W6.ins T.cl_Walk T.n_Walk_speed_last nd_Walk rfl (by show 8 < 15; decide) (by show 15 < 1000; decide) ?_
      have W7 := W6.put (vs := (wkV { a with st := q } c chv { sd with std := n, plays := plays', stalls := stalls', beat := sd.beat + 1, kepts := sd.kepts ++ [n.kept], whole := sd.whole ++ [sd.beat + 1] }).set 8 (.ref x)) (q := q) (v' := .ref x) (std' := n) (beat' := sd.beat + 1) (rl' := sd.rl) (sl' := some (c.size sd.std.num sd.std.coming, sd.beat + 1 - bl)) W6.st ⟨x, dx, rfl, upd_same⟩ rfl
      refine k { a with st := q, sv := .ref x } _ (by rw [eS]; exact W7) rfl ?_
      exact ((kk4.trans k5).trans (kx.mono (by simp))).put (by simp [WkA.S]) W6.ins (.inr ⟨_, _, _, rfl, rfl⟩)
    · have hw : ¬ n.num > sd.std.num := fun z => hw (decide_eq_true z)
      rw [if_neg hw, if_neg hw] at eS
      exact k { a with st := q } _ (by rw [eS]; exact W4) rfl kk4
end
end K76


set_option Elab.async false
set_option linter.all false
set_option maxRecDepth 100000
set_option maxHeartbeats 4000000
/-! The road's methods. -/
namespace K76
open PySem PySem.Spec PyProof.Rows L2 LamX NdefX
theorem pr_at {K : PySem.W.Frag} {H : Hp} {t : Addr} {ps : List (Int × Int)} (h : TupsAt K H t (prs ps)) : ∃ as : List Addr, SqT K H t (as.map V.ref) ∧ as.length = ps.length ∧ ∀ (i : Nat) (a : Addr), as[i]? = some a → ∃ p, ps[i]? = some p ∧ SqT K H a [.int p.1, .int p.2] := by
  obtain ⟨as, h1, h2, h3⟩ := h
  rw [prs_len] at h2
  refine ⟨as, h1, h2, fun i a e => ?_⟩
  obtain ⟨r, e1, e2⟩ := h3 i a e
  unfold prs at e1
  rw [List.getElem?_map] at e1
  cases q : ps[i]? with
  | none => rw [q] at e1; cases e1
  | some p =>
    rw [q] at e1
    cases e1
    exact ⟨p, rfl, e2⟩
theorem drop_at {α : Type} {l : List α} {i : Nat} {x : α} (h : l[i]? = some x) : l.drop i = x :: l.drop (i + 1) := by
  have hi := (List.getElem?_eq_some_iff.mp h).1
  rw [List.drop_eq_getElem_cons hi]
  congr 1
  rw [List.getElem?_eq_getElem hi] at h
  exact Option.some.inj h
theorem mx_eq (i j : Int) : (if j > i then j else i) = max i j := by
  split <;> omega
theorem mn_eq (i j : Int) : (if j < i then j else i) = min i j := by
  split <;> omega
theorem ref_at {as : List Addr} {i : Nat} {x : V} (h : (as.map V.ref)[i]? = some x) : ∃ a, as[i]? = some a ∧ x = .ref a := by
  rw [List.getElem?_map] at h
  cases e : as[i]? with
  | none => rw [e] at h; cases h
  | some a =>
    rw [e] at h
    exact ⟨a, rfl, (Option.some.inj h).symm⟩
/-- a road with its last piece told -/
structure RdAt (K : PySem.W.Frag) (H : Hp) (r : Addr) (qs : List (Int × Int)) (n0 z : Int) : Prop where
  at_ : RoadAt K H r (qs ++ [(n0, z)])
  b : ∀ p ∈ qs ++ [(n0, z)], 1 ≤ p.1 ∧ p.1 ≤ 50 ∧ 0 ≤ p.2 ∧ p.2 ≤ 1000
  z0 : 0 < z
theorem RdAt.x {K : PySem.W.Frag} {H H' : Hp} {r : Addr} {qs : List (Int × Int)} {n0 z : Int} (h : RdAt K H r qs n0 z) (k : Kx H H') : RdAt K H' r qs n0 z := ⟨k.road h.at_, h.b, h.z0⟩
def spSpeedAt (K : PySem.W.Frag) : Sp := fun vs H Q _ => ∃ (r : Addr) (b : Int) (qs : List (Int × Int)) (n0 z : Int), vs = [.ref r, .int b] ∧ RdAt K H r qs n0 z ∧ Q (.int (RPm.spd z (qs ++ [(n0, z)]) b)) H
def spSumOf (K : PySem.W.Frag) : Sp := fun vs H Q _ => ∃ (r : Addr) (f l : Int) (qs : List (Int × Int)) (n0 z : Int), vs = [.ref r, .int f, .int l] ∧ RdAt K H r qs n0 z ∧ Q (.int (RPm.sumF z f l (qs ++ [(n0, z)]) 0 0)) H
def spFetched (K : PySem.W.Frag) : Sp := fun vs H Q _ => ∃ (r : Addr) (b size wt : Int) (qs : List (Int × Int)) (n0 z : Int), vs = [.ref r, .int b, .int size, .int wt] ∧ RdAt K H r qs n0 z ∧ 0 < size ∧ ∀ H', Kp [] H H' → Q (.int (RPm.fetF z qs (b + wt) size 0)) H'
section
variable {P : Program} {w : World} {K : PySem.W.Frag} {mg : Str → Option Value} {base : Heap}
theorem c_speed_at (T : Tx K mg) : Met P w K mg base 1 (cRoad K) "speed_at" (spSpeedAt K) := by
  refine mk_Road_speed_at T (fun vs H Q E h => ?_) (fun cdv A outer s H vs Q E hr h => ?_)
  · obtain ⟨r, b, qs, n0, z, rfl, _⟩ := h
    rfl
  · obtain ⟨r, b, qs, n0, z, rfl, hR, k⟩ := h
    refine ⟨_, (pss_cons (ps_set (i := 2) sc_Road_speed_at.nd rfl (Or.inl rfl) (pv 1))
    (pss_cons (ps_for PassesOwn.never rfl (pi_tup (pe_fld (pv 0) rfl)) (pg_tup rfl (pgs_cons (pg_name (i := 3) sc_Road_speed_at.nd rfl (Or.inl rfl)) (pgs_cons (pg_name (i := 4) sc_Road_speed_at.nd rfl (Or.inl rfl)) pgs_nil)))
      (pss_cons (ps_if (pt_cmpR op_lt (pv 2) (pv 3) (nomark _)) (pss_one (ps_ret (pv 4))) pss_nil)
      (pss_one (ps_aug (i := 2) sc_Road_speed_at.nd rfl (Or.inl rfl) (pv 3) ip_sub))))
    (pss_one (ps_ret (pe_ix ix_tup (pe_ix ix_tup (pe_fld (pv 0) rfl) (pe_un un_neg pe_int) (fun _ _ => rfl)) pe_int (fun _ _ => rfl)))))), ?_⟩
    obtain ⟨dx, tp, h1, h2⟩ := hR.at_
    obtain ⟨as, g1, g2, g3⟩ := pr_at h2
    refine ⟨_, rfl, _, rfl, r, _, _, _, _, rfl, h1, T.cl_Road, T.n_Road_pieces, lookF (i := 0) nd_Road rfl rfl, tp, rfl, ⟨_, g1⟩, for_tup (K := K) (a := tp) (xs := as.map V.ref) (fun i σ H2 => ∃ (left : Int) (v3 v4 : Option V), σ = [some (.ref r), some (.int b), some (.int left), v3, v4] ∧ H2 = H ∧ RPm.spd z (qs ++ [(n0, z)]) b = RPm.spd z ((qs ++ [(n0, z)]).drop i) left) ⟨b, none, none, rfl, rfl, rfl⟩ (fun i σ H2 _ ⟨_, _, _, _, e, _⟩ => by rw [e]; exact g1) ?_ ?_⟩
    · rintro i x σ H2 hx ⟨left, v3, v4, rfl, rfl, es⟩
      obtain ⟨a, ea, rfl⟩ := ref_at hx
      obtain ⟨p, ep, hp⟩ := g3 i a ea
      rw [drop_at ep] at es
      have es : RPm.spd z (qs ++ [(n0, z)]) b = if left < p.1 then p.2 else RPm.spd z ((qs ++ [(n0, z)]).drop (i + 1)) (left - p.1) := es
      refine ⟨a, _, rfl, hp, rfl, _, _, rfl, _, _, rfl, rfl, _, rfl, _, rfl, _, _, rfl, rfl, _, rfl, ?_⟩
      by_cases hl : left < p.1
      · rw [decide_eq_true hl]
        rw [if_pos hl] at es
        rw [es] at k
        exact iteT ⟨_, rfl, k⟩
      · rw [decide_eq_false hl]
        rw [if_neg hl] at es
        refine iteF ⟨_, rfl, _, rfl, _, _, rfl, rfl, left - p.1, _, _, rfl, rfl, es⟩
    · rintro σ H2 ⟨left, v3, v4, rfl, rfl, es⟩
      have hal : as.length = qs.length + 1 := by rw [g2, List.length_append] <;> rfl
      rw [List.length_map, hal, List.drop_of_length_le (by rw [List.length_append]; exact Nat.le_refl _)] at es
      have es : RPm.spd z (qs ++ [(n0, z)]) b = z := es
      rw [es] at k
      have ha : as[qs.length]? = some as[qs.length] := List.getElem?_eq_getElem (by omega)
      obtain ⟨p, ep, hp⟩ := g3 qs.length _ ha
      rw [List.getElem?_append_right (Nat.le_refl _), Nat.sub_self] at ep
      cases ep
      have el : as.map V.ref = (as.take qs.length).map V.ref ++ [V.ref as[qs.length]] := by
        conv => lhs; rw [← List.take_append_drop qs.length as]
        rw [List.map_append, drop_at ha, List.drop_of_length_le (by omega)]
        rfl
      rw [el] at g1
      exact ⟨_, rfl, r, _, _, _, _, rfl, h1, T.cl_Road, T.n_Road_pieces, lookF (i := 0) nd_Road rfl rfl, _, rfl, tp, _, _, _, rfl, rfl, g1, atI_last _ _, _, _, _, _, rfl, rfl, hp, at_nat (by decide) rfl, k⟩
theorem c_sum_of (T : Tx K mg) : Met P w K mg base 1 (cRoad K) "sum_of" (spSumOf K) := by
  refine mk_Road_sum_of T (fun vs H Q E h => ?_) (fun cdv A outer s H vs Q E hr h => ?_)
  · obtain ⟨r, f, l, qs, n0, z, rfl, _⟩ := h
    rfl
  · obtain ⟨r, f, l, qs, n0, z, rfl, hR, k⟩ := h
    refine ⟨_, (pss_cons (ps_asg2 pe_int (pg_name (i := 3) sc_Road_sum_of.nd rfl (Or.inl rfl)) (pg_name (i := 4) sc_Road_sum_of.nd rfl (Or.inl rfl)))
    (pss_cons (ps_for PassesOwn.never rfl (pi_tup (pe_fld (pv 0) rfl)) (pg_tup rfl (pgs_cons (pg_name (i := 5) sc_Road_sum_of.nd rfl (Or.inl rfl)) (pgs_cons (pg_name (i := 6) sc_Road_sum_of.nd rfl (Or.inl rfl)) pgs_nil)))
      (pss_cons (ps_aug (i := 3) sc_Road_sum_of.nd rfl (Or.inl rfl) (pe_op op_mul (pv 6) (pe_callB (call_max2 rfl) rfl T.f_max (by decide +kernel) (pa_cons pe_int (pa_cons (pe_op op_sub (pe_callB (call_min2 rfl) rfl T.f_min (by decide +kernel) (pa_cons (pv 2) (pa_cons (pe_op op_add (pv 4) (pv 5)) pa_nil))) (pe_callB (call_max2 rfl) rfl T.f_max (by decide +kernel) (pa_cons (pv 1) (pa_cons (pv 4) pa_nil)))) pa_nil)))) ip_add)
      (pss_one (ps_aug (i := 4) sc_Road_sum_of.nd rfl (Or.inl rfl) (pv 5) ip_add))))
    (pss_one (ps_ret (pe_op op_add (pv 3) (pe_op op_mul (pe_ix ix_tup (pe_ix ix_tup (pe_fld (pv 0) rfl) (pe_un un_neg pe_int) (fun _ _ => rfl)) pe_int (fun _ _ => rfl)) (pe_callB (call_max2 rfl) rfl T.f_max (by decide +kernel) (pa_cons pe_int (pa_cons (pe_op op_sub (pv 2) (pe_callB (call_max2 rfl) rfl T.f_max (by decide +kernel) (pa_cons (pv 1) (pa_cons (pv 4) pa_nil)))) pa_nil))))))))), ?_⟩
    obtain ⟨dx, tp, h1, h2⟩ := hR.at_
    obtain ⟨as, g1, g2, g3⟩ := pr_at h2
    refine ⟨_, rfl, r, _, _, _, _, rfl, h1, T.cl_Road, T.n_Road_pieces, lookF (i := 0) nd_Road rfl rfl, tp, rfl, ⟨_, g1⟩, for_tup (K := K) (a := tp) (xs := as.map V.ref) (fun i σ H2 => ∃ (found at_ : Int) (v5 v6 : Option V), σ = [some (.ref r), some (.int f), some (.int l), some (.int found), some (.int at_), v5, v6] ∧ H2 = H ∧ RPm.sumF z f l (qs ++ [(n0, z)]) 0 0 = RPm.sumF z f l ((qs ++ [(n0, z)]).drop i) at_ found) ⟨0, 0, none, none, rfl, rfl, rfl⟩ (fun i σ H2 _ ⟨_, _, _, _, _, e, _⟩ => by rw [e]; exact g1) ?_ ?_⟩
    · rintro i x σ H2 hx ⟨found, at_, v5, v6, rfl, rfl, es⟩
      obtain ⟨a, ea, rfl⟩ := ref_at hx
      obtain ⟨p, ep, hp⟩ := g3 i a ea
      have pb := hR.b p (List.mem_of_getElem? ep)
      rw [drop_at ep] at es
      have es : RPm.sumF z f l (qs ++ [(n0, z)]) 0 0 = RPm.sumF z f l ((qs ++ [(n0, z)]).drop (i + 1)) (at_ + p.1) (found + p.2 * max 0 (min l (at_ + p.1) - max f at_)) := es
      refine ⟨a, _, rfl, hp, rfl, _, _, rfl, _, _, rfl, rfl, ?_⟩
      refine ⟨_, rfl, _, rfl, _, rfl, _, rfl, _, rfl, _, _, rfl, rfl, _, _, rfl, _, rfl, _, rfl, _, _, rfl, _, _, rfl, rfl, _, _, rfl, _, _, rfl, rfl, .inl ⟨by omega, by omega⟩, _, _, rfl, rfl, ?_⟩
      refine ⟨_, rfl, _, rfl, _, _, rfl, rfl, _, _, _, _, rfl, rfl, ?_⟩
      rw [mx_eq, mn_eq, mx_eq]
      exact es
    · rintro σ H2 ⟨found, at_, v5, v6, rfl, rfl, es⟩
      have hal : as.length = qs.length + 1 := by rw [g2, List.length_append] <;> rfl
      rw [List.length_map, hal, List.drop_of_length_le (by rw [List.length_append]; exact Nat.le_refl _)] at es
      have es : RPm.sumF z f l (qs ++ [(n0, z)]) 0 0 = found + z * max 0 (l - max f at_) := es
      rw [es] at k
      have ha : as[qs.length]? = some as[qs.length] := List.getElem?_eq_getElem (by omega)
      obtain ⟨p, ep, hp⟩ := g3 qs.length _ ha
      rw [List.getElem?_append_right (Nat.le_refl _), Nat.sub_self] at ep
      cases ep
      have zb := hR.b (n0, z) (by simp)
      have zb : z ≤ 1000 := zb.2.2.2
      have z0 := hR.z0
      have el : as.map V.ref = (as.take qs.length).map V.ref ++ [V.ref as[qs.length]] := by
        conv => lhs; rw [← List.take_append_drop qs.length as]
        rw [List.map_append, drop_at ha, List.drop_of_length_le (by omega)]
        rfl
      rw [el] at g1
      refine ⟨_, rfl, _, rfl, r, _, _, _, _, rfl, h1, T.cl_Road, T.n_Road_pieces, lookF (i := 0) nd_Road rfl rfl, _, rfl, tp, _, _, _, rfl, rfl, g1, atI_last _ _, _, _, _, _, rfl, rfl, hp, at_nat (by decide) rfl, _, rfl, _, rfl, _, rfl, _, _, rfl, _, _, rfl, rfl, _, _, rfl, _, _, rfl, rfl, .inl ⟨by omega, by omega⟩, _, _, rfl, rfl, ?_⟩
      have e : found + z * (if l - (if at_ > f then at_ else f) > 0 then l - (if at_ > f then at_ else f) else 0) = found + z * max 0 (l - max f at_) := by rw [mx_eq, mx_eq]
      show Q (.int (found + z * (if l - (if at_ > f then at_ else f) > 0 then l - (if at_ > f then at_ else f) else 0))) H2
      rw [e]
      exact k
theorem c_fetched (T : Tx K mg) : ∃ fd, FnP K "fetched" "Road.fetched" s_Road_fetched [("wait", V.int 0)] (He.ma K (He.ga K "Road") "fetched") fd ∧ FnOk P w K mg base CX0 1 (He.ma K (He.ga K "Road") "fetched") fd ["self", "begin", "size", "wait"] (spFetched K) := by
  refine mk_Road_fetched T (fun vs H Q E h => ?_) (fun cdv A outer s H vs Q E hr h => ?_)
  · obtain ⟨r, b, size, wt, qs, n0, z, rfl, _⟩ := h
    rfl
  · obtain ⟨r, b, size, wt, qs, n0, z, rfl, hR, hsz, k⟩ := h
    refine ⟨_, (pss_cons (ps_set (i := 4) sc_Road_fetched.nd rfl (Or.inl rfl) (pe_op op_add (pv 1) (pv 3)))
    (pss_cons (ps_set (i := 5) sc_Road_fetched.nd rfl (Or.inl rfl) (pv 2))
    (pss_cons (ps_set (i := 6) sc_Road_fetched.nd rfl (Or.inl rfl) pe_int)
    (pss_cons (ps_for PassesOwn.never rfl (pi_tup (pe_slice sl_tup (pe_fld (pv 0) rfl) po_none (po_some (pe_un un_neg pe_int)))) (pg_tup rfl (pgs_cons (pg_name (i := 7) sc_Road_fetched.nd rfl (Or.inl rfl)) (pgs_cons (pg_name (i := 8) sc_Road_fetched.nd rfl (Or.inl rfl)) pgs_nil)))
      (pss_cons (ps_aug (i := 6) sc_Road_fetched.nd rfl (Or.inl rfl) (pv 7) ip_add)
      (pss_one (ps_if (PW.pt (pw_and (pt_cmpR op_lt (pv 4) (pv 6) (nomark _)) (pw_and1 (pt_cmpR op_gt (pv 5) (pe_op op_mul (pv 8) (pe_op op_sub (pv 6) (pv 4))) (nomark _))))) (pss_cons (ps_aug (i := 5) sc_Road_fetched.nd rfl (Or.inl rfl) (pe_op op_mul (pv 8) (pe_op op_sub (pv 6) (pv 4))) ip_sub)
        (pss_one (ps_set (i := 4) sc_Road_fetched.nd rfl (Or.inl rfl) (pv 6)))) (pss_one (ps_if (pt_cmpR op_lt (pv 4) (pv 6) (nomark _)) (pss_one (ps_ret (pe_op op_sub (pv 4) (pe_op op_fdiv (pe_un un_neg (pv 5)) (pv 8))))) pss_nil))))))
    (pss_one (ps_ret (pe_op op_sub (pv 4) (pe_op op_fdiv (pe_un un_neg (pv 5)) (pe_ix ix_tup (pe_ix ix_tup (pe_fld (pv 0) rfl) (pe_un un_neg pe_int) (fun _ _ => rfl)) pe_int (fun _ _ => rfl)))))))))), ?_⟩
    obtain ⟨dx, tp, h1, h2⟩ := hR.at_
    obtain ⟨as, g1, g2, g3⟩ := pr_at h2
    have hal : as.length = qs.length + 1 := by rw [g2, List.length_append] <;> rfl
    have ha : as[qs.length]? = some as[qs.length] := List.getElem?_eq_getElem (by omega)
    obtain ⟨p, ep, hp⟩ := g3 qs.length _ ha
    rw [List.getElem?_append_right (Nat.le_refl _), Nat.sub_self] at ep
    cases ep
    have zb := hR.b (n0, z) (by simp)
    have zb : z ≤ 1000 := zb.2.2.2
    have z0 := hR.z0
    have el : as.map V.ref = (as.take qs.length).map V.ref ++ [V.ref as[qs.length]] := by
      conv => lhs; rw [← List.take_append_drop qs.length as]
      rw [List.map_append, drop_at ha, List.drop_of_length_le (by omega)]
      rfl
    rw [el] at g1
    refine ⟨_, rfl, _, rfl, _, _, rfl, rfl, _, rfl, _, rfl, r, _, _, _, _, rfl, h1, T.cl_Road, T.n_Road_pieces, lookF (i := 0) nd_Road rfl rfl, _, rfl, _, rfl, tp, _, rfl, g1, ?_, fun sl hsl => ?_⟩
    · rintro ⟨_, e⟩
      have hlen : ((as.take qs.length).map V.ref ++ [V.ref as[qs.length]]).length = qs.length + 1 := by
        rw [← el, List.length_map, hal]
      rw [hlen] at e
      unfold HT.sIx at e
      simp only at e
      rw [if_pos (by decide)] at e
      omega
    · rw [cut_last]
      have kk : Kp [] H (upd H sl (.tup ((as.take qs.length).map V.ref))) := Kp.refl.new hsl
      have hsq : SqT K (upd H sl (.tup ((as.take qs.length).map V.ref))) sl ((as.take qs.length).map V.ref) := SqT.of upd_same
      have htl : (as.take qs.length).length = qs.length := by rw [List.length_take]; omega
      refine ⟨sl, rfl, ⟨_, hsq⟩, for_tup (K := K) (a := sl) (xs := (as.take qs.length).map V.ref) (fun i σ H2 => ∃ (here left at_ : Int) (v7 v8 : Option V), σ = [some (.ref r), some (.int b), some (.int size), some (.int wt), some (.int here), some (.int left), some (.int at_), v7, v8] ∧ H2 = upd H sl (.tup ((as.take qs.length).map V.ref)) ∧ 0 < left ∧ RPm.fetF z qs (b + wt) size 0 = RPm.fetF z (qs.drop i) here left at_) ⟨b + wt, size, 0, none, none, rfl, rfl, hsz, rfl⟩ (fun i σ H2 _ ⟨_, _, _, _, _, _, e, _⟩ => by rw [e]; exact hsq) ?_ ?_⟩
      · rintro i x σ H2 hx ⟨here, left, at_, v7, v8, rfl, rfl, hl, es⟩
        obtain ⟨a, ea, rfl⟩ := ref_at hx
        have hi : i < qs.length := by
          have := (List.getElem?_eq_some_iff.mp ea).1
          omega
        rw [List.getElem?_take_of_lt hi] at ea
        obtain ⟨p, ep, hp⟩ := g3 i a ea
        have pb := hR.b p (List.mem_of_getElem? ep)
        rw [List.getElem?_append_left hi] at ep
        rw [drop_at ep] at es
        have es : RPm.fetF z qs (b + wt) size 0 = if here < at_ + p.1 ∧ left > p.2 * (at_ + p.1 - here) then RPm.fetF z (qs.drop (i + 1)) (at_ + p.1) (left - p.2 * (at_ + p.1 - here)) (at_ + p.1) else if here < at_ + p.1 then here - -left / p.2 else RPm.fetF z (qs.drop (i + 1)) here left (at_ + p.1) := es
        refine ⟨a, _, rfl, kk.tup hp, rfl, _, _, rfl, _, _, rfl, rfl, _, rfl, _, rfl, _, _, rfl, rfl, ?_⟩
        refine ⟨_, rfl, _, rfl, _, _, rfl, rfl, _, rfl, ?_⟩
        by_cases hh : here < at_ + p.1
        · rw [decide_eq_true hh]
          refine iteT ⟨_, rfl, _, rfl, _, rfl, _, rfl, _, _, rfl, rfl, _, _, rfl, rfl, .inl ⟨by omega, by omega⟩, _, _, rfl, rfl, _, rfl, ?_⟩
          by_cases hg : left > p.2 * (at_ + p.1 - here)
          · rw [decide_eq_true hg]
            rw [if_pos ⟨hh, hg⟩] at es
            refine iteT ⟨_, rfl, _, rfl, _, rfl, _, rfl, _, _, rfl, rfl, _, _, rfl, rfl, .inl ⟨by omega, by omega⟩, _, _, rfl, rfl, _, rfl, at_ + p.1, left - p.2 * (at_ + p.1 - here), at_ + p.1, _, _, rfl, rfl, by omega, es⟩
          · rw [decide_eq_false hg]
            rw [if_neg (fun q => hg q.2), if_pos hh] at es
            rw [es] at k
            refine iteF ⟨_, rfl, _, rfl, _, _, rfl, rfl, _, rfl, ?_⟩
            rw [decide_eq_true hh]
            have hv : 0 < p.2 := by
              by_cases q : p.2 = 0
              · rw [q, Int.zero_mul] at hg
                omega
              · omega
            exact iteT ⟨_, rfl, _, rfl, _, rfl, _, rfl, _, _, rfl, rfl, ⟨hv, by omega⟩, _, _, rfl, rfl, k _ kk⟩
        · rw [decide_eq_false hh]
          rw [if_neg (fun q => hh q.1), if_neg hh] at es
          refine iteF (iteF ⟨_, rfl, _, rfl, _, _, rfl, rfl, _, rfl, ?_⟩)
          rw [decide_eq_false hh]
          exact iteF ⟨here, left, at_ + p.1, _, _, rfl, rfl, hl, es⟩
      · rintro σ H2 ⟨here, left, at_, v7, v8, rfl, rfl, hl, es⟩
        rw [List.length_map, htl, List.drop_of_length_le (Nat.le_refl _)] at es
        have es : RPm.fetF z qs (b + wt) size 0 = here - -left / z := es
        rw [es] at k
        exact ⟨_, rfl, _, rfl, _, rfl, _, rfl, r, _, _, _, _, rfl, kk.ins (by simp) h1, T.cl_Road, T.n_Road_pieces, lookF (i := 0) nd_Road rfl rfl, _, rfl, tp, _, _, _, rfl, rfl, kk.tup g1, atI_last _ _, _, _, _, _, rfl, rfl, kk.tup hp, at_nat (by decide) rfl, _, _, rfl, rfl, ⟨z0, by omega⟩, _, _, rfl, rfl, k _ kk⟩
end
end K76


set_option Elab.async false
set_option linter.all false
set_option maxRecDepth 100000
set_option maxHeartbeats 4000000
/-! run_of. -/
namespace K76
open PySem PySem.Spec PyProof.Rows L2 LamX NdefX
open RPm (Cfg Std)
structure RunIn (K : PySem.W.Frag) (H : Hp) (t r asked : Addr) (chv : V) (c : Cfg) (ch : Ch) (row : List Int) (rest : List (List Int)) (qs : List (Int × Int)) (n0 z : Int) (pre : List RPm.Seen) : Prop where
  cfg : CfgT K H t c
  ok : RPm.CfgOk c row.length
  rd : RdAt K H r qs n0 z
  pc : c.pieces = qs ++ [(n0, z)]
  cz : c.z = z
  ol : ∀ os, c.opens = some os → os.length = c.lens.length
  sz : c.sizes = row :: rest
  rl : ∀ x ∈ c.sizes, x.length = row.length
  pk : c.pick = pick ch row.length
  hch : ChAt K H asked chv ch
  ask : AskP K H asked ch pre
  m : c.most ≤ 1000
  nn : c.lens.length ≤ ch.n
  pl : ∀ ps, ch = .plan ps → c.lens.length ≤ ps.length
  hpre : pre.length ≤ 1000
theorem RunIn.kp {K : PySem.W.Frag} {H H' : Hp} {S : List Addr} {t r asked : Addr} {chv : V} {c : Cfg} {ch : Ch} {row : List Int} {rest : List (List Int)} {qs : List (Int × Int)} {n0 z : Int} {pre pre' : List RPm.Seen} (h : RunIn K H t r asked chv c ch row rest qs n0 z pre) (k : KpN S H H') (ha : AskP K H' asked ch pre') (hl : pre'.length ≤ 1000) :
    RunIn K H' t r asked chv c ch row rest qs n0 z pre' := ⟨h.cfg.x k.x, h.ok, h.rd.x k.x, h.pc, h.cz, h.ol, h.sz, h.rl, h.pk, h.hch.kp k, ha, h.m, h.nn, h.pl, hl⟩
def RunAt (K : PySem.W.Frag) (H : Hp) (rn : Addr) (s : RPm.St) : Prop := ∃ dx tr tb tw tp ts tk : Addr, H rn = some (.ins (cRun K) dx (kRun.zip [.ref tr, .ref tb, .ref tw, .ref tp, .ref ts, .int s.beat, .ref tk])) ∧
  SqT K H tr (s.rates.map V.int) ∧ SqT K H tb (s.begun.map V.int) ∧ SqT K H tw (s.whole.map V.int) ∧ SqT K H tp (s.plays.map V.int) ∧ TupsAt K H ts (prs s.stalls) ∧ SqT K H tk (s.kepts.map V.int)
theorem RunAt.x {K : PySem.W.Frag} {H H' : Hp} {rn : Addr} {s : RPm.St} (h : RunAt K H rn s) (k : Kx H H') : RunAt K H' rn s := by
  obtain ⟨dx, tr, tb, tw, tp, ts, tk, h0, h1, h2, h3, h4, h5, h6⟩ := h
  exact ⟨dx, tr, tb, tw, tp, ts, tk, k.ins _ _ _ _ h0 (by show 7 ≠ 15; decide), k.sqt h1, k.sqt h2, k.sqt h3, k.sqt h4, k.tups h5, k.sqt h6⟩
def spRunOf (K : PySem.W.Frag) : Sp := fun vs H Q _ => ∃ (t r asked : Addr) (chv ov : V) (c : Cfg) (ch : Ch) (row : List Int) (rest : List (List Int)) (qs : List (Int × Int)) (n0 z : Int) (pre : List RPm.Seen),
  vs = [.ref t, .ref r, chv, .int c.begin_, .int c.again, .int c.most, .int c.wait, ov] ∧ RunIn K H t r asked chv c ch row rest qs n0 z pre ∧ OpV K H ov c.opens ∧
  ∀ (rn : Addr) (st : RPm.St) (H' : Hp), RPm.Fin c st → RPm.Done c row.length st → RunAt K H' rn st → AskP K H' asked ch (pre ++ st.seens) → Kp (askS asked ch) H H' → Q (.ref rn) H'
theorem kb_Walk {K : PySem.W.Frag} {fd : FuncData} (F : FnP K "__init__" "Walk.__init__" s_Walk_init [("begin", V.int 4), ("again", V.int 8), ("most", V.int 30), ("wait", V.int 0), ("opens", V.non)] (He.ma K (He.ga K "Walk") "__init__") fd) :
    ∃ g, KBn K fd ["self", "talk", "chooser", "begin", "again", "most", "wait", "opens"] 3 ["begin", "again", "most", "wait", "opens"] g (fun vs zs => vs ++ zs) := by
  obtain ⟨mv, kb⟩ := F.kbinds0 (ps := ["self", "talk", "chooser", "begin", "again", "most", "wait", "opens"]) 3 ["begin", "again", "most", "wait", "opens"] [] (fun vs _ zs => vs ++ zs) (by simp) (by simp) (fun h1 _ h3 => h1.append h3) (fun D doc pm an cdv ct us mv ws h1 h2 h3 => match us, ws, h1, h3 with | [_, _, _], [_, _, _, _, _], _, _ => rfl)
  exact ⟨_, kb⟩
theorem kp_fresh {S0 A : List Addr} {H Hw G : Hp} (h : Same H Hw) (hf : ∀ x ∈ S0, H x = none) (k : Kp (S0 ++ A) Hw G) : Kp A H G := fun b o e n => k b o (h b o e) fun z => by
  rcases List.mem_append.mp z with z | z
  · rw [hf b z] at e
    cases e
  · exact n z
section
variable {P : Program} {w : World} {K : PySem.W.Frag} {mg : Str → Option Value} {base : Heap}
set_option maxHeartbeats 16000000 in
theorem c_run_of (T : Tx K mg) : ∃ fd, FnP K "run_of" "run_of" s_run_of [("begin", V.int 4), ("again", V.int 8), ("most", V.int 30), ("wait", V.int 0), ("opens", V.non)] (He.ga K "run_of") fd ∧ FnOk P w K mg base CX0 6 (He.ga K "run_of") fd ["talk", "road", "chooser", "begin", "again", "most", "wait", "opens"] (spRunOf K) := by
  have c_is_at_end : Met P w K mg base 4 (cWalk K) "is_at_end" (spIsAtEnd K) := c_is_at_end T
  have c_choose_here : Met P w K mg base 5 (cWalk K) "choose_here" (spChoose K) := c_choose_here T
  have c_step_on : Met P w K mg base 5 (cWalk K) "step_on" (spStep K) := c_step_on T
  have c_speed_at : Met P w K mg base 1 (cRoad K) "speed_at" (spSpeedAt K) := c_speed_at T
  have c_Run : Mak P w K mg base 1 "Run" (spInit (cRun K) kRun) := c_Run T
  obtain ⟨fdW, FW, GW⟩ := c_Walk_init (P := P) (w := w) (base := base) T
  obtain ⟨g, kb⟩ := kb_Walk FW
  refine mk_run_of T (fun vs H Q E h => ?_) (fun cdv A outer s H vs Q E hr h => ?_)
  · obtain ⟨t, r, asked, chv, ov, c, ch, row, rest, qs, n0, z, pre, rfl, _⟩ := h
    rfl
  · obtain ⟨t, r, asked, chv, ov, c, ch, row, rest, qs, n0, z, pre, rfl, hI, ho, k⟩ := h
    refine ⟨_, (C8.pss_cut (ps_set (i := 8) sc_run_of.nd rfl (Or.inl rfl) (pe_makeK (E := E0) T.mk_Walk GW (hr.mono (by decide)) rfl T.g_Walk kb pass00 (pa_cons (pv 0) (pa_cons (pv 2) pa_nil)) (pk_cons (pv 3) (pk_cons (pv 4) (pk_cons (pv 5) (pk_cons (pv 6) (pk_cons (pv 7) pk_nil)))))))
    (C8.pss_cut (ps_while PassesOwn.never (pt_not (pt_val (pe_mt0 c_is_at_end hr (by decide) (pv 8)))) (C8.pss_cut (ps_expr (pe_mt0 c_choose_here hr (by decide) (pv 8)))
      (pss_one (ps_expr (pe_mt c_step_on hr (by decide) (pv 8) (pa_cons (pe_mt c_speed_at hr (by decide) (pv 1) (pa_cons (pe_fld (pv 8) rfl) pa_nil)) pa_nil))))))
    (C8.pss_cut (ps_setLc (i := 9) (own := [("some", 15)]) (g := gName 15) rfl sc_run_of.nd rfl rfl (sw_true rfl rfl rfl (by decide +kernel)) (pi_tup (pe_tup (pa_cons (pe_fld (pv 8) rfl) (pa_cons (pe_fld (pv 8) rfl) (pa_cons (pe_fld (pv 8) rfl) (pa_cons (pe_fld (pv 8) rfl) (pa_cons (pe_fld (pv 8) rfl) pa_nil))))))) (blkOk_by (own := [("some", 15)]) (N := nN_run_of) (sc := defScope s_run_of) (by decide +kernel)) (fun _ _ _ _ _ => pg_name (i := 15) sc_run_of.nd rfl (Or.inl rfl)) (fun _ _ _ _ _ => pts_nil) (fun _ _ _ _ _ => pe_callTy (r := fun xs H Q => ∃ p ys, xs = [.ref p] ∧ ((SqL K H p ys ∧ ∀ l, H l = none → Q (.ref l) (upd H l (.tup ys))) ∨ (SqT K H p ys ∧ Q (.ref p) H))) call_tuple_of rfl T.f_tuple (by decide +kernel) (pa_cons (pv 15) pa_nil)))
    (pss_cons (ps_asg (pv 9) (pg_unl rfl (pgs_cons (pg_name (i := 10) sc_run_of.nd rfl (Or.inl rfl)) (pgs_cons (pg_name (i := 11) sc_run_of.nd rfl (Or.inl rfl)) (pgs_cons (pg_name (i := 12) sc_run_of.nd rfl (Or.inl rfl)) (pgs_cons (pg_name (i := 13) sc_run_of.nd rfl (Or.inl rfl)) (pgs_cons (pg_name (i := 14) sc_run_of.nd rfl (Or.inl rfl)) pgs_nil)))))))
    (pss_one (ps_ret (pe_mk c_Run hr (by decide) rfl (pa_cons (pv 10) (pa_cons (pv 11) (pa_cons (pv 12) (pa_cons (pv 13) (pa_cons (pv 14) (pa_cons (pe_fld (pv 8) rfl) (pa_cons (pe_callTy call_tuple_of rfl T.f_tuple (by decide +kernel) (pa_cons (pe_fld (pv 8) rfl) pa_nil)) pa_nil)))))))))))))), ?_⟩
    have ok := hI.ok
    -- walk = Walk(..)
    refine ⟨fun σ' Hw => ∃ (wk : Addr) (a : WkA), σ' = [some (.ref t), some (.ref r), some chv, some (.int c.begin_), some (.int c.again), some (.int c.most), some (.int c.wait), some ov, some (.ref wk), none, none, none, none, none, none, none] ∧ WalkAt K Hw wk c chv a RPm.st0 ∧ Same H Hw ∧ ∀ x ∈ a.S wk, H x = none, ?_, ?_⟩
    · refine ⟨_, rfl, _, rfl, _, rfl, _, rfl, _, rfl, _, rfl, _, rfl, rfl, rfl, fun x dx hx hdx hne => ?_⟩
      have kx : Kp [] H (upd (upd H dx (.own x)) x (.ins (cWalk K) dx [])) := (Kp.refl.new hdx).new hx
      refine ⟨x, t, dx, chv, ov, c, rfl, upd_same, hI.cfg.x kx.x, ok.mo, ho.x kx.x, fun a Hw W hf hk => ⟨rfl, x, a, rfl, W, Same.made hx hdx hk, fun y hy => ?_⟩⟩
      unfold WkA.S at hy
      rcases List.mem_cons.mp hy with rfl | hy
      · exact hx
      · exact kx.none (hf y hy) (by simp)
    rintro _ Hw ⟨wk, a0, rfl, W0, sm, hfr⟩
    have hdis : ∀ x ∈ a0.S wk, x ∉ askS asked ch := fun x hx hx2 => by
      have h0 := hfr x hx
      have := hI.ask
      cases ch with
      | own seed wide =>
        obtain ⟨⟨as, h1, _⟩, _⟩ := this
        rw [List.mem_singleton.mp hx2, h1] at h0
        cases h0
      | _ => cases hx2
    have ksm : Kp [] H Hw := Kp.same sm
    -- the loop
    refine ⟨fun σ' G => ∃ (s : RPm.St) (a : WkA), σ' = [some (.ref t), some (.ref r), some chv, some (.int c.begin_), some (.int c.again), some (.int c.most), some (.int c.wait), some ov, some (.ref wk), none, none, none, none, none, none, none] ∧ WalkAt K G wk c chv a s ∧ RPm.Fin c s ∧ RPm.Done c row.length s ∧ AskP K G asked ch (pre ++ s.seens) ∧ Kp (a0.S wk ++ askS asked ch) Hw G ∧ a.S wk = a0.S wk, ?_, ?_⟩
    · refine ⟨fun m σ' G => ∃ (s : RPm.St) (a : WkA), σ' = [some (.ref t), some (.ref r), some chv, some (.int c.begin_), some (.int c.again), some (.int c.most), some (.int c.wait), some ov, some (.ref wk), none, none, none, none, none, none, none] ∧ WalkAt K G wk c chv a s ∧ RPm.Good c s ∧ RPm.SlOk s ∧ RPm.Way c s ∧ RPm.Phi c s + s.beat ≤ 4512 ∧ m = (RPm.Phi c s).toNat ∧ AskP K G asked ch (pre ++ s.seens) ∧ Kp (a0.S wk ++ askS asked ch) Hw G ∧ a.S wk = a0.S wk, ⟨_, RPm.st0, a0, rfl, W0, RPm.good0 ok, RPm.sl0, RPm.way0, ?_, rfl, ?_, Kp.refl, rfl⟩, ?_⟩
      · have := RPm.phi0 ok
        show RPm.Phi c RPm.st0 + 0 ≤ 4512
        omega
      · show AskP K Hw asked ch (pre ++ [])
        rw [List.append_nil]
        exact hI.ask.kp ksm.toN (by simp)
      · rintro m σ' G ⟨s1, a, rfl, W, gd, slk, way, hph, rfl, hask, kG, hS⟩
        refine ⟨_, rfl, wk, _, _, rfl, W.ins, lookNo (by decide +kernel), wk, c, chv, a, s1, rfl, W, fun G1 k1 => ⟨_, rfl, ?_⟩⟩
        have W1 := W.kp k1.toN (by simp)
        have kG1 := kG.trans (k1.mono (by simp))
        have hask1 := hask.kp k1.toN (by simp)
        cases hov : RPm.over c s1 with
        | true =>
          refine iteF ?_
          exact ⟨s1, a, rfl, W1, ⟨way, hov⟩, RPm.done_of ok gd hov hph, hask1, kG1, hS⟩
        | false =>
          refine iteT ?_
          have nover : s1.std.played ≠ c.total := of_decide_eq_false hov
          obtain ⟨gs, hp1, hbt⟩ := RPm.one_step ok gd hov
          obtain ⟨gc, hp2, hb2, hpl2⟩ := RPm.choose_good ok gd
          have hnn := RPm.phi_nn ok gd
          have hnn2 := RPm.phi_nn ok gs
          refine ⟨fun σ' G' => ∃ (s : RPm.St) (a : WkA), σ' = [some (.ref t), some (.ref r), some chv, some (.int c.begin_), some (.int c.again), some (.int c.most), some (.int c.wait), some ov, some (.ref wk), none, none, none, none, none, none, none] ∧ s = RPm.step c s1 ∧ WalkAt K G' wk c chv a s ∧ AskP K G' asked ch (pre ++ s.seens) ∧ Kp (a0.S wk ++ askS asked ch) Hw G' ∧ a.S wk = a0.S wk, ?_, ?_⟩
          · rintro σ' G' ⟨s2, a2, rfl, rfl, W2, ha2, k2, hS2⟩
            refine ⟨_, ?_, _, a2, rfl, W2, gs, RPm.sl_step ok gc (RPm.sl_choose slk) (by omega) _, way.step hov, ?_, rfl, ha2, k2, hS2⟩
            · omega
            · rw [hbt]
              omega
          · have bd := gd.k0
            have lr := gd.lr
            have lb := gd.lb
            have ls := gd.ls
            have n1 := gd.n1
            have l12 := ok.ln1
            have prl := hI.hpre
            have mm := hI.m
            have lsn : s1.seens.length ≤ 13 := by
              have : (s1.rates.length : Int) ≤ 13 := by
                rw [lr]
                split <;> omega
              omega
            refine ⟨fun σ' G' => ∃ a : WkA, σ' = [some (.ref t), some (.ref r), some chv, some (.int c.begin_), some (.int c.again), some (.int c.most), some (.int c.wait), some ov, some (.ref wk), none, none, none, none, none, none, none] ∧ WalkAt K G' wk c chv a (RPm.chooseHere c s1) ∧ AskP K G' asked ch (pre ++ (RPm.chooseHere c s1).seens) ∧ Kp (a0.S wk ++ askS asked ch) Hw G' ∧ a.S wk = a0.S wk, ?_, ?_⟩
            · refine ⟨_, rfl, wk, _, _, rfl, W1.ins, lookNo (by decide +kernel), wk, asked, c, chv, a, s1, ch, row, rest, pre, rfl, W1, hI.sz, hI.pk, (hI.hch.kp ksm.toN).kp kG1.toN, hask1, by rw [hS]; exact hdis, gd.n0, hI.ol, ?_, by omega, by omega, fun ha => ?_, fun ha ps e => ?_, fun a2 G2 W2 hS2 k2 ha2 => ?_⟩
              · rw [List.length_append]
                omega
              · unfold RPm.asks at ha
                simp only [Bool.and_eq_true, decide_eq_true_eq] at ha
                have hr2 := ha.2.1
                unfold RPm.hasRoom at hr2
                simp only [Bool.and_eq_true, decide_eq_true_eq] at hr2
                have nn := hI.nn
                exact ⟨gd.n0, by show s1.std.num < _; omega, bd.1, by show s1.std.kept < _; omega, slk⟩
              · unfold RPm.asks at ha
                simp only [Bool.and_eq_true, decide_eq_true_eq] at ha
                have hr2 := ha.2.1
                unfold RPm.hasRoom at hr2
                simp only [Bool.and_eq_true, decide_eq_true_eq] at hr2
                have := hI.pl ps e
                omega
              · rw [hS] at hS2 k2
                exact ⟨a2, rfl, W2, ha2, kG1.trans k2, hS2⟩
            · rintro _ G2 ⟨a2, rfl, W2, ha2, k2, hS2⟩
              have hR2 := hI.rd.x (ksm.x)
              have hR3 : RdAt K G2 r qs n0 z := hR2.x k2.x
              have espd : RPm.spd z (qs ++ [(n0, z)]) (RPm.chooseHere c s1).beat = c.speed s1.beat := by
                rw [hb2]
                unfold RPm.Cfg.speed
                rw [hI.cz, hI.pc]
              obtain ⟨dr, tpr, hrd, _⟩ := hR3.at_
              refine ⟨_, rfl, wk, _, _, rfl, W2.ins, lookNo (by decide +kernel), _, rfl, r, _, _, rfl, hrd, lookNo (by decide +kernel), _, rfl, wk, _, _, _, _, rfl, W2.ins, T.cl_Walk, T.n_Walk_beat_here, lookF (i := 6) nd_Walk rfl rfl, r, _, qs, n0, z, rfl, hR3, ?_⟩
              rw [espd]
              have nover2 : (RPm.chooseHere c s1).std.played ≠ c.total := by
                rw [hpl2]
                exact nover
              refine ⟨wk, c, chv, a2, RPm.chooseHere c s1, c.speed s1.beat, rfl, W2, gc.n0, gc.g0, fun hco => ?_, fun h1 h2 h3 => RPm.rows_ne ok gc nover2 _ h1 h2 h3, ?_, ?_, ?_, ?_, fun a3 G3 W3 hS3 k3 => ?_⟩
              · obtain ⟨q0, q1, q2, q3, q4, q5⟩ := RPm.come_ok ok gc hco
                refine ⟨q5, q0, ?_, (RPm.begun_ne ok gc hco).1⟩
                have hlt : (RPm.chooseHere c s1).std.num.toNat < c.sizes.length := by
                  have := hI.cfg.2.2.1
                  omega
                rw [hI.rl _ (RPm.getD_mem hlt)]
                exact q1
              · have h1 := gc.lp
                have h2 := gc.ke
                have h3 := gc.k0.1
                have h4 := RPm.pre_mono (fun x hx => (ok.lb x hx).1) (n := (RPm.chooseHere c s1).std.num.toNat) (c.lens.length - (RPm.chooseHere c s1).std.num.toNat) (by have := gc.n1; omega)
                rw [show (RPm.chooseHere c s1).std.num.toNat + (c.lens.length - (RPm.chooseHere c s1).std.num.toNat) = c.lens.length by have := gc.n1; omega, RPm.pre_all] at h4
                have h5 := hI.cfg.2.2.2.2
                have h6 : c.total = c.lens.sum := rfl
                omega
              · have := gc.gl
                omega
              · have := gc.lk
                omega
              · have := gc.lw
                have := gc.n1
                omega
              · rw [hS2] at hS3 k3
                refine ⟨_, a3, rfl, ?_, W3, ?_, k2.trans (k3.mono fun x h => List.mem_append_left _ h), hS3⟩
                · unfold RPm.step
                  rfl
                · exact ha2.kp k3.toN fun h1 z => hdis _ z h1
    rintro _ G ⟨s1, a, rfl, W, hfin, dn, hask, kG, hS⟩
    -- told = [tuple(some) for some in (..)]
    have tb := dn.g
    have lr := dn.lr
    have lb := dn.lb
    have lw := dn.lw
    have l12 := ok.ln1
    have bb := dn.bb
    have lpl := dn.pl
    have h5 := hI.cfg.2.2.2.2
    have hsl := dn.g.gl
    have hlk := dn.g.lk
    refine ⟨fun σ' G2 => ∃ (D tr tb tw tp ts : Addr), σ' = [some (.ref t), some (.ref r), some chv, some (.int c.begin_), some (.int c.again), some (.int c.most), some (.int c.wait), some ov, some (.ref wk), some (.ref D), none, none, none, none, none, none] ∧ Kp [] G G2 ∧ G2 D = some (.lst [.ref tr, .ref tb, .ref tw, .ref tp, .ref ts]) ∧
      SqT K G2 tr (s1.rates.map V.int) ∧ SqT K G2 tb (s1.begun.map V.int) ∧ SqT K G2 tw (s1.whole.map V.int) ∧ SqT K G2 tp (s1.plays.map V.int) ∧ TupsAt K G2 ts (prs s1.stalls), ?_, ?_⟩
    · obtain ⟨as, s2, s3⟩ := W.sr
      refine ⟨_, rfl, wk, _, _, _, _, rfl, W.ins, T.cl_Walk, T.n_Walk_rates, lookF (i := 9) nd_Walk rfl rfl, _, rfl, wk, _, _, _, _, rfl, W.ins, T.cl_Walk, T.n_Walk_begun, lookF (i := 10) nd_Walk rfl rfl, _, rfl, wk, _, _, _, _, rfl, W.ins, T.cl_Walk, T.n_Walk_whole, lookF (i := 11) nd_Walk rfl rfl,
        _, rfl, wk, _, _, _, _, rfl, W.ins, T.cl_Walk, T.n_Walk_plays, lookF (i := 12) nd_Walk rfl rfl, _, rfl, wk, _, _, _, _, rfl, W.ins, T.cl_Walk, T.n_Walk_stalls, lookF (i := 13) nd_Walk rfl rfl, (by show 5 ≤ sizeLine; decide), fun p5 hp5 => ?_⟩
      have k5 : Kp [] G (upd G p5 (.tup [.ref a.r, .ref a.b, .ref a.w, .ref a.p, .ref a.s])) := Kp.refl.new hp5
      refine ⟨p5, rfl, ⟨_, SqT.of upd_same⟩, fun D hD => ?_⟩
      have hp5D : SqT K (upd (upd G p5 (.tup [.ref a.r, .ref a.b, .ref a.w, .ref a.p, .ref a.s])) D (.lst [])) p5 [.ref a.r, .ref a.b, .ref a.w, .ref a.p, .ref a.s] := Kp.tup (S := []) (Kp.refl.new hD) (SqT.of upd_same)
      have hGD : G D = none := k5.none hD (by simp)
      let Ls : List (Addr × List V) := [(a.r, s1.rates.map V.int), (a.b, s1.begun.map V.int), (a.w, s1.whole.map V.int), (a.p, s1.plays.map V.int), (a.s, as.map V.ref)]
      have hLs : ∀ (j : Nat) (l : Addr × List V), Ls[j]? = some l → G l.1 = some (.lst l.2) := fun j l e => by
        match j, e with
        | 0, e => cases e; exact W.r
        | 1, e => cases e; exact W.b
        | 2, e => cases e; exact W.w
        | 3, e => cases e; exact W.p
        | 4, e => cases e; exact s2
        | n + 5, e => simp [Ls] at e
      refine lc_tup (K := K) (a := p5) (xs := Ls.map fun l : Addr × List V => V.ref l.1) (fun i H2 => Kp [] G H2 ∧ SqT K H2 p5 [.ref a.r, .ref a.b, .ref a.w, .ref a.p, .ref a.s] ∧ ∃ ts : List Addr, H2 D = some (.lst (ts.map V.ref)) ∧ ts.length = i ∧ ∀ (j : Nat) (u : Addr), ts[j]? = some u → ∃ l, Ls[j]? = some l ∧ SqT K H2 u l.2)
        ⟨k5.trans (Kp.refl.new hD), hp5D, [], upd_same, rfl, fun j u e => by simp at e⟩ (fun i H2 _ e => e.2.1) ?_ ?_
      · rintro i x H2 hx ⟨k2, hq, ts, h1, h2, h3⟩
        rw [List.getElem?_map] at hx
        cases hl : Ls[i]? with
        | none => rw [hl] at hx; cases hx
        | some l =>
          rw [hl] at hx
          cases hx
          have hi : i < 5 := (List.getElem?_eq_some_iff.mp hl).1
          have hGl := k2.lst (by simp) (hLs i l hl)
          refine ⟨rfl, _, rfl, l.1, l.2, rfl, .inl ⟨SqL.of hGl, fun u hu => ?_⟩⟩
          have nDu : D ≠ u := ne_of_none h1 hu
          refine ⟨_, by rw [upd_ne nDu]; exact h1, by rw [List.length_map, h2, sizeLine_eq]; omega, ?_⟩
          have ku : Kp [] H2 (upd H2 u (.tup l.2)) := Kp.refl.new hu
          have kD : Kp [D] (upd H2 u (.tup l.2)) (upd (upd H2 u (.tup l.2)) D (.lst (ts.map V.ref ++ [V.ref u]))) := Kp.refl.put (by simp) (by rw [upd_ne nDu]; exact h1) mvL
          refine ⟨(k2.trans ku).new hGD, kD.tup (ku.tup hq), ts ++ [u], by rw [List.map_append]; exact upd_same, by rw [List.length_append, h2] <;> rfl, fun j v e => ?_⟩
          by_cases hj : j < ts.length
          · rw [List.getElem?_append_left hj] at e
            obtain ⟨l', e1, e2⟩ := h3 j v e
            exact ⟨l', e1, kD.tup (ku.tup e2)⟩
          · have ej := (List.getElem?_eq_some_iff.mp e).1
            rw [List.length_append] at ej
            simp at ej
            have ej2 : j = ts.length := by omega
            subst ej2
            rw [List.getElem?_append_right (Nat.le_refl _), Nat.sub_self] at e
            cases e
            exact ⟨l, by rw [h2]; exact hl, SqT.of (by rw [upd_ne (Ne.symm nDu)]; exact upd_same)⟩
      · rintro H2 ⟨k2, hq, ts, h1, h2, h3⟩
        match ts, h2 with
        | [u0, u1, u2, u3, u4], _ =>
          obtain ⟨l0, e0, q0⟩ := h3 0 u0 rfl
          obtain ⟨l1, e1, q1⟩ := h3 1 u1 rfl
          obtain ⟨l2, e2, q2⟩ := h3 2 u2 rfl
          obtain ⟨l3, e3, q3⟩ := h3 3 u3 rfl
          obtain ⟨l4, e4, q4⟩ := h3 4 u4 rfl
          cases e0
          cases e1
          cases e2
          cases e3
          cases e4
          exact ⟨D, u0, u1, u2, u3, u4, rfl, k2, h1, q0, q1, q2, q3, (s3.x k2.x).at_ q4⟩
    rintro _ G2 ⟨D, tr, tb', tw, tp, ts, rfl, k2, hD, q0, q1, q2, q3, q4⟩
    have W2 := W.kp k2.toN (by simp)
    refine ⟨_, rfl, D, _, rfl, SqL.of hD, rfl, _, _, rfl, _, _, rfl, _, _, rfl, _, _, rfl, _, _, rfl, rfl, ?_⟩
    refine ⟨_, rfl, _, rfl, _, rfl, _, rfl, _, rfl, _, rfl, wk, _, _, _, _, rfl, W2.ins, T.cl_Walk, T.n_Walk_beat_here, lookF (i := 6) nd_Walk rfl rfl, _, rfl, wk, _, _, _, _, rfl, W2.ins, T.cl_Walk, T.n_Walk_kept, lookF (i := 14) nd_Walk rfl rfl, a.k, _, rfl, .inl ⟨SqL.of W2.k, fun tk htk => ?_⟩⟩
    intro x dx hx hdx hne
    refine ⟨x, dx, [.ref tr, .ref tb', .ref tw, .ref tp, .ref ts, .int s1.beat, .ref tk], rfl, rfl, upd_same, rfl, ?_⟩
    have k3 : Kp [] G2 (upd G2 tk (.tup (s1.kepts.map V.int))) := Kp.refl.new htk
    have k4 : Kp [] (upd G2 tk (.tup (s1.kepts.map V.int))) (upd (upd (upd (upd G2 tk (.tup (s1.kepts.map V.int))) dx (.own x)) x (.ins (cRun K) dx [])) x (.ins (cRun K) dx (kRun.zip [.ref tr, .ref tb', .ref tw, .ref tp, .ref ts, .int s1.beat, .ref tk]))) := ((Kp.refl.new hdx).new hx).new hx
    have kk := k3.trans k4
    have kAll := (kG.trans (k2.mono (by simp))).trans (kk.mono (by simp))
    refine k x s1 _ hfin dn ⟨dx, tr, tb', tw, tp, ts, tk, upd_same, kk.tup q0, kk.tup q1, kk.tup q2, kk.tup q3, kk.x.tups q4, k4.tup (SqT.of upd_same)⟩ ((hask.kp k2.toN (by simp)).kp kk.toN (by simp)) (kp_fresh sm hfr kAll)
end
end K76


set_option Elab.async false
set_option linter.all false
set_option maxRecDepth 100000
set_option maxHeartbeats 4000000
/-! The makers of choosers. -/
namespace K76
open PySem PySem.Spec PyProof.Rows L2 LamX NdefX
abbrev q_store : Str := "by_store.<locals>.rule"
abbrev q_speed : Str := "by_speed.<locals>.rule"
abbrev q_calm : Str := "calm.<locals>.calmed"
abbrev q_told : Str := "_law_rule.<locals>._law_told_by"
def tabL (K : PySem.W.Frag) : List NTab := [((He.cT K ("by_store", none)).2, fun _ _ => q_store), ((He.cT K ("by_speed", none)).2, fun _ _ => q_speed), ((He.cT K ("calm", none)).2, fun _ _ => q_calm), ((He.cT K ("_law_rule", none)).2, fun _ _ => q_told)]
def TbB (K : PySem.W.Frag) (mg : Str → Option Value) (base : Heap) : Prop := ∀ p ∈ tfL, TabB base mg (He.cT K p).1 (He.cT K p).2
theorem tab_nd {K : PySem.W.Frag} {mg : Str → Option Value} (T : Tx K mg) : [(He.cT K ("by_store", none)).2, (He.cT K ("by_speed", none)).2, (He.cT K ("calm", none)).2, (He.cT K ("_law_rule", none)).2].Nodup := by
  have e := T.ex
  unfold exB at e
  exact of_decide_eq_true (He.ba (He.ba (He.ba (He.ba (He.ba (He.ba (He.ba e).2).2).2).2).2).2).2
theorem tab_u {K : PySem.W.Frag} {mg : Str → Option Value} (T : Tx K mg) (i : Nat) {q : NTab} (hq : (tabL K)[i]? = some q) : ∀ p ∈ tabL K, p.1 = q.1 → p.2 = q.2 := by
  have nd := tab_nd T
  intro p hp e
  obtain ⟨j, hj⟩ := List.mem_iff_getElem?.mp hp
  have h1 : ((tabL K).map (·.1))[i]? = some q.1 := by rw [List.getElem?_map, hq] <;> rfl
  have h2 : ((tabL K).map (·.1))[j]? = some q.1 := by rw [List.getElem?_map, hj, ← e] <;> rfl
  have nd' : ((tabL K).map (·.1)).Nodup := nd
  have ij : j = i := nd_ix nd' h2 h1
  subst ij
  rw [hq] at hj
  cases hj
  rfl
theorem mem_tf {p : He.Defn} (i : Nat) (h : tfL[i]? = some p := by rfl) : p ∈ tfL := List.mem_of_getElem? h
section
variable {P : Program} {w : World} {K : PySem.W.Frag} {mg : Str → Option Value} {base : Heap}
theorem c_by_store (T : Tx K mg) (B : TbB K mg base) : Cal P w K mg base 1 "by_store" (spMk (tabL K) 1 i_store "rule" q_store ["steps"] (capV ["steps"] ["steps"])) := by
  obtain ⟨fd, F⟩ := D_by_store T
  have G := mk_fn (P := P) (w := w) (base := base) (T := tabL K) (dp := ("by_store", none)) (st := i_store) (name := "rule") (fr := ["steps"]) (k := 0) (j := 1) F sc_by_store rfl (B _ (mem_tf 0)) rfl (List.mem_of_getElem? (l := tabL K) (i := 0) rfl) (tab_u T 0 rfl) (by decide +kernel) rfl rfl (fun _ => rfl) rfl rfl
  exact ⟨_, fd, ["steps"], G, T.g_by_store, F.kp, F.bindsN fun _ _ _ _ _ _ us hl => match us, hl with | [_], _ => rfl⟩
theorem c_calm (T : Tx K mg) (B : TbB K mg base) : Cal P w K mg base 1 "calm" (spMk (tabL K) 1 i_calm "calmed" q_calm ["rule"] (capV ["rule"] ["rule"])) := by
  obtain ⟨fd, F⟩ := D_calm T
  have G := mk_fn (P := P) (w := w) (base := base) (T := tabL K) (dp := ("calm", none)) (st := i_calm) (name := "calmed") (fr := ["rule"]) (k := 0) (j := 1) F sc_calm rfl (B _ (mem_tf 2)) rfl (List.mem_of_getElem? (l := tabL K) (i := 2) rfl) (tab_u T 2 rfl) (by decide +kernel) rfl rfl (fun _ => rfl) rfl rfl
  exact ⟨_, fd, ["rule"], G, T.g_calm, F.kp, F.bindsN fun _ _ _ _ _ _ us hl => match us, hl with | [_], _ => rfl⟩
theorem c__law_rule (T : Tx K mg) (B : TbB K mg base) : Cal P w K mg base 1 "_law_rule" (spMk (tabL K) 3 i_told "_law_told_by" q_told ["_law_asked", "_law_seed", "_law_wide"] (capV ["_law_asked", "_law_seed", "_law_wide"] ["_law_asked", "_law_seed", "_law_wide"])) := by
  obtain ⟨fd, F⟩ := D__law_rule T
  have G := mk_fn (P := P) (w := w) (base := base) (T := tabL K) (dp := ("_law_rule", none)) (st := i_told) (name := "_law_told_by") (fr := ["_law_asked", "_law_seed", "_law_wide"]) (k := 0) (j := 3) F sc__law_rule rfl (B _ (mem_tf 3)) rfl (List.mem_of_getElem? (l := tabL K) (i := 3) rfl) (tab_u T 3 rfl) (by decide +kernel) rfl rfl (fun _ => rfl) rfl rfl
  exact ⟨_, fd, ["_law_asked", "_law_seed", "_law_wide"], G, T.g__law_rule, F.kp, F.bindsN fun _ _ _ _ _ _ us hl => match us, hl with | [_, _, _], _ => rfl⟩
theorem c_by_speed (T : Tx K mg) (B : TbB K mg base) : ∃ fd, FnP K "by_speed" "by_speed" s_by_speed [("part", V.ref (He.ga K "PART"))] (He.ga K "by_speed") fd ∧ FnOk P w K mg base CX0 1 (He.ga K "by_speed") fd ["talk", "part"] (spMk (tabL K) 2 i_speed "rule" q_speed ["talk", "part"] (capV ["talk", "part"] ["talk", "part"])) := by
  obtain ⟨fd, F⟩ := D_by_speed T
  have G := mk_fn (P := P) (w := w) (base := base) (T := tabL K) (dp := ("by_speed", none)) (st := i_speed) (name := "rule") (fr := ["talk", "part"]) (k := 0) (j := 2) F sc_by_speed rfl (B _ (mem_tf 1)) rfl (List.mem_of_getElem? (l := tabL K) (i := 1) rfl) (tab_u T 1 rfl) (by decide +kernel) rfl rfl (fun _ => rfl) rfl rfl
  exact ⟨fd, F, G⟩
end
theorem kb_by_speed {K : PySem.W.Frag} {fd : FuncData} (F : FnP K "by_speed" "by_speed" s_by_speed [("part", V.ref (He.ga K "PART"))] (He.ga K "by_speed") fd) : ∃ g, KBn K fd ["talk", "part"] 1 ["part"] g (fun vs zs => vs ++ zs) := by
  obtain ⟨mv, kb⟩ := F.kbinds0 (ps := ["talk", "part"]) 1 ["part"] [] (fun vs _ zs => vs ++ zs) (by simp) (by simp) (fun h1 _ h3 => h1.append h3) (fun D doc pm an cdv ct us mv ws h1 h2 h3 => match us, ws, h1, h3 with | [_], [_], _, _ => rfl)
  exact ⟨_, kb⟩
theorem kd_by_speed {K : PySem.W.Frag} {fd : FuncData} (F : FnP K "by_speed" "by_speed" s_by_speed [("part", V.ref (He.ga K "PART"))] (He.ga K "by_speed") fd) : ∃ ds, Vals [V.ref (He.ga K "PART")] ds ∧ Binds K fd ["talk", "part"] ds :=
  F.binds0 (ps := ["talk", "part"]) 1 (by simp) rfl fun D doc pm an cdv ct us ks h1 h2 => match us, ks, h1, h2 with
    | [_], [_], _, _ => ⟨_, _, _, _, _, _, rfl, rfl, rfl⟩
/-! ### what was made -/
section
variable {K : PySem.W.Frag} {H H' : Hp} {f a g asked t p : Addr} {T : List NTab} {vs : List V}
theorem MadeC.kp {st : Stmt} {name qual : Str} {fr : List Str} (h : MadeC T H H' f st name qual fr vs) : KpN [] H H' := KpN.ext h.ext
theorem made_store {steps : List Int} (h : MadeC T H H' f i_store "rule" q_store ["steps"] (capV ["steps"] ["steps"] [.ref a])) (ha : SqT K H a (steps.map V.int)) (hl : steps.length ≤ 1000) : RlAt K H' f (.store steps) := by
  obtain ⟨cl, c, cs, C, _⟩ := h.clo
  have e : capV ["steps"] ["steps"] [V.ref a] = [V.ref a] := by simp [capV]
  rw [e] at C
  exact ⟨cl, c, cs, a, C, h.kp.tup ha, hl⟩
theorem made_speed {lens : List Int} {sizes : List (List Int)} {x y : Int} (h : MadeC T H H' f i_speed "rule" q_speed ["talk", "part"] (capV ["talk", "part"] ["talk", "part"] [.ref t, .ref p])) (ht : TalkAt K H t lens sizes) (hp : SqT K H p [.int x, .int y])
    (hr : lens.length ≤ 12 ∧ sizes.length = lens.length ∧ (∀ z ∈ lens, 0 ≤ z ∧ z ≤ 20) ∧ (∀ r ∈ sizes, r.length ≤ 4 ∧ ∀ z ∈ r, 0 ≤ z ∧ z ≤ 300) ∧ 0 ≤ x ∧ x ≤ 100 ∧ 0 ≤ y ∧ y ≤ 100) : RlAt K H' f (.speed lens sizes x y) := by
  obtain ⟨cl, c, cs, C, _⟩ := h.clo
  have ne : ("part" == ("talk" : Str)) = false := by decide
  have e : capV ["talk", "part"] ["talk", "part"] [V.ref t, .ref p] = [V.ref t, .ref p] := by simp [capV, List.lookup, ne]
  rw [e] at C
  exact ⟨cl, c, cs, t, p, C, h.kp.x.talk ht, h.kp.tup hp, hr⟩
theorem made_calm {r : Rl} (h : MadeC T H H' f i_calm "calmed" q_calm ["rule"] (capV ["rule"] ["rule"] [.ref g])) (hg : RlAt K H g r) : ChAt K H' asked (.ref f) (.calm r) := by
  obtain ⟨cl, c, cs, C, hn⟩ := h.clo
  have e : capV ["rule"] ["rule"] [V.ref g] = [V.ref g] := by simp [capV]
  rw [e] at C
  refine ⟨f, cl, c, cs, g, rfl, C, hg.kp (S := []) fun b o eb _ nt => ?_⟩
  have hb : cs.lookup b = none := by
    cases q : cs.lookup b with
    | none => rfl
    | some v => rw [hn b v q] at eb; cases eb
  rw [hide_out hb]
  exact h.ext b o eb nt
theorem made_own {seed wide : Int} (h : MadeC T H H' f i_told "_law_told_by" q_told ["_law_asked", "_law_seed", "_law_wide"] (capV ["_law_asked", "_law_seed", "_law_wide"] ["_law_asked", "_law_seed", "_law_wide"] [.ref asked, .int seed, .int wide])) (h0 : 0 ≤ wide) (h1 : wide ≤ 100) : ChAt K H' asked (.ref f) (.own seed wide) := by
  obtain ⟨cl, c, cs, C, _⟩ := h.clo
  have e1 : ("_law_seed" == ("_law_asked" : Str)) = false := by decide
  have e2 : ("_law_wide" == ("_law_asked" : Str)) = false := by decide
  have e3 : ("_law_wide" == ("_law_seed" : Str)) = false := by decide
  have e : capV ["_law_asked", "_law_seed", "_law_wide"] ["_law_asked", "_law_seed", "_law_wide"] [V.ref asked, .int seed, .int wide] = [V.ref asked, .int seed, .int wide] := by simp [capV, List.lookup, e1, e2, e3]
  rw [e] at C
  exact ⟨f, cl, c, cs, rfl, C, h0, h1⟩
end
end K76


set_option Elab.async false
set_option linter.all false
set_option maxRecDepth 100000
set_option maxHeartbeats 4000000
/-! The law's look at what was fetched. -/
namespace K76
open PySem PySem.Spec PyProof.Rows L2 LamX NdefX
open RPm (Cfg Std)
def RowAt (K : PySem.W.Frag) (H : Hp) (p : Addr) (c : Cfg) : Prop := ∃ tl ts, SqT K H p [.ref tl, .ref ts] ∧ SqT K H tl (c.lens.map V.int) ∧ TupsAt K H ts c.sizes
theorem RowAt.x {K : PySem.W.Frag} {H H' : Hp} {p : Addr} {c : Cfg} (h : RowAt K H p c) (k : Kx H H') : RowAt K H' p c := by
  obtain ⟨tl, ts, h1, h2, h3⟩ := h
  exact ⟨tl, ts, k.sqt h1, k.sqt h2, k.tups h3⟩
theorem OptAt.x {K : PySem.W.Frag} {H H' : Hp} {p : Addr} {b a m wt : Int} {op : Option (List Int)} (h : OptAt K H p b a m wt op) (k : Kx H H') : OptAt K H' p b a m wt op := by
  obtain ⟨ov, h1, h2⟩ := h
  exact ⟨ov, k.sqt h1, h2.x k⟩
theorem at_k {ns : List Int} {k : Nat} (h : k < ns.length) : atI (ns.map V.int) (0 + (k : Int)) = some (.int (ns.getD k 0)) := by
  rw [Int.zero_add]
  refine atI_nat ?_
  rw [List.getElem?_map, List.getElem?_eq_getElem h, List.getD_eq_getElem?_getD, List.getElem?_eq_getElem h]
  rfl
/-- what a look at a run may lean on -/
structure LookIn (K : PySem.W.Frag) (H : Hp) (rn p r op : Addr) (c : Cfg) (wide : Int) (st : RPm.St) (qs : List (Int × Int)) (n0 z : Int) : Prop where
  run : RunAt K H rn st
  dn : RPm.Done c wide st
  ok : RPm.CfgOk c wide
  row : RowAt K H p c
  rd : RdAt K H r qs n0 z
  pc : c.pieces = qs ++ [(n0, z)]
  cz : c.z = z
  opt : OptAt K H op c.begin_ c.again c.most c.wait c.opens
  ol : ∀ os, c.opens = some os → os.length = c.lens.length
  sl : c.sizes.length = c.lens.length
  rl : ∀ x ∈ c.sizes, (x.length : Int) = wide
  m : c.most ≤ 1000
theorem LookIn.x {K : PySem.W.Frag} {H H' : Hp} {rn p r op : Addr} {c : Cfg} {wide : Int} {st : RPm.St} {qs : List (Int × Int)} {n0 z : Int} (h : LookIn K H rn p r op c wide st qs n0 z) (k : Kx H H') : LookIn K H' rn p r op c wide st qs n0 z :=
  ⟨h.run.x k, h.dn, h.ok, h.row.x k, h.rd.x k, h.pc, h.cz, h.opt.x k, h.ol, h.sl, h.rl, h.m⟩
def spFetR (K : PySem.W.Frag) : Sp := fun vs H Q _ => ∃ (rn p r op : Addr) (c : Cfg) (wide : Int) (st : RPm.St) (qs : List (Int × Int)) (n0 z : Int), vs = [.ref rn, .ref p, .ref r, .ref op] ∧ LookIn K H rn p r op c wide st qs n0 z ∧ ∀ H', Kp [] H H' → Q (.bl true) H'
theorem kb_fetched {K : PySem.W.Frag} {fd : FuncData} (F : FnP K "fetched" "Road.fetched" s_Road_fetched [("wait", V.int 0)] (He.ma K (He.ga K "Road") "fetched") fd) : ∃ g, KBn K fd ["self", "begin", "size", "wait"] 3 ["wait"] g (fun vs zs => vs ++ zs) := by
  obtain ⟨mv, kb⟩ := F.kbinds0 (ps := ["self", "begin", "size", "wait"]) 3 ["wait"] [] (fun vs _ zs => vs ++ zs) (by simp) (by simp) (fun h1 _ h3 => h1.append h3) (fun D doc pm an cdv ct us mv ws h1 h2 h3 => match us, ws, h1, h3 with | [_, _, _], [_], _, _ => rfl)
  exact ⟨_, kb⟩
section
variable {P : Program} {w : World} {K : PySem.W.Frag} {mg : Str → Option Value} {base : Heap}
theorem c__law_fetched_right (T : Tx K mg) : Cal P w K mg base 2 "_law_fetched_right" (spFetR K) := by
  have c_sum_of : Met P w K mg base 1 (cRoad K) "sum_of" (spSumOf K) := c_sum_of T
  obtain ⟨fdF, FF, GF⟩ := c_fetched (P := P) (w := w) (base := base) T
  obtain ⟨g, kb⟩ := kb_fetched FF
  refine mk__law_fetched_right T (fun vs H Q E h => ?_) (fun cdv A outer s H vs Q E hr h => ?_)
  · obtain ⟨rn, p, r, op, c, wide, st, qs, n0, z, rfl, _⟩ := h
    rfl
  · obtain ⟨rn, p, r, op, c, wide, st, qs, n0, z, rfl, L, k⟩ := h
    refine ⟨_, (pss_cons (ps_set (i := 4) sc__law_fetched_right.nd rfl (Or.inl rfl) pe_int)
    (pss_cons (ps_for PassesOwn.never rfl (pi_range1 rfl T.f_range (pa_cons (pe_callB call_len_seq rfl T.f_len (by decide +kernel) (pa_cons (pe_ix ix_tup (pv 1) pe_int (fun _ _ => rfl)) pa_nil)) pa_nil)) (pg_name (i := 5) sc__law_fetched_right.nd rfl (Or.inl rfl))
      (pss_cons (ps_par (i := 6) (j := 7) rfl sc__law_fetched_right.nd rfl rfl (by decide) rfl rfl (pa_cons (pe_ix ix_tup (pe_fld (pv 0) rfl) (pv 5) (fun _ _ => rfl)) (pa_cons (pe_ix ix_tup (pe_fld (pv 0) rfl) (pv 5) (fun _ _ => rfl)) pa_nil)) rfl)
      (pss_cons (ps_set (i := 8) sc__law_fetched_right.nd rfl (Or.inl rfl) (pe_ix ix_tup (pe_ix ix_tup (pe_ix ix_tup (pv 1) pe_int (fun _ _ => rfl)) (pv 5) (fun _ _ => rfl)) (pe_ix ix_tup (pe_fld (pv 0) rfl) (pv 5) (fun _ _ => rfl)) (fun _ _ => rfl)))
      (pss_cons (ps_set (i := 9) sc__law_fetched_right.nd rfl (Or.inl rfl) (pe_op op_add (pv 6) (pe_ix ix_tup (pv 3) pe_int (fun _ _ => rfl))))
      (C8.pss_cut (ps_if (PW.pt (pw_or (pt_cmpR op_lt (pv 6) (pv 4) (nomark _)) (pw_or1 (PW.pt (pw_and (pt_cmpR op_notN (pe_ix ix_tup (pv 3) pe_int (fun _ _ => rfl)) pe_non (nomark _)) (pw_and1 (pt_cmpR op_lt (pv 6) (pe_ix ix_tup (pe_ix ix_tup (pv 3) pe_int (fun _ _ => rfl)) (pv 5) (fun _ _ => rfl)) (nomark _)))))))) (pss_one (ps_ret pe_bl)) pss_nil)
      (C8.pss_cut (ps_if (PW.pt (pw_or (pt_cmpR op_lt (pe_mt c_sum_of hr (by decide) (pv 2) (pa_cons (pv 9) (pa_cons (pv 7) pa_nil))) (pv 8) (nomark _)) (pw_or1 (pt_cmpR op_ge (pe_mt c_sum_of hr (by decide) (pv 2) (pa_cons (pv 9) (pa_cons (pe_op op_sub (pv 7) pe_int) pa_nil))) (pv 8) (nomark _))))) (pss_one (ps_ret pe_bl)) pss_nil)
      (C8.pss_cut (ps_if (pt_cmpR op_ne (pe_methN (E := E0) (pv 2) T.cl_Road T.m_Road_fetched GF hr kb pass00 (pa_cons (pv 6) (pa_cons (pv 8) pa_nil)) (pk_cons (pe_ix ix_tup (pv 3) pe_int (fun _ _ => rfl)) pk_nil)) (pv 7) (nomark _)) (pss_one (ps_ret pe_bl)) pss_nil)
      (pss_one (ps_set (i := 4) sc__law_fetched_right.nd rfl (Or.inl rfl) (pv 7))))))))))
    (pss_one (ps_ret pe_bl)))), ?_⟩
    have hl12 := L.ok.ln1
    obtain ⟨tl, ts, w1, w2, w3⟩ := L.row
    refine ⟨_, rfl, p, _, _, _, rfl, rfl, w1, at_nat (by decide) rfl, tl, _, rfl, .inr w2, ((c.lens.map V.int).length : Nat), rfl, by omega, by rw [List.length_map]; omega, for_range (lo := 0) (n := ((c.lens.map V.int).length : Int).toNat) (fun i σ H2 => ∃ v5 v6 v7 v8 v9 : Option V, σ = [some (.ref rn), some (.ref p), some (.ref r), some (.ref op), some (.int (RPm.last st.whole i)), v5, v6, v7, v8, v9] ∧ Kp [] H H2) ⟨none, none, none, none, none, rfl, Kp.refl⟩ ?_ ?_⟩
    · rintro i σ H2 hi ⟨v5, v6, v7, v8, v9, rfl, k2⟩
      rw [List.length_map] at hi
      have hi : i < c.lens.length := by omega
      have L2 := L.x k2.x
      have dn := L2.dn
      obtain ⟨dx, tr, tb, tw, tp, tss, tk, h0, h1, h2, h3, h4, h5, h6⟩ := L2.run
      obtain ⟨tl, ts, w1, w2, w3⟩ := L2.row
      obtain ⟨ov, o1, o2⟩ := L2.opt
      have g := dn.g
      have lr := dn.lr
      have lb := dn.lb
      have lw := dn.lw
      obtain ⟨as, q1, q2, q3⟩ := w3.at_
      have hz : c.sizes[i]? = some (c.sizes.getD i []) := by
        rw [List.getD_eq_getElem?_getD, List.getElem?_eq_getElem (by rw [L2.sl]; exact hi)]
        rfl
      obtain ⟨ra, e1, e2⟩ := q3 _ _ hz
      have rb := dn.rb i hi
      have hrl : ((c.sizes.getD i []).length : Int) = wide := L2.rl _ (List.mem_of_getElem? hz)
      obtain ⟨b1, b2, b3, b4⟩ := g.be i (by omega)
      obtain ⟨wh, wb⟩ := g.wh i (by omega)
      obtain ⟨wh0, wh1, wh2, wh3⟩ := id wh
      rw [L2.cz, L2.pc] at wh2 wh3
      have esz : (c.sizes.getD i []).getD (st.rates.getD i 0).toNat 0 = c.size i (st.rates.getD i 0) := rfl
      have szb := (L2.ok.sb i (st.rates.getD i 0) (by omega) (by omega) rb.1 rb.2).1
      have hcum := RPm.sumF_eq (z := z) (first := st.begun.getD i 0 + c.wait) (last := st.whole.getD i 0) (by omega) (ps := qs ++ [(n0, z)]) (at_ := 0) (found := 0) ?rdok
      case rdok => exact ⟨Int.le_of_lt L2.rd.z0, fun q hq => ⟨(L2.rd.b q hq).1, (L2.rd.b q hq).2.2.1⟩⟩
      have hcum2 := RPm.sumF_eq (z := z) (first := st.begun.getD i 0 + c.wait) (last := st.whole.getD i 0 - 1) (by omega) (ps := qs ++ [(n0, z)]) (at_ := 0) (found := 0) ?rdok
      case rdok => exact ⟨Int.le_of_lt L2.rd.z0, fun q hq => ⟨(L2.rd.b q hq).1, (L2.rd.b q hq).2.2.1⟩⟩
      have rdok : RPm.RdOk z (qs ++ [(n0, z)]) := ⟨Int.le_of_lt L2.rd.z0, fun q hq => ⟨(L2.rd.b q hq).1, (L2.rd.b q hq).2.2.1⟩⟩
      have hfet : RPm.fetF z qs (st.begun.getD i 0 + c.wait) (c.size i (st.rates.getD i 0)) 0 = st.whole.getD i 0 := by
        refine RPm.fetF_eq (n0 := n0) (all := qs ++ [(n0, z)]) (ready := st.begun.getD i 0 + c.wait) (size := c.size i (st.rates.getD i 0)) (base := 0) rdok L2.rd.z0 (L2.rd.b (n0, z) (by simp)).1 ?_ ⟨rdok.1, fun q hq => rdok.2 q (List.mem_append_left _ hq)⟩ (Int.le_refl _) (by have := L2.ok.w0; omega) (by omega) rfl (fun x _ => by rw [Int.zero_add, Int.sub_zero])
        have := wh
        rw [L2.pc, L2.cz] at this
        exact this
      rw [Int.sub_zero, Int.sub_zero, Int.zero_add] at hcum hcum2
      -- _law_first, _law_behind = .., ..; _law_size; _law_ready
      refine ⟨_, rfl, rn, _, _, _, _, rfl, h0, T.cl_Run, T.n_Run_begun, lookF (i := 1) nd_Run rfl rfl, _, rfl, tb, _, _, _, rfl, rfl, h2, at_k (by omega), _, rfl, rn, _, _, _, _, rfl, h0, T.cl_Run, T.n_Run_whole, lookF (i := 2) nd_Run rfl rfl, _, rfl, tw, _, _, _, rfl, rfl, h3, at_k (by omega), _, _, rfl, ?_⟩
      refine ⟨_, rfl, p, _, _, _, rfl, rfl, w1, at_nat (by decide) rfl, _, rfl, ts, _, _, _, rfl, rfl, q1, (by rw [Int.zero_add]; exact atI_nat (by rw [List.getElem?_map, e1] <;> rfl)), _, rfl, rn, _, _, _, _, rfl, h0, T.cl_Run, T.n_Run_rates, lookF (i := 0) nd_Run rfl rfl, _, rfl, tr, _, _, _, rfl, rfl, h1, at_k (by omega), ra, _, _, _, rfl, rfl, e2, at_int rb.1 (by omega), ?_⟩
      rw [esz]
      refine ⟨_, rfl, _, rfl, op, _, _, _, rfl, rfl, o1, at_nat (by decide) rfl, _, _, rfl, rfl, ?_⟩
      refine ⟨fun σ' H3 => σ' = [some (.ref rn), some (.ref p), some (.ref r), some (.ref op), some (.int (RPm.last st.whole i)), some (.int (0 + (i : Nat))), some (.int (st.begun.getD i 0)), some (.int (st.whole.getD i 0)), some (.int (c.size i (st.rates.getD i 0))), some (.int (st.begun.getD i 0 + c.wait))] ∧ H3 = H2, ?_, ?_⟩
      · refine ⟨_, rfl, _, rfl, _, _, rfl, rfl, _, rfl, ?_⟩
        rw [decide_eq_false (by omega)]
        refine iteF ⟨_, rfl, op, _, _, _, rfl, rfl, o1, at_nat (by decide) rfl, rfl, _, rfl, ?_⟩
        cases hop : c.opens with
        | none =>
          rw [hop] at o2
          have o2 : ov = .non := o2
          subst o2
          exact iteF (iteF ⟨rfl, rfl⟩)
        | some os =>
          rw [hop] at o2
          obtain ⟨oa, rfl, hos⟩ := o2
          have hlt := L2.ol os hop
          refine iteT ⟨_, rfl, _, rfl, op, _, _, _, rfl, rfl, o1, at_nat (by decide) rfl, _, rfl, oa, _, _, _, rfl, rfl, hos, at_k (by omega), _, _, rfl, rfl, _, rfl, ?_⟩
          have := b4 os hop
          rw [decide_eq_false (by omega)]
          exact iteF ⟨rfl, rfl⟩
      rintro _ H3 ⟨rfl, eH⟩
      rw [eH]
      obtain ⟨dr, tpr, hrd, _⟩ := id L2.rd.at_
      refine ⟨fun σ' H3 => σ' = [some (.ref rn), some (.ref p), some (.ref r), some (.ref op), some (.int (RPm.last st.whole i)), some (.int (0 + (i : Nat))), some (.int (st.begun.getD i 0)), some (.int (st.whole.getD i 0)), some (.int (c.size i (st.rates.getD i 0))), some (.int (st.begun.getD i 0 + c.wait))] ∧ H3 = H2, ?_, ?_⟩
      · refine ⟨_, rfl, r, dr, _, rfl, hrd, lookNo (by decide +kernel), _, rfl, _, rfl, r, _, _, qs, n0, z, rfl, L2.rd, _, rfl, _, _, rfl, rfl, _, rfl, ?_⟩
        rw [hcum, decide_eq_false (by omega)]
        refine iteF ⟨_, rfl, r, dr, _, rfl, hrd, lookNo (by decide +kernel), _, rfl, _, rfl, _, _, rfl, rfl, r, _, _, qs, n0, z, rfl, L2.rd, _, rfl, _, _, rfl, rfl, _, rfl, ?_⟩
        rw [hcum2, decide_eq_false (by omega)]
        exact iteF ⟨rfl, rfl⟩
      rintro _ H3 ⟨rfl, eH⟩
      rw [eH]
      refine ⟨fun σ' H4 => σ' = [some (.ref rn), some (.ref p), some (.ref r), some (.ref op), some (.int (RPm.last st.whole i)), some (.int (0 + (i : Nat))), some (.int (st.begun.getD i 0)), some (.int (st.whole.getD i 0)), some (.int (c.size i (st.rates.getD i 0))), some (.int (st.begun.getD i 0 + c.wait))] ∧ Kp [] H H4, ?_, ?_⟩
      · refine ⟨_, rfl, r, dr, _, rfl, hrd, lookNo (by decide +kernel), _, rfl, _, rfl, _, rfl, op, _, _, _, rfl, rfl, o1, at_nat (by decide) rfl, rfl, rfl, r, _, _, _, qs, n0, z, rfl, L2.rd, by omega, fun H4 k4 => ?_⟩
        rw [hfet]
        refine ⟨_, rfl, rfl, _, rfl, ?_⟩
        rw [decide_eq_true rfl]
        exact iteF ⟨rfl, k2.trans k4⟩
      rintro _ H4 ⟨rfl, k4⟩
      have el : RPm.last st.whole (i + 1) = st.whole.getD i 0 := by
        unfold RPm.last
        rw [if_neg (by omega)]
        rfl
      refine ⟨_, rfl, ?_⟩
      rw [el]
      exact ⟨_, _, _, _, _, rfl, k4⟩
    · rintro σ H2 ⟨v5, v6, v7, v8, v9, rfl, k2⟩
      exact k H2 k2
end
end K76


set_option Elab.async false
set_option linter.all false
set_option maxRecDepth 100000
set_option maxHeartbeats 4000000
/-! The law's look at what was played: first the dicts of beats. -/
namespace K76
open PySem PySem.Spec PyProof.Rows L2 LamX NdefX
open RPm (Cfg Std)
/-- pairs (beat, True) laid one by one into the list at D -/
structure PairZ (K : PySem.W.Frag) (H0 : Hp) (D : Addr) (plays : List Int) (i : Nat) (H2 : Hp) : Prop where
  k : Kp [] H0 H2
  ts : ∃ ts : List Addr, H2 D = some (.lst (ts.map V.ref)) ∧ ts.length = i ∧ ∀ (j : Nat) (t : Addr), ts[j]? = some t → ∃ b, plays[j]? = some b ∧ SqT K H2 t [.int b, .bl true]
theorem PairZ.next {K : PySem.W.Frag} {H0 H2 : Hp} {D t : Addr} {plays : List Int} {i : Nat} {b : Int} (z : PairZ K H0 D plays i H2) (ht : H2 t = none) (hD : H0 D = none) (hp : plays[i]? = some b) (hl : plays.length ≤ 1000) :
    ∃ acc, upd H2 t (.tup [.int b, .bl true]) D = some (.lst acc) ∧ acc.length < sizeLine ∧ PairZ K H0 D plays (i + 1) (upd (upd H2 t (.tup [.int b, .bl true])) D (.lst (acc ++ [.ref t]))) := by
  obtain ⟨ts, h1, h2, h3⟩ := z.ts
  have n : D ≠ t := ne_of_none h1 ht
  have hi := (List.getElem?_eq_some_iff.mp hp).1
  have k1 : Kp [] H2 (upd H2 t (.tup [.int b, .bl true])) := Kp.refl.new ht
  have k2 : Kp [D] (upd H2 t (.tup [.int b, .bl true])) (upd (upd H2 t (.tup [.int b, .bl true])) D (.lst (ts.map V.ref ++ [.ref t]))) := Kp.refl.put (by simp) (by rw [upd_ne n]; exact h1) mvL
  refine ⟨ts.map V.ref, by rw [upd_ne n]; exact h1, by rw [List.length_map, h2, sizeLine_eq]; omega, (z.k.trans k1).new hD, ts ++ [t], by rw [List.map_append]; exact upd_same, by rw [List.length_append, h2] <;> rfl, fun j u e => ?_⟩
  by_cases hj : j < ts.length
  · rw [List.getElem?_append_left hj] at e
    obtain ⟨b', e1, e2⟩ := h3 j u e
    exact ⟨b', e1, k2.tup (k1.tup e2)⟩
  · have ej := (List.getElem?_eq_some_iff.mp e).1
    rw [List.length_append] at ej
    simp at ej
    have ej2 : j = ts.length := by omega
    subst ej2
    rw [List.getElem?_append_right (Nat.le_refl _), Nat.sub_self] at e
    cases e
    exact ⟨b, by rw [h2]; exact hp, SqT.of (by rw [upd_ne (Ne.symm n)]; exact upd_same)⟩
abbrev pkv (plays : List Int) : List (Key × V) := plays.map fun b => (Sum.inl b, V.bl true)
theorem paired_of {K : PySem.W.Frag} {H : Hp} : ∀ {ts : List Addr} {plays : List Int}, ts.length = plays.length → (∀ (j : Nat) (t : Addr), ts[j]? = some t → ∃ b, plays[j]? = some b ∧ SqT K H t [.int b, .bl true]) → Paired (fun p (kv : Key × V) => SqT K H p [kV kv.1, kv.2]) ts (pkv plays)
  | [], [], _, _ => .nil
  | [], _ :: _, h, _ => by cases h
  | _ :: _, [], h, _ => by cases h
  | t :: ts, b :: plays, h, k => by
    obtain ⟨b', e, q⟩ := k 0 t rfl
    cases e
    exact .cons q (paired_of (by simpa using h) fun j u e => k (j + 1) u e)
theorem merge_some : ∀ (plays : List Int) (kvs : List (Key × V)) (b : Int), (valV (mergeK kvs (pkv plays)) (.inl b)).isSome = (decide (b ∈ plays) || (valV kvs (.inl b)).isSome)
  | [], kvs, b => by simp [mergeK, pkv]
  | p :: plays, kvs, b => by
    show (valV (mergeK (putK kvs (.inl p) (.bl true)) (pkv plays)) (.inl b)).isSome = _
    rw [merge_some plays, valV_put]
    by_cases h : b = p
    · subst h
      simp
    · have hne : ¬ (Sum.inl b : Key) = Sum.inl p := fun z => h (Sum.inl.inj z)
      rw [if_neg hne]
      have e : decide (b ∈ p :: plays) = decide (b ∈ plays) := by
        rw [decide_eq_decide]
        simp [h]
      rw [e]
theorem in_plays (plays : List Int) (b : Int) : (valV (mergeK [] (pkv plays)) (.inl b)).isSome = decide (b ∈ plays) := by
  rw [merge_some]
  simp [valV_nil]
/-! ### data -/
theorem dpI {K : PySem.W.Frag} {H : Hp} : ∀ ns : List Int, DpAll K H (ns.map V.int) (ns.map PyData.int)
  | [] => .nil
  | n :: r => .cons (.int n) (dpI r)
theorem eqv_ints (ns : List Int) : PyData.eqv (.list (ns.map PyData.int)) (.list (ns.map PyData.int)) = true :=
  SeqAt.eqv_refl _ (by
    have := PySem.W.shaped_ints ns
    exact SeqAt.canLay_of_shaped this)
theorem ne_lists {K : PySem.W.Frag} {H : Hp} {a b : Addr} {ns : List Int} {Q : VK} (h1 : SqL K H a (ns.map V.int)) (h2 : SqL K H b (ns.map V.int)) (q : Q (.bl false) H) : rNeD K (.ref a) (.ref b) H Q := by
  refine ⟨_, _, .lst h1 (dpI ns), .lst h2 (dpI ns), PySem.W.shaped_ints ns, PySem.W.shaped_ints ns, ?_⟩
  rw [eqv_ints]
  exact q
theorem eq_lists {K : PySem.W.Frag} {H : Hp} {a b : Addr} {ns : List Int} {Q : VK} (h1 : SqL K H a (ns.map V.int)) (h2 : SqL K H b (ns.map V.int)) (q : Q (.bl true) H) : rEqD K (.ref a) (.ref b) H Q := by
  refine ⟨_, _, .lst h1 (dpI ns), .lst h2 (dpI ns), PySem.W.shaped_ints ns, PySem.W.shaped_ints ns, ?_⟩
  rw [eqv_ints]
  exact q
theorem putK_len {κ : Type} [DecidableEq κ] (c : List (κ × V)) (k : κ) (x : V) : (putK c k x).length ≤ c.length + 1 := by
  unfold putK
  split
  · rw [List.length_map]
    omega
  · rw [List.length_append]
    exact Nat.le_refl _
theorem flat_rep (n : Nat) (x : V) : (List.replicate n [x]).flatten = List.replicate n x := by
  induction n with
  | zero => rfl
  | succ n ih => rw [List.replicate_succ, List.flatten_cons, ih, List.replicate_succ] <;> rfl
end K76


set_option Elab.async false
set_option linter.all false
set_option maxRecDepth 100000
set_option maxHeartbeats 4000000
/-! The law's look at what was played. -/
namespace K76
open PySem PySem.Spec PyProof.Rows L2 LamX NdefX
open RPm (Cfg Std)
def spPlayR (K : PySem.W.Frag) : Sp := fun vs H Q _ => ∃ (rn p r op : Addr) (c : Cfg) (wide : Int) (st : RPm.St) (qs : List (Int × Int)) (n0 z : Int), vs = [.ref rn, .ref p, .ref op] ∧ LookIn K H rn p r op c wide st qs n0 z ∧ ∀ H', Kp [] H H' → Q (.bl true) H'
section
variable {P : Program} {w : World} {K : PySem.W.Frag} {mg : Str → Option Value} {base : Heap}
set_option maxHeartbeats 16000000 in
theorem c__law_played_right (T : Tx K mg) : Cal P w K mg base 3 "_law_played_right" (spPlayR K) := by
  have cL : Met P w K mg base 1 (cRun K) "__len__" (spRunLen K) := c_Run_len T
  refine mk__law_played_right T (fun vs H Q E h => ?_) (fun cdv A outer s H vs Q E hr h => ?_)
  · obtain ⟨rn, p, r, op, c, wide, st, qs, n0, z, rfl, _⟩ := h
    rfl
  · obtain ⟨rn, p, r, op, c, wide, st, qs, n0, z, rfl, L, k⟩ := h
    have hu := hu_of hr
    have hu64 := hr.units
    refine ⟨_, (pss_cons (ps_set (i := 3) sc__law_played_right.nd rfl (Or.inr rfl) (pe_lst pa_nil))
    (pss_cons (ps_set (i := 4) sc__law_played_right.nd rfl (Or.inl rfl) pe_dnewK)
    (C8.pss_cut (ps_for PassesOwn.never rfl (pi_range1 rfl T.f_range (pa_cons (pe_callB call_len_seq rfl T.f_len (by decide +kernel) (pa_cons (pe_ix ix_tup (pv 1) pe_int (fun _ _ => rfl)) pa_nil)) pa_nil)) (pg_name (i := 5) sc__law_played_right.nd rfl (Or.inl rfl))
      (pss_cons (ps_set (i := 3) sc__law_played_right.nd rfl (Or.inr rfl) (pe_op op_cat (pv 3) (pe_op op_rep (pe_lst (pa_cons (pe_ix ix_tup (pe_fld (pv 0) rfl) (pv 5) (fun _ _ => rfl)) pa_nil)) (pe_ix ix_tup (pe_ix ix_tup (pv 1) pe_int (fun _ _ => rfl)) (pv 5) (fun _ _ => rfl)))))
      (pss_one (ps_dput hu (pv 4) (pe_op op_sub (pe_ix ix_tup (pe_fld (pv 0) rfl) (pv 5) (fun _ _ => rfl)) pe_int) (pe_ix ix_tup (pe_ix ix_tup (pv 1) pe_int (fun _ _ => rfl)) (pv 5) (fun _ _ => rfl)) rfl))))
    (pss_cons (ps_set (i := 6) sc__law_played_right.nd rfl (Or.inr rfl) (pe_callTy call_list_of rfl T.f_list (by decide +kernel) (pa_cons (pe_fld (pv 0) rfl) pa_nil)))
    (C8.pss_cut (ps_if (PW.pt (pw_or (pt_cmpR op_ne (pe_callB call_len_seq rfl T.f_len (by decide +kernel) (pa_cons (pv 6) pa_nil)) (pe_callB call_len_seq rfl T.f_len (by decide +kernel) (pa_cons (pv 3) pa_nil)) (nomark _)) (pw_or1 (pt_cmpR (op_neD hu64) (pv 6) (pe_callB (cr_sortedSetA rfl) rfl T.f_sorted (by decide +kernel) (pa_cons (pe_callTy (cr_setL rfl) rfl T.f_set (by decide +kernel) (pa_cons (pv 6) pa_nil)) pa_nil)) (nomark _))))) (pss_one (ps_ret pe_bl)) pss_nil)
    (C8.pss_cut (ps_if (pt_cmpR (op_neD hu64) (pe_lc (own := [("_law_k", 5)]) (g := gName 5) rfl sc__law_played_right.nd (pi_range1 rfl T.f_range (pa_cons (pe_callB call_len_seq rfl T.f_len (by decide +kernel) (pa_cons (pv 6) pa_nil)) pa_nil)) (blkOk_by (own := [("_law_k", 5)]) (N := nN__law_played_right) (sc := defScope s__law_played_right) (by decide +kernel)) (fun _ _ _ _ _ => pg_name (i := 5) sc__law_played_right.nd rfl (Or.inl rfl)) (fun _ _ _ _ _ => pts_one (pt_cmpR op_lt (pe_ix (r := rIxL K) ix_list (pv 6) (pv 5) (fun _ _ => rfl)) (pe_ix (r := rIxL K) ix_list (pv 3) (pv 5) (fun _ _ => rfl)) (nomark _))) (fun _ _ _ _ _ => pv 5)) (pe_lst pa_nil) (nomark _)) (pss_one (ps_ret pe_bl)) pss_nil)
    (C8.pss_cut (ps_if (PW.pt (pw_or (pt_cmpR op_ne (pe_fld (pv 0) rfl) (pe_op op_add (pe_ix ix_list (pv 6) (pe_un un_neg pe_int) (fun _ _ => rfl)) pe_int) (nomark _)) (pw_or (pt_cmpR op_ne (pe_callB (cr_lenM cL hr (by decide)) rfl T.f_len (by decide +kernel) (pa_cons (pv 0) pa_nil)) (pe_fld (pv 0) rfl) (nomark _)) (pw_or1 (pt_cmpR op_ne (pe_callB call_len_seq rfl T.f_len (by decide +kernel) (pa_cons (pe_fld (pv 0) rfl) pa_nil)) (pe_fld (pv 0) rfl) (nomark _)))))) (pss_one (ps_ret pe_bl)) pss_nil)
    (C8.pss_cut (ps_set (i := 8) sc__law_played_right.nd rfl (Or.inl rfl) (pe_callTy (call_dictP rfl) rfl T.f_dict (by decide +kernel) (pa_cons (pe_lc (own := [("_law_beat", 7)]) (g := gName 7) rfl sc__law_played_right.nd (pi_list (pv 6)) (blkOk_by (own := [("_law_beat", 7)]) (N := nN__law_played_right) (sc := defScope s__law_played_right) (by decide +kernel)) (fun _ _ _ _ _ => pg_name (i := 7) sc__law_played_right.nd rfl (Or.inl rfl)) (fun _ _ _ _ _ => pts_nil) (fun _ _ _ _ _ => pe_tup (pa_cons (pv 7) (pa_cons pe_bl pa_nil)))) pa_nil)))
    (pss_cons (ps_set (i := 9) sc__law_played_right.nd rfl (Or.inl rfl) pe_int)
    (pss_cons (ps_for PassesOwn.never rfl (pi_range1 rfl T.f_range (pa_cons (pe_fld (pv 0) rfl) pa_nil)) (pg_name (i := 7) sc__law_played_right.nd rfl (Or.inl rfl))
      (pss_cons (ps_set (i := 9) sc__law_played_right.nd rfl (Or.inl rfl) (pe_op op_sub (pe_op op_add (pv 9) (pe_dget2 hu (pv 4) (pv 7) pe_int ⟨rfl, rfl, rfl, rfl⟩)) (pe_callTy call_int1 rfl T.f_int (by decide +kernel) (pa_cons (pe_cmp (pc_din hu (pv 7) (pv 8)) rfl) pa_nil))))
      (pss_one (ps_if (PW.pt (pw_or (pt_cmpR op_ne (pe_ix ix_tup (pe_fld (pv 0) rfl) (pv 7) (fun _ _ => rfl)) (pv 9) (nomark _)) (pw_or1 (pt_not (pt_chain op_le op_le pe_int (pv 9) (pe_ix ix_tup (pv 2) pe_int (fun _ _ => rfl))))))) (pss_one (ps_ret pe_bl)) pss_nil))))
    (pss_one (ps_ret pe_bl)))))))))))), ?_⟩
    have hl12 := L.ok.ln1
    have dn := L.dn
    have g := dn.g
    have lw := dn.lw
    have lpl := dn.pl
    have tot := RPm.total_le L.ok
    have lenNN : ∀ x ∈ c.lens, 0 ≤ x := fun x hx => by have := (L.ok.lb x hx).1; omega
    obtain ⟨tl0, ts0, w10, w20, w30⟩ := L.row
    -- _law_whole = []; _law_come = {}
    refine ⟨(by show 0 ≤ sizeLine; decide), fun a0 ha0 => fun d0 hd0 => ?_⟩
    have na0 : a0 ≠ d0 := ne_of_none upd_same hd0
    have hd0H : H d0 = none := by
      have := (Kp.refl (S := []) (H := H)).new (o := .lst []) ha0 |>.none hd0 (by simp)
      exact this
    have kI : Kp [] H (upd (upd H a0 (.lst [])) d0 (.dK [])) := (Kp.refl.new ha0).new hd0H
    -- the loop over the stretches
    refine ⟨fun σ' G => ∃ (a : Addr) (v5 : Option V) (kvs : List (Key × V)), σ' = [some (.ref rn), some (.ref p), some (.ref op), some (.ref a), some (.ref d0), v5, none, none, none, none] ∧ Kp [] H G ∧ G a = some (.lst ((RPm.rep st.whole c.lens).map V.int)) ∧ G d0 = some (.dK kvs) ∧ ∀ b, (valV kvs (.inl b)).getD (.int 0) = .int (RPm.comeF st.whole c.lens b), ?_, ?_⟩
    · refine ⟨_, rfl, p, _, _, _, rfl, rfl, kI.tup w10, at_nat (by decide) rfl, tl0, _, rfl, .inr (kI.tup w20), ((c.lens.map V.int).length : Nat), rfl, by omega, by rw [List.length_map]; omega, for_range (lo := 0) (n := ((c.lens.map V.int).length : Int).toNat) (fun i σ G => ∃ (a : Addr) (v5 : Option V) (kvs : List (Key × V)), σ = [some (.ref rn), some (.ref p), some (.ref op), some (.ref a), some (.ref d0), v5, none, none, none, none] ∧ Kp [] H G ∧
        G a = some (.lst ((RPm.rep (st.whole.take i) c.lens).map V.int)) ∧ G d0 = some (.dK kvs) ∧ kvs.length ≤ i ∧ ∀ b, (valV kvs (.inl b)).getD (.int 0) = .int (RPm.comeF (st.whole.take i) c.lens b)) ⟨a0, none, [], rfl, kI, ?_, upd_same, Nat.le_refl _, fun b => ?_⟩ ?_ ?_⟩
      · rw [upd_ne na0, upd_same]
        cases c.lens <;> rfl
      · cases c.lens <;> rfl
      · rintro i σ G hi ⟨a, v5, kvs, rfl, kG, hA, hD, hkl, hcm⟩
        rw [List.length_map] at hi
        have hi : i < c.lens.length := by omega
        have Lb := L.x kG.x
        obtain ⟨dx, tr, tb, tw, tp, tss, tk, h0, h1, h2, h3, h4, h5, h6⟩ := Lb.run
        obtain ⟨tl, ts, w1, w2, w3⟩ := Lb.row
        have lb := L.ok.lb (c.lens.getD i 0) (RPm.getD_mem hi)
        -- _law_whole = _law_whole + [..] * ..
        refine ⟨_, rfl, _, rfl, rn, _, _, _, _, rfl, h0, T.cl_Run, T.n_Run_whole, lookF (i := 2) nd_Run rfl rfl, _, rfl, tw, _, _, _, rfl, rfl, h3, at_k (by omega), (by show 1 ≤ sizeLine; decide), fun p1 hp1 => ?_⟩
        have kp1 : Kp [] G (upd G p1 (.lst [.int (st.whole.getD i 0)])) := Kp.refl.new hp1
        refine ⟨_, rfl, p, _, _, _, rfl, rfl, kp1.tup w1, at_nat (by decide) rfl, _, rfl, tl, _, _, _, rfl, rfl, kp1.tup w2, at_k hi, p1, _, _, rfl, rfl, upd_same, by omega, by omega, ?_, fun p2 hp2 => ?_⟩
        · show 1 * (c.lens.getD i 0).toNat ≤ sizeLine
          rw [sizeLine_eq]
          omega
        rw [flat_rep]
        have kp2 : Kp [] (upd G p1 (.lst [.int (st.whole.getD i 0)])) (upd (upd G p1 (.lst [.int (st.whole.getD i 0)])) p2 (.lst (List.replicate (c.lens.getD i 0).toNat (V.int (st.whole.getD i 0))))) := Kp.refl.new hp2
        have hrl := RPm.rep_len (ws := st.whole.take i) lenNN (by rw [List.length_take]; omega)
        have hpl := RPm.pre_le L.ok (i := (st.whole.take i).length) (by rw [List.length_take]; omega)
        refine ⟨a, p2, _, _, rfl, rfl, (kp1.trans kp2).lst (by simp) hA, upd_same, ?_, fun p3 hp3 => ?_⟩
        · rw [List.length_map, List.length_replicate, sizeLine_eq]
          omega
        have kp3 : Kp [] (upd (upd G p1 (.lst [.int (st.whole.getD i 0)])) p2 (.lst (List.replicate (c.lens.getD i 0).toNat (V.int (st.whole.getD i 0))))) (upd (upd (upd G p1 (.lst [.int (st.whole.getD i 0)])) p2 (.lst (List.replicate (c.lens.getD i 0).toNat (V.int (st.whole.getD i 0))))) p3 (.lst ((RPm.rep (st.whole.take i) c.lens).map V.int ++ List.replicate (c.lens.getD i 0).toNat (V.int (st.whole.getD i 0))))) := Kp.refl.new hp3
        have kA := (kp1.trans kp2).trans kp3
        have e3 : (RPm.rep (st.whole.take i) c.lens).map V.int ++ List.replicate (c.lens.getD i 0).toNat (V.int (st.whole.getD i 0)) = (RPm.rep (st.whole.take (i + 1)) c.lens).map V.int := by
          rw [RPm.rep_take (by omega) hi, List.map_append, List.map_replicate]
        have nd3 : d0 ≠ p3 := ne_of_none ((kp1.trans kp2) d0 _ hD (fun z => absurd z (by simp))) hp3
        have hDA : upd (upd (upd G p1 (.lst [.int (st.whole.getD i 0)])) p2 (.lst (List.replicate (c.lens.getD i 0).toNat (V.int (st.whole.getD i 0))))) p3 (.lst ((RPm.rep (st.whole.take i) c.lens).map V.int ++ List.replicate (c.lens.getD i 0).toNat (V.int (st.whole.getD i 0)))) d0 = some (.dK kvs) := kA d0 _ hD (fun z => absurd z (by simp))
        -- _law_come[..] = ..
        refine ⟨_, rfl, p, _, _, _, rfl, rfl, kA.tup w1, at_nat (by decide) rfl, _, rfl, tl, _, _, _, rfl, rfl, kA.tup w2, at_k hi, _, rfl, _, rfl, rn, _, _, _, _, rfl, kA.ins (by simp) h0, T.cl_Run, T.n_Run_whole, lookF (i := 2) nd_Run rfl rfl, _, rfl, tw, _, _, _, rfl, rfl, kA.tup h3, at_k (by omega), _, _, rfl, rfl, d0, _, rfl, DPut.k (k := .inl (st.whole.getD i 0 - 1)) hDA (by rw [sizeLine_eq]; omega), ?_⟩
        refine ⟨p3, _, _, rfl, (kG.trans kA).new hd0H, ?_, upd_same, ?_, fun b => ?_⟩
        · rw [upd_ne (Ne.symm nd3), upd_same, e3]
        · have := putK_len kvs (Sum.inl (st.whole.getD i 0 - 1)) (V.int (c.lens.getD i 0))
          omega
        · rw [valV_put, RPm.come_take L.ok g (by omega) (by omega)]
          by_cases hb : b = st.whole.getD i 0 - 1
          · rw [if_pos hb, if_pos (by rw [hb])]
            rfl
          · rw [if_neg hb, if_neg (fun z => hb (Sum.inl.inj z))]
            exact hcm b
      · rintro σ G ⟨a, v5, kvs, rfl, kG, hA, hD, hkl, hcm⟩
        have e : ((c.lens.map V.int).length : Int).toNat = st.whole.length := by rw [List.length_map, lw] <;> omega
        rw [e, List.take_length] at hA hcm
        exact ⟨a, v5, kvs, rfl, kG, hA, hD, hcm⟩
    rintro _ G ⟨a, v5, kvs, rfl, kG, hA, hD, hcm⟩
    have Lb := L.x kG.x
    obtain ⟨dx, tr, tb, tw, tp, tss, tk, h0, h1, h2, h3, h4, h5, h6⟩ := Lb.run
    have hrepl : (RPm.rep st.whole c.lens).length = st.plays.length := by
      have := RPm.rep_len (ws := st.whole) lenNN (by omega)
      rw [lw, RPm.pre_all] at this
      have e : c.total = c.lens.sum := rfl
      omega
    have hbb := dn.bb
    have b0 := g.b0
    -- _law_plays = list(..)
    refine ⟨_, rfl, rn, _, _, _, _, rfl, h0, T.cl_Run, T.n_Run_plays, lookF (i := 3) nd_Run rfl rfl, tp, _, rfl, .inr (h4), fun pl hpl => ?_⟩
    have kpl : Kp [] G (upd G pl (.lst (st.plays.map V.int))) := Kp.refl.new hpl
    have hAp := kpl.lst (by simp) hA
    have hDp : upd G pl (.lst (st.plays.map V.int)) d0 = some (.dK kvs) := kpl d0 _ hD (fun z => absurd z (by simp))
    obtain ⟨G1, eG1⟩ : ∃ G1, G1 = upd G pl (.lst (st.plays.map V.int)) := ⟨_, rfl⟩
    rw [← eG1] at kpl hAp hDp
    have hPl : G1 pl = some (.lst (st.plays.map V.int)) := by
      rw [eG1]
      exact upd_same
    have kG1 := kG.trans kpl
    have inc := g.ps.1
    have lp1000 : st.plays.length ≤ 1000 := by omega
    obtain ⟨pf, epf⟩ : ∃ pf, st.plays = pf ++ [st.beat - 1] := by
      have hgl := dn.gp
      have hne : st.plays ≠ [] := fun z => by
        rw [z] at hgl
        cases hgl
      refine ⟨st.plays.dropLast, ?_⟩
      rw [List.getLast?_eq_some_getLast hne] at hgl
      have hgl := Option.some.inj hgl
      rw [← hgl, List.dropLast_concat_getLast]
    refine ⟨fun σ' G' => σ' = [some (.ref rn), some (.ref p), some (.ref op), some (.ref a), some (.ref d0), v5, some (.ref pl), none, none, none] ∧ Kp [] G1 G', ?_, ?_⟩
    · rw [← eG1]
      refine ⟨_, rfl, pl, _, rfl, .inl (SqL.of hPl), _, rfl, a, _, rfl, .inl (SqL.of hAp), rfl, _, rfl, ?_⟩
      have e : decide (V.int ((st.plays.map V.int).length : Nat) = V.int (((RPm.rep st.whole c.lens).map V.int).length : Nat)) = true := by
        rw [List.length_map, List.length_map, hrepl, decide_eq_true rfl]
      rw [e]
      refine iteF ?_
      refine ⟨_, rfl, _, rfl, pl, st.plays, rfl, SqL.of hPl, lp1000, fun ps n hn hps => ⟨ps, _, n, rfl, upd_same, by omega, fun ns q hpw hmem hlen hq => ?_⟩⟩
      have ens : ns = st.plays := RPm.inc_eq hpw inc fun x => by
        rw [hmem x]
        exact decide_eq_true_iff
      have kq : Kp [] G1 (upd (upd G1 ps (SetO w ps (fun j => decide (j ∈ st.plays)) n)) q (.lst (ns.map V.int))) := (Kp.refl.new hps).trans (Kp.refl.new hq)
      rw [ens] at kq ⊢
      exact ne_lists (SqL.of (kq.lst (by simp) hPl)) (SqL.of upd_same) ⟨_, rfl, iteF ⟨rfl, kq⟩⟩
    rintro _ G2 ⟨rfl, k2⟩
    have hPl2 := k2.lst (by simp) hPl
    have hA2 := k2.lst (by simp) hAp
    refine ⟨fun σ' G' => (∃ v5 : Option V, σ' = [some (.ref rn), some (.ref p), some (.ref op), some (.ref a), some (.ref d0), v5, some (.ref pl), none, none, none]) ∧ Kp [] G2 G', ?_, ?_⟩
    · refine ⟨_, rfl, pl, _, rfl, .inl (SqL.of hPl2), ((st.plays.map V.int).length : Nat), rfl, by omega, by rw [List.length_map]; omega, fun D hD => ?_⟩
      have kD : Kp [] G2 (upd G2 D (.lst [])) := Kp.refl.new hD
      refine lc_range (lo := 0) (n := ((st.plays.map V.int).length : Int).toNat) (fun i H2 => H2 = upd G2 D (.lst [])) rfl ?_ ?_
      · rintro i H2 hi rfl
        rw [List.length_map] at hi
        have hi : i < st.plays.length := by omega
        have := g.pw i hi
        refine ⟨rfl, _, rfl, _, rfl, pl, _, _, _, rfl, rfl, SqL.of (kD.lst (by simp) hPl2), at_k hi, _, rfl, _, rfl, a, _, _, _, rfl, rfl, SqL.of (kD.lst (by simp) hA2), at_k (by rw [hrepl]; exact hi), _, _, rfl, rfl, _, rfl, ?_⟩
        rw [decide_eq_false (by omega)]
        exact iteF rfl
      · rintro H2 rfl
        refine ⟨(by show 0 ≤ sizeLine; decide), fun E2 hE2 => ?_⟩
        have kE : Kp [] (upd G2 D (.lst [])) (upd (upd G2 D (.lst [])) E2 (.lst [])) := Kp.refl.new hE2
        exact ne_lists (ns := []) (SqL.of (kE.lst (by simp) upd_same)) (SqL.of upd_same) ⟨_, rfl, iteF ⟨⟨_, rfl⟩, kD.trans kE⟩⟩
    rintro _ G3 ⟨⟨v5', rfl⟩, k3⟩
    have hPl3 := k3.lst (by simp) hPl2
    have L3 := L.x ((kG1.trans k2).trans k3).x
    obtain ⟨dx, tr, tb, tw, tp, tss, tk, h0, h1, h2, h3, h4, h5, h6⟩ := L3.run
    have hlk := g.lk
    have eb : st.beat = ((st.beat.toNat : Nat) : Int) := by omega
    refine ⟨fun σ' G' => σ' = [some (.ref rn), some (.ref p), some (.ref op), some (.ref a), some (.ref d0), v5', some (.ref pl), none, none, none] ∧ Kp [] G3 G', ?_, ?_⟩
    · have hPl3' : G3 pl = some (.lst (pf.map V.int ++ [V.int (st.beat - 1)])) := by
        rw [hPl3, epf, List.map_append] <;> rfl
      refine ⟨_, rfl, rn, _, _, _, _, rfl, h0, T.cl_Run, T.n_Run_ended, lookF (i := 5) nd_Run rfl rfl, _, rfl, _, rfl, pl, _, _, _, rfl, rfl, SqL.of hPl3', atI_last _ _, _, _, rfl, rfl, rfl, _, rfl, ?_⟩
      have e : decide (V.int st.beat = V.int (st.beat - 1 + 1)) = true := decide_eq_true (by rw [show st.beat - 1 + 1 = st.beat by omega])
      rw [e]
      refine iteF ⟨_, rfl, rn, dx, _, rfl, h0, rn, dx, _, st.beat.toNat, rfl, (by rw [← eb]; rfl), h0, by omega, fun H' k' => ⟨_, rfl, by omega, by omega, ?_⟩⟩
      have h0' := k'.ins (by simp) h0
      refine ⟨_, rfl, rn, _, _, _, _, rfl, h0', T.cl_Run, T.n_Run_ended, lookF (i := 5) nd_Run rfl rfl, rfl, _, rfl, ?_⟩
      have e : decide (V.int ((st.beat.toNat : Nat) : Int) = V.int st.beat) = true := decide_eq_true (by rw [← eb])
      rw [e]
      refine iteF ⟨_, rfl, rn, _, _, _, _, rfl, h0', T.cl_Run, T.n_Run_kept, lookF (i := 6) nd_Run rfl rfl, tk, _, rfl, .inr (k'.tup h6), _, rfl, rn, _, _, _, _, rfl, h0', T.cl_Run, T.n_Run_ended, lookF (i := 5) nd_Run rfl rfl, rfl, _, rfl, ?_⟩
      have e : decide (V.int (((st.kepts.map V.int).length : Nat) : Int) = V.int st.beat) = true := decide_eq_true (by rw [List.length_map, hlk])
      rw [e]
      exact iteF ⟨rfl, k'⟩
    rintro _ G4 ⟨rfl, k4⟩
    have hPl4 := k4.lst (by simp) hPl3
    -- _law_played_in = dict(..)
    refine ⟨fun σ' G' => ∃ q : Addr, σ' = [some (.ref rn), some (.ref p), some (.ref op), some (.ref a), some (.ref d0), v5', some (.ref pl), none, some (.ref q), none] ∧ Kp [] G4 G' ∧ G' q = some (.dK (mergeK [] (pkv st.plays))), ?_, ?_⟩
    · refine ⟨_, rfl, pl, rfl, ⟨_, SqL.of hPl4⟩, fun D hD => ?_⟩
      refine lc_list (K := K) (a := pl) (xs := st.plays.map V.int) (fun i H2 => PairZ K G4 D st.plays i H2) ⟨Kp.refl.new hD, [], upd_same, rfl, fun j u e => by simp at e⟩ (fun i H2 _ z => SqL.of (z.k.lst (by simp) hPl4)) ?_ ?_
      · rintro i x H2 hx z
        rw [List.getElem?_map] at hx
        cases hb : st.plays[i]? with
        | none => rw [hb] at hx; cases hx
        | some b =>
          rw [hb] at hx
          cases hx
          exact ⟨rfl, _, rfl, (by show 2 ≤ sizeLine; decide), fun t ht => z.next ht hD hb lp1000⟩
      · rintro H2 z
        obtain ⟨ts, q1, q2, q3⟩ := z.ts
        rw [List.length_map] at q2
        refine ⟨D, ts, pkv st.plays, rfl, SqL.of q1, paired_of q2 q3, fun q hq => ⟨q, rfl, z.k.trans (Kp.refl.new hq), upd_same⟩⟩
    rintro _ G5 ⟨q, rfl, k5, hQ⟩
    have kAll := (((kG1.trans k2).trans k3).trans k4).trans k5
    have L5 := L.x kAll.x
    obtain ⟨dx, tr, tb, tw, tp, tss, tk, h0, h1, h2, h3, h4, h5, h6⟩ := L5.run
    obtain ⟨ov, o1, o2⟩ := L5.opt
    have hD5 : G5 d0 = some (.dK kvs) := ((((k2.trans k3).trans k4).trans k5) d0 _ hDp (fun z => absurd z (by simp)))
    refine ⟨_, rfl, rn, _, _, _, _, rfl, h0, T.cl_Run, T.n_Run_ended, lookF (i := 5) nd_Run rfl rfl, st.beat, rfl, by omega, by omega, for_range (lo := 0) (n := st.beat.toNat) (fun i σ G' => ∃ v7 : Option V, σ = [some (.ref rn), some (.ref p), some (.ref op), some (.ref a), some (.ref d0), v5', some (.ref pl), v7, some (.ref q), some (.int (RPm.last st.kepts i))] ∧ G' = G5) ⟨none, rfl, rfl⟩ ?_ ?_⟩
    · rintro i σ G' hi ⟨v7, rfl, rfl⟩
      obtain ⟨kk1, kk2, kk3⟩ := g.kk i (by omega)
      refine ⟨_, rfl, _, rfl, d0, rfl, .inl ⟨_, .inl hD5⟩, _, rfl, _, DGet.k (k := .inl (0 + (i : Nat))) hD5, ?_⟩
      rw [hcm]
      refine ⟨_, _, rfl, rfl, _, rfl, _, rfl, q, _, rfl, DGet.k (k := .inl (0 + (i : Nat))) hQ, ?_⟩
      rw [in_plays]
      refine .inr ⟨_, rfl, _, _, rfl, rfl, ?_⟩
      have ek : RPm.last st.kepts i + RPm.comeF st.whole c.lens (0 + (i : Nat)) - (if decide (0 + (i : Int) ∈ st.plays) = true then 1 else 0) = st.kepts.getD i 0 := by
        rw [kk1, Int.zero_add]
        by_cases hin : (i : Int) ∈ st.plays
        · rw [if_pos hin, decide_eq_true hin, if_pos rfl]
        · rw [if_neg hin, decide_eq_false hin, if_neg (by decide)]
      show gName _ (V.int (RPm.last st.kepts i + RPm.comeF st.whole c.lens (0 + (i : Nat)) - (if decide (0 + (i : Int) ∈ st.plays) = true then 1 else 0))) _ _ _
      rw [ek]
      refine ⟨_, rfl, rn, _, _, _, _, rfl, h0, T.cl_Run, T.n_Run_kept, lookF (i := 6) nd_Run rfl rfl, _, rfl, tk, _, _, _, rfl, rfl, h6, at_k (by omega), _, rfl, rfl, _, rfl, ?_⟩
      rw [decide_eq_true rfl]
      refine iteF ⟨_, rfl, _, _, rfl, rfl, _, rfl, ?_⟩
      rw [decide_eq_true kk2]
      refine iteT ⟨_, rfl, op, _, _, _, rfl, rfl, o1, at_nat (by decide) rfl, _, _, rfl, rfl, _, rfl, ?_⟩
      rw [decide_eq_true kk3]
      refine iteF ⟨some (.int (0 + (i : Nat))), ?_, rfl⟩
      have el : RPm.last st.kepts (i + 1) = st.kepts.getD i 0 := by
        unfold RPm.last
        rw [if_neg (by omega)]
        rfl
      rw [el]
      rfl
    · rintro σ G' ⟨v7, rfl, rfl⟩
      exact k _ kAll
end
end K76


set_option Elab.async false
set_option linter.all false
set_option maxRecDepth 100000
set_option maxHeartbeats 4000000
/-! Rows of beats as data; defs known by name where no repr is under way. -/
namespace K76
open PySem PySem.Spec PyProof.Rows L2 LamX NdefX
open RPm (Cfg Std)
/-- a function by its name, run where no repr is under way -/
structure CalG (P : Program) (w : World) (K : PySem.W.Frag) (mg : Str → Option Value) (base : Heap) (k : Nat) (x : Str) (sp : Sp) : Prop where
  ex : ∃ (f : Addr) (fd : FuncData) (ps : List Str), FnOkG P w K mg base k f fd ps sp ∧ mg x = some (.ref f) ∧ PySem.W.keepIn K (.ref f) = true ∧ Binds K fd ps []
section
variable {X : Cx} {k j : Nat} {x : Str} {sp : Sp} {p pos : Pos} {e : Expr} {es : List Expr} {t : TA}
theorem FnOkG.mono {P : Program} {w : World} {K : PySem.W.Frag} {mg : Str → Option Value} {base : Heap} {k j : Nat} {f : Addr} {fd : FuncData} {ps : List Str} {sp : Sp} (h : FnOkG P w K mg base k f fd ps sp) (hk : k ≤ j) : FnOkG P w K mg base j f fd ps sp :=
  ⟨h.len, fun A outer s H args us vs Q E hg hr => h.run A outer s H args us vs Q E hg (hr.mono hk)⟩
theorem pe_cG (c : CalG X.prog X.w X.K X.mg X.base k x sp) (hgd : X.A.guards = some []) (hr : Room j X.A) (hk : k ≤ j) (hg : Gl X x) (ha : PA X (e :: es) t)
    (hdb : (x == ("__debug__" : Str)) = false := by decide) (he : starEach (e :: es) X.env = (false, eval e X.env) :: starEach es X.env := by rfl) (hpl : (backTo pos (starEach es X.env)).any (·.1) = false := by rfl) :
    PE X (.Call (.Name x p) (e :: es) [] pos) (tCall sp [] E0 t) := by
  obtain ⟨f, fd, ps, F, hm, kp, b⟩ := c.ex
  exact pe_callG F hgd (hr.mono hk) hg hm kp b ha hdb he hpl
end
/-! ### rows -/
abbrev dRows (rows : List (List Int)) : List PyData := rows.map fun r => .tuple (r.map PyData.int)
theorem RowsL.tail {K : PySem.W.Frag} {H : Hp} {a : Addr} {as : List Addr} {r : List Int} {rows : List (List Int)} (h : RowsL K H (a :: as) (r :: rows)) : SqT K H a (r.map V.int) ∧ RowsL K H as rows := by
  obtain ⟨h1, h2⟩ := h
  obtain ⟨r', e, q⟩ := h2 0 a rfl
  cases e
  exact ⟨q, by simpa using h1, fun i b e => h2 (i + 1) b e⟩
theorem RowsL.cut {K : PySem.W.Frag} {H : Hp} {as : List Addr} {r : List Int} {rows : List (List Int)} (h : RowsL K H as (rows ++ [r])) : ∃ as' x, as = as' ++ [x] ∧ RowsL K H as' rows ∧ SqT K H x (r.map V.int) := by
  obtain ⟨h1, h2⟩ := h
  rw [List.length_append] at h1
  have hne : as ≠ [] := fun z => by
    rw [z] at h1
    simp at h1
  have e := List.dropLast_concat_getLast hne
  have hl : as.dropLast.length = rows.length := by
    rw [List.length_dropLast, h1]
    simp
  refine ⟨as.dropLast, as.getLast hne, e.symm, ⟨hl, fun i a ei => ?_⟩, ?_⟩
  · have hi := (List.getElem?_eq_some_iff.mp ei).1
    have ei2 : as[i]? = some a := by
      rw [← e, List.getElem?_append_left hi]
      exact ei
    obtain ⟨r', e1, e2⟩ := h2 i a ei2
    exact ⟨r', by rw [← e1, List.getElem?_append_left (by rw [← hl]; exact hi)], e2⟩
  · obtain ⟨r', e1, e2⟩ := h2 rows.length (as.getLast hne) (by
      have e1 : rows.length = as.length - 1 := by rw [h1]; simp
      rw [e1, ← List.getLast?_eq_getElem?]
      exact List.getLast?_eq_some_getLast hne)
    rw [List.getElem?_append_right (Nat.le_refl _), Nat.sub_self] at e1
    cases e1
    exact e2
theorem dpRows {K : PySem.W.Frag} {H : Hp} : ∀ {as : List Addr} {rows : List (List Int)}, RowsL K H as rows → DpAll K H (as.map V.ref) (dRows rows)
  | [], [], _ => .nil
  | [], _ :: _, h => by cases h.1
  | _ :: _, [], h => by cases h.1
  | a :: as, r :: rows, h => .cons (.tup h.tail.1 (dpI r)) (dpRows h.tail.2)
theorem canRows : ∀ rows : List (List Int), PyData.canLayAll0 (dRows rows) = true
  | [] => by simp [PyData.canLayAll0]
  | r :: rows => by
    have h := canRows rows
    simp only [dRows, List.map_cons, PyData.canLayAll0, PyData.canLay0, Bool.and_eq_true]
    exact ⟨PySem.W.canLayAll0_ints r, h⟩
theorem depthRows : ∀ rows : List (List Int), PyData.depthAll (dRows rows) ≤ 2
  | [] => by simp [PyData.depthAll]
  | r :: rows => by
    have h := depthRows rows
    have h2 := PySem.W.depthAll_ints r
    simp only [dRows, List.map_cons, PyData.depthAll, PyData.depth] at h ⊢
    omega
theorem shapedLR (rows : List (List Int)) : SeqAt.shaped (.list (dRows rows)) = true := by
  have h := depthRows rows
  show (PyData.canLay0 (.list (dRows rows)) && decide (PyData.depth (.list (dRows rows)) ≤ 64)) = true
  rw [Bool.and_eq_true]
  exact ⟨by simp only [PyData.canLay0]; exact canRows rows, decide_eq_true (by simp only [PyData.depth]; omega)⟩
theorem depthTR (rows : List (List Int)) : PyData.depth (.tuple (dRows rows)) ≤ 64 := by
  have h := depthRows rows
  simp only [PyData.depth]
  omega
theorem noDictI : ∀ ns : List Int, PyData.hasDictAll (ns.map PyData.int) = false
  | [] => by simp [PyData.hasDictAll]
  | n :: r => by simp [PyData.hasDictAll, PyData.hasDict, noDictI r]
theorem noDictR : ∀ rows : List (List Int), PyData.hasDictAll (dRows rows) = false
  | [] => by simp [PyData.hasDictAll]
  | r :: rows => by
    have h := noDictR rows
    simp only [dRows, List.map_cons, PyData.hasDictAll, PyData.hasDict, noDictI r, Bool.false_or] at h ⊢
    exact h
theorem showI : ∀ ns : List Int, (∀ n ∈ ns, 0 ≤ n ∧ n ≤ 100000) → PyData.showableAll (ns.map PyData.int) = true
  | [], _ => by simp [PyData.showableAll]
  | n :: r, h => by
    have h1 := h n List.mem_cons_self
    have h2 := showI r fun x hx => h x (List.mem_cons_of_mem _ hx)
    simp only [List.map_cons, PyData.showableAll, PyData.showable, Bool.and_eq_true]
    refine ⟨decide_eq_true ?_, h2⟩
    have h3 : n.natAbs.log2 ≤ n.natAbs := Nat.log2_le_self _
    by_cases h0 : n.natAbs = 0
    · rw [h0]
      decide
    · have : n.natAbs.log2 < 17 := (Nat.log2_lt h0).mpr (by omega)
      omega
theorem showR : ∀ rows : List (List Int), (∀ r ∈ rows, ∀ n ∈ r, 0 ≤ n ∧ n ≤ 100000) → PyData.showableAll (dRows rows) = true
  | [], _ => by simp [PyData.showableAll]
  | r :: rows, h => by
    have h1 := showI r (h r List.mem_cons_self)
    have h2 := showR rows fun x hx => h x (List.mem_cons_of_mem _ hx)
    simp only [dRows, List.map_cons, PyData.showableAll, PyData.showable, Bool.and_eq_true]
    exact ⟨h1, h2⟩
theorem shortI : ∀ ns : List Int, (∀ n ∈ ns, 0 ≤ n ∧ n ≤ 100000) → PyData.leavesShortAll 13 (ns.map PyData.int) = true
  | [], _ => by simp [PyData.leavesShortAll]
  | n :: r, h => by
    have h1 := h n List.mem_cons_self
    have h2 := shortI r fun x hx => h x (List.mem_cons_of_mem _ hx)
    simp only [List.map_cons, PyData.leavesShortAll, PyData.leavesShort, Bool.and_eq_true]
    exact ⟨decide_eq_true (PyData.shown_int_le (by omega)), h2⟩
theorem shortR : ∀ rows : List (List Int), (∀ r ∈ rows, ∀ n ∈ r, 0 ≤ n ∧ n ≤ 100000) → PyData.leavesShortAll 13 (dRows rows) = true
  | [], _ => by simp [PyData.leavesShortAll]
  | r :: rows, h => by
    have h1 := shortI r (h r List.mem_cons_self)
    have h2 := shortR rows fun x hx => h x (List.mem_cons_of_mem _ hx)
    simp only [dRows, List.map_cons, PyData.leavesShortAll, PyData.leavesShort, Bool.and_eq_true]
    exact ⟨h1, h2⟩
theorem bulkI : ∀ ns : List Int, PyData.bulkAll (ns.map PyData.int) = ns.length
  | [] => by simp [PyData.bulkAll]
  | n :: r => by
    have := bulkI r
    simp only [List.map_cons, PyData.bulkAll, PyData.bulk, List.length_cons]
    omega
theorem bulkR : ∀ rows : List (List Int), (∀ r ∈ rows, r.length = 2) → PyData.bulkAll (dRows rows) = 3 * rows.length
  | [], _ => by simp [PyData.bulkAll]
  | r :: rows, h => by
    have h1 := h r List.mem_cons_self
    have h2 := bulkR rows fun x hx => h x (List.mem_cons_of_mem _ hx)
    have h3 := bulkI r
    simp only [dRows, List.map_cons, PyData.bulkAll, PyData.bulk, List.length_cons] at h2 ⊢
    omega
theorem fitsR {rows : List (List Int)} (h : ∀ r ∈ rows, r.length = 2 ∧ ∀ n ∈ r, 0 ≤ n ∧ n ≤ 100000) (hl : rows.length ≤ 10000) : (PyData.shown (.tuple (dRows rows))).length ≤ sizeLine := by
  refine PyData.shown_fits_bulk (B := 13) (by decide) (by decide) ?_ ?_
  · simp only [PyData.leavesShort]
    exact shortR rows fun r hr => (h r hr).2
  · have := bulkR rows fun r hr => (h r hr).1
    simp only [PyData.bulk]
    omega
theorem rows_reprs {K : PySem.W.Frag} {H : Hp} {t : Addr} {as : List Addr} {rows : List (List Int)} {Q : VK} (h1 : SqT K H t (as.map V.ref)) (h2 : RowsL K H as rows) (h : ∀ r ∈ rows, r.length = 2 ∧ ∀ n ∈ r, 0 ≤ n ∧ n ≤ 100000) (hl : rows.length ≤ 10000)
    (q : Q (.str (PyData.shown (.tuple (dRows rows)))) H) : rReprD K [.ref t] H Q :=
  ⟨t, _, rfl, .tup h1 (dpRows h2), by simp only [PyData.showable]; exact showR rows fun r hr => (h r hr).2, by simp only [PyData.hasDict]; exact noDictR rows, depthTR rows, fitsR h hl, q⟩
theorem rows_rep1 {K : PySem.W.Frag} {H : Hp} {t : Addr} {as : List Addr} {rows : List (List Int)} (h1 : SqT K H t (as.map V.ref)) (h2 : RowsL K H as rows) (h : ∀ r ∈ rows, r.length = 2 ∧ ∀ n ∈ r, 0 ≤ n ∧ n ≤ 100000) (hl : rows.length ≤ 10000) :
    Dp K H (.ref t) (.tuple (dRows rows)) ∧ PyData.showable (.tuple (dRows rows)) = true ∧ PyData.hasDict (.tuple (dRows rows)) = false ∧ PyData.depth (.tuple (dRows rows)) ≤ 64 ∧ (PyData.shown (.tuple (dRows rows))).length ≤ sizeLine :=
  ⟨.tup h1 (dpRows h2), by simp only [PyData.showable]; exact showR rows fun r hr => (h r hr).2, by simp only [PyData.hasDict]; exact noDictR rows, depthTR rows, fitsR h hl⟩
theorem ne_nilR {K : PySem.W.Frag} {H : Hp} {a b : Addr} {as : List Addr} {rows : List (List Int)} {Q : VK} (h1 : SqL K H a (as.map V.ref)) (h2 : RowsL K H as rows) (h3 : SqL K H b []) (q : Q (.bl (!rows.isEmpty)) H) : rNeD K (.ref a) (.ref b) H Q := by
  refine ⟨_, _, .lst h1 (dpRows h2), .lst h3 .nil, shapedLR rows, by decide +kernel, ?_⟩
  cases rows with
  | nil =>
    have e : PyData.eqv (.list (dRows [])) (.list []) = true := by simp [dRows, PyData.eqv, PyData.eqvAll]
    rw [e]
    exact q
  | cons r rows =>
    have e : PyData.eqv (.list (dRows (r :: rows))) (.list []) = false := by simp [dRows, PyData.eqv, PyData.eqvAll]
    rw [e]
    exact q
theorem sil_len (plays : List Int) (lo : Int) : ∀ n, (RPm.silF plays lo n).length ≤ n
  | 0 => Nat.le_refl _
  | n + 1 => by
    have h := sil_len plays lo n
    show (if lo + n ∈ plays then _ else RPm.addRow (RPm.silF plays lo n) (lo + n)).length ≤ n + 1
    by_cases hm : lo + n ∈ plays
    · rw [if_pos hm]
      omega
    · rw [if_neg hm]
      unfold RPm.addRow
      split
      · split
        · rw [List.length_append, List.length_dropLast]
          simp
          omega
        · rw [List.length_append]
          simp
          omega
      · rw [List.length_append]
        simp
        omega
theorem add_nil (b : Int) : RPm.addRow [] b = [(b, 1)] := rfl
theorem add_snoc (rows : List (Int × Int)) (f m b : Int) : RPm.addRow (rows ++ [(f, m)]) b = if f + m = b then rows ++ [(f, m + 1)] else (rows ++ [(f, m)]) ++ [(b, 1)] := by
  unfold RPm.addRow
  rw [List.getLast?_append]
  simp
end K76


set_option Elab.async false
set_option linter.all false
set_option maxRecDepth 100000
set_option maxHeartbeats 4000000
/-! The law's look at the stalls. -/
namespace K76
open PySem PySem.Spec PyProof.Rows L2 LamX NdefX
open RPm (Cfg Std)
def spStallR (K : PySem.W.Frag) : Sp := fun vs H Q _ => ∃ (rn : Addr) (c : Cfg) (wide : Int) (st : RPm.St), vs = [.ref rn] ∧ RunAt K H rn st ∧ RPm.Done c wide st ∧ RPm.CfgOk c wide ∧ ∀ H', Kp [] H H' → Q (.bl true) H'
section
variable {P : Program} {w : World} {K : PySem.W.Frag} {mg : Str → Option Value} {base : Heap}
theorem mkG__law_stalls_right {k : Nat} {sp : Sp} (T : Tx K mg) (len : ∀ vs H Q E, sp vs H Q E → vs.length = 1)
    (hbody : ∀ (cdv : Value) (A : Around) (outer : List Env) (s : Shared) (H : Hp) (vs : List V) (Q : VK) (E : XK), (A.deeper (envOfC "_law_stalls_right" (defScope s__law_stalls_right) s.heap.objs.size (He.ga K "_law_stalls_right") cdv)).guards = some [] → Room k (A.deeper (envOfC "_law_stalls_right" (defScope s__law_stalls_right) s.heap.objs.size (He.ga K "_law_stalls_right") cdv)) → sp vs H Q E →
      ∃ t, PSs (cxOf CX0 P w K mg base nN__law_stalls_right "_law_stalls_right" (defScope s__law_stalls_right) (He.ga K "_law_stalls_right") cdv A outer s H E).nox (defBody s__law_stalls_right) t ∧ t { nx := fun _ H' => Q .non H', rt := Q } (start nN__law_stalls_right vs) H) : CalG P w K mg base (k + 1) "_law_stalls_right" sp := by
  obtain ⟨fd, F⟩ := D__law_stalls_right T
  exact ⟨_, fd, ["_law_run"], okG F sc__law_stalls_right len fun cdv A outer s H vs Q E hg hr h => let ⟨t, h1, h2⟩ := hbody cdv A outer s H vs Q E hg hr h; ⟨t, h1.nox, h2⟩, T.g__law_stalls_right, F.kp, F.bindsN fun _ _ _ _ _ _ us hl => match us, hl with | [_], _ => rfl⟩
set_option maxHeartbeats 16000000 in
theorem c__law_stalls_right (T : Tx K mg) : CalG P w K mg base 3 "_law_stalls_right" (spStallR K) := by
  refine mkG__law_stalls_right T (fun vs H Q E h => ?_) (fun cdv A outer s H vs Q E hg hr h => ?_)
  · obtain ⟨rn, c, wide, st, rfl, _⟩ := h
    rfl
  · obtain ⟨rn, c, wide, st, rfl, L, dn, ok, k⟩ := h
    have hu := hu_of hr
    have hu64 := hr.units
    have hu80 : (A.deeper (envOfC "_law_stalls_right" (defScope s__law_stalls_right) s.heap.objs.size (He.ga K "_law_stalls_right") cdv)).units + 80 < cLine := by
      have := hr.un
      omega
    refine ⟨_, (C8.pss_cut (ps_set (i := 2) sc__law_stalls_right.nd rfl (Or.inl rfl) (pe_callTy (call_dictP rfl) rfl T.f_dict (by decide +kernel) (pa_cons (pe_lc (own := [("_law_beat", 1)]) (g := gName 1) rfl sc__law_stalls_right.nd (pi_tup (pe_fld (pv 0) rfl)) (blkOk_by (own := [("_law_beat", 1)]) (N := nN__law_stalls_right) (sc := defScope s__law_stalls_right) (by decide +kernel)) (fun _ _ _ _ _ => pg_name (i := 1) sc__law_stalls_right.nd rfl (Or.inl rfl)) (fun _ _ _ _ _ => pts_nil) (fun _ _ _ _ _ => pe_tup (pa_cons (pv 1) (pa_cons pe_bl pa_nil)))) pa_nil)))
    (pss_cons (ps_set (i := 3) sc__law_stalls_right.nd rfl (Or.inl rfl) (pe_lst pa_nil))
    (pss_cons (ps_for PassesOwn.never rfl (pi_range2 rfl T.f_range (pa_cons (pe_ix ix_tup (pe_fld (pv 0) rfl) pe_int (fun _ _ => rfl)) (pa_cons (pe_fld (pv 0) rfl) pa_nil))) (pg_name (i := 1) sc__law_stalls_right.nd rfl (Or.inl rfl))
      (pss_one (ps_if (pt_cmp (pc_dnotin hu (pv 1) (pv 2))) (pss_one (ps_if (PW.pt (pw_and (pt_cmpR (op_neD hu64) (pv 3) (pe_lst pa_nil) (nomark _)) (pw_and1 (pt_cmpR op_eq (pe_callB (cr_sumT rfl) rfl T.f_sum (by decide +kernel) (pa_cons (pe_ix ix_list (pv 3) (pe_un un_neg pe_int) (fun _ _ => rfl)) pa_nil)) (pv 1) (nomark _))))) (pss_one (ps_asg (pe_tup (pa_cons (pe_ix ix_tup (pe_ix ix_list (pv 3) (pe_un un_neg pe_int) (fun _ _ => rfl)) pe_int (fun _ _ => rfl)) (pa_cons (pe_op op_add (pe_ix ix_tup (pe_ix ix_list (pv 3) (pe_un un_neg pe_int) (fun _ _ => rfl)) pe_int (fun _ _ => rfl)) pe_int) pa_nil))) (pg_sub (pv 3) (pe_un un_neg pe_int) set_list))) (pss_one (ps_expr (pe_bm PySem.F.plainAttrs_list PySem.F.slot_list_append PySem.F.type_list_append mt_append (pv 3) (pa_cons (pe_tup (pa_cons (pv 1) (pa_cons pe_int pa_nil))) pa_nil)))))) pss_nil)))
    (pss_one (ps_ret (pe_cmpR op_eq (pe_callB (cr_reprD hg hu80) rfl T.f_repr (by decide +kernel) (pa_cons (pe_fld (pv 0) rfl) pa_nil)) (pe_callB (cr_reprD hg hu80) rfl T.f_repr (by decide +kernel) (pa_cons (pe_callTy call_tuple_of rfl T.f_tuple (by decide +kernel) (pa_cons (pv 3) pa_nil)) pa_nil)) (nomark _))))))), ?_⟩
    obtain ⟨dx, tr, tb, tw, tp, tss, tk, h0, h1, h2, h3, h4, h5, h6⟩ := L
    have g := dn.g
    have lpl := dn.pl
    have tot := RPm.total_le ok
    have hbb := dn.bb
    have b0 := g.b0
    have lp1000 : st.plays.length ≤ 1000 := by omega
    obtain ⟨p0, hp0⟩ : ∃ p0, st.plays.head? = some p0 := by
      have hgl := dn.gp
      cases hh : st.plays with
      | nil =>
        rw [hh] at hgl
        cases hgl
      | cons x r => exact ⟨x, rfl⟩
    have hp0m : p0 ∈ st.plays := List.mem_of_mem_head? hp0
    obtain ⟨hp00, hp01⟩ := g.ps.2 p0 hp0m
    obtain ⟨_, hst⟩ := g.st p0 hp0
    have hgl := g.gl
    -- _law_played_in = dict(..)
    refine ⟨fun σ' G' => ∃ q : Addr, σ' = [some (.ref rn), none, some (.ref q), none] ∧ Kp [] H G' ∧ G' q = some (.dK (mergeK [] (pkv st.plays))), ?_, ?_⟩
    · refine ⟨_, rfl, rn, _, _, _, _, rfl, h0, T.cl_Run, T.n_Run_plays, lookF (i := 3) nd_Run rfl rfl, tp, rfl, ⟨_, h4⟩, fun D hD => ?_⟩
      refine lc_tup (K := K) (a := tp) (xs := st.plays.map V.int) (fun i H2 => PairZ K H D st.plays i H2) ⟨Kp.refl.new hD, [], upd_same, rfl, fun j u e => by simp at e⟩ (fun i H2 _ z => z.k.tup h4) ?_ ?_
      · rintro i x H2 hx z
        rw [List.getElem?_map] at hx
        cases hb : st.plays[i]? with
        | none => rw [hb] at hx; cases hx
        | some b =>
          rw [hb] at hx
          cases hx
          exact ⟨rfl, _, rfl, (by show 2 ≤ sizeLine; decide), fun t ht => z.next ht hD hb lp1000⟩
      · rintro H2 z
        obtain ⟨ts, q1, q2, q3⟩ := z.ts
        rw [List.length_map] at q2
        refine ⟨D, ts, pkv st.plays, rfl, SqL.of q1, paired_of q2 q3, fun q hq => ⟨q, rfl, z.k.new (z.k.none hq (by simp)), upd_same⟩⟩
    rintro _ G1 ⟨q, rfl, k1, hQ⟩
    have h0 := k1.ins (by simp) h0
    have h4 := k1.tup h4
    have h5 := TupsAt.kp h5 k1.toN
    -- _law_silent = []
    refine ⟨(by show 0 ≤ sizeLine; decide), fun sl hsl => ?_⟩
    have nq : q ≠ sl := ne_of_none hQ hsl
    have hslH : H sl = none := k1.none hsl (by simp)
    have k2 : Kp [] H (upd G1 sl (.lst [])) := k1.new hslH
    have k21 : Kp [] G1 (upd G1 sl (.lst [])) := Kp.refl.new hsl
    have h4' := k21.tup h4
    have hp0g : (st.plays.map V.int)[0]? = some (.int p0) := by
      rw [List.getElem?_map, ← List.head?_eq_getElem?, hp0]
      rfl
    refine ⟨_, rfl, rn, _, _, _, _, rfl, k21.ins (by simp) h0, T.cl_Run, T.n_Run_plays, lookF (i := 3) nd_Run rfl rfl, tp, _, _, _, rfl, rfl, h4', atI_nat (j := 0) hp0g, _, rfl, rn, _, _, _, _, rfl, k21.ins (by simp) h0, T.cl_Run, T.n_Run_ended, lookF (i := 5) nd_Run rfl rfl, p0, st.beat, rfl, ⟨by omega, by omega, by omega, by omega⟩, ?_⟩
    refine for_range (lo := p0) (n := (st.beat - p0).toNat) (fun i σ G => ∃ (v1 : Option V) (as : List Addr), σ = [some (.ref rn), v1, some (.ref q), some (.ref sl)] ∧ Kp [] H G ∧ Kp [sl] (upd G1 sl (.lst [])) G ∧ G sl = some (.lst (as.map V.ref)) ∧ RowsL K G as (prs (RPm.silF st.plays p0 i))) ⟨none, [], rfl, k2, Kp.refl, upd_same, rfl, fun i a e => by simp at e⟩ ?_ ?_
    · rintro i σ G hi ⟨v1, as, rfl, kG, kG2, hS, hR⟩
      have hQ2 : G q = some (.dK (mergeK [] (pkv st.plays))) := kG2 q _ (by rw [upd_ne nq]; exact hQ) (fun z => absurd z (by simp [nq]))
      have hsn := sil_len st.plays p0 i
      have hal : as.length = (RPm.silF st.plays p0 i).length := by rw [hR.1, prs_len]
      refine ⟨_, rfl, _, rfl, q, _, rfl, DGet.k (k := .inl (p0 + (i : Nat))) hQ2, ?_⟩
      rw [in_plays]
      refine ⟨_, rfl, ?_⟩
      by_cases hin : p0 + (i : Int) ∈ st.plays
      · rw [decide_eq_true hin]
        refine iteF ⟨_, as, rfl, kG, kG2, hS, ?_⟩
        rw [show RPm.silF st.plays p0 (i + 1) = RPm.silF st.plays p0 i from if_pos hin]
        exact hR
      · rw [decide_eq_false hin]
        have en : RPm.silF st.plays p0 (i + 1) = RPm.addRow (RPm.silF st.plays p0 i) (p0 + (i : Int)) := if_neg hin
        refine iteT ⟨_, rfl, (by show 0 ≤ sizeLine; decide), fun E2 hE2 => ?_⟩
        have kE : Kp [] G (upd G E2 (.lst [])) := Kp.refl.new hE2
        have hSE := kE.lst (by simp) hS
        have hRE := hR.kp kE.toN
        refine ne_nilR (SqL.of hSE) hRE (SqL.of upd_same) ⟨_, rfl, ?_⟩
        -- a row of its own
        have last : ∀ G2 : Hp, Kp [] G G2 → (∀ t, G2 t = none → ∃ acc, upd G2 t (.tup [.int (p0 + (i : Int)), .int 1]) sl = some (.lst acc) ∧ acc.length < sizeLine ∧
            ∃ as' : List Addr, Kp [] H (upd (upd G2 t (.tup [.int (p0 + (i : Int)), .int 1])) sl (.lst (acc ++ [.ref t]))) ∧ Kp [sl] (upd G1 sl (.lst [])) (upd (upd G2 t (.tup [.int (p0 + (i : Int)), .int 1])) sl (.lst (acc ++ [.ref t]))) ∧
            upd (upd G2 t (.tup [.int (p0 + (i : Int)), .int 1])) sl (.lst (acc ++ [.ref t])) sl = some (.lst (as'.map V.ref)) ∧ RowsL K (upd (upd G2 t (.tup [.int (p0 + (i : Int)), .int 1])) sl (.lst (acc ++ [.ref t]))) as' (prs (RPm.silF st.plays p0 i ++ [(p0 + (i : Int), 1)]))) := by
          intro G2 k2 t ht
          have kt : Kp [] G2 (upd G2 t (.tup [.int (p0 + (i : Int)), .int 1])) := Kp.refl.new ht
          have hS2 := (k2.trans kt).lst (by simp) hS
          have kp : Kp [sl] (upd G2 t (.tup [.int (p0 + (i : Int)), .int 1])) (upd (upd G2 t (.tup [.int (p0 + (i : Int)), .int 1])) sl (.lst (as.map V.ref ++ [.ref t]))) := Kp.refl.put (by simp) hS2 mvL
          refine ⟨as.map V.ref, hS2, by rw [List.length_map, hal, sizeLine_eq]; omega, as ++ [t], (kG.trans (k2.trans kt)).new hslH, (kG2.trans ((k2.trans kt).mono (by simp))).trans kp, by rw [List.map_append]; exact upd_same, ?_⟩
          rw [prs_snoc]
          exact RowsL.snoc ((hR.kp (k2.trans kt).toN).kp kp.toN) (kp.tup (SqT.of upd_same))
        rcases List.eq_nil_or_concat (RPm.silF st.plays p0 i) with er | ⟨ini, ⟨f, m⟩, er⟩
        · rw [er]
          refine iteF (iteF ?_)
          refine ⟨_, rfl, .inl ⟨rfl, _, SqL.of hSE⟩, _, rfl, (by show 2 ≤ sizeLine; decide), fun t ht => ?_⟩
          obtain ⟨acc, a1, a2, as', a3, a4, a5, a6⟩ := last _ kE t ht
          refine ⟨sl, acc, _, rfl, rfl, a1, a2, _, as', rfl, a3, a4, a5, ?_⟩
          rw [en, er, add_nil]
          rw [er] at a6
          exact a6
        · rw [List.concat_eq_append] at er
          rw [er] at hRE
          rw [er, prs_snoc]
          rw [prs_snoc] at hRE
          obtain ⟨as0, x, eas, hR0, hx⟩ := hRE.cut
          have hSx : upd G E2 (.lst []) sl = some (.lst (as0.map V.ref ++ [V.ref x])) := by
            rw [hSE, eas, List.map_append] <;> rfl
          have e1 : (!(prs ini ++ [[f, m]]).isEmpty) = true := by simp
          rw [e1]
          refine iteT ⟨_, rfl, _, rfl, sl, _, _, _, rfl, rfl, SqL.of hSx, atI_last _ _, x, [f, m], rfl, hx, _, rfl, rfl, _, rfl, ?_⟩
          have e2 : List.sum [f, m] = f + m := by simp
          rw [e2]
          by_cases hb : f + m = p0 + (i : Int)
          · rw [decide_eq_true (by rw [hb])]
            refine iteT ?_
            refine ⟨_, rfl, _, rfl, sl, _, _, _, rfl, rfl, SqL.of hSx, atI_last _ _, x, _, _, _, rfl, rfl, hx, at_nat (by decide) rfl, _, rfl, _, rfl, sl, _, _, _, rfl, rfl, SqL.of hSx, atI_last _ _, x, _, _, _, rfl, rfl, hx, at_nat (by decide) rfl, _, _, rfl, rfl, (by show 2 ≤ sizeLine; decide), fun t ht => ?_⟩
            have kt : Kp [] (upd G E2 (.lst [])) (upd (upd G E2 (.lst [])) t (.tup [.int f, .int (m + 1)])) := Kp.refl.new ht
            have kk := kE.trans kt
            have hSt := kt.lst (by simp) hSE
            have kp : Kp [sl] (upd (upd G E2 (.lst [])) t (.tup [.int f, .int (m + 1)])) (upd (upd (upd G E2 (.lst [])) t (.tup [.int f, .int (m + 1)])) sl (.lst ((as.map V.ref).set as0.length (.ref t)))) := Kp.refl.put (by simp) hSt mvL
            have eset : (as.map V.ref).set as0.length (.ref t) = (as0 ++ [t]).map V.ref := by
              rw [eas, List.map_append, List.map_append]
              simp
            refine ⟨_, rfl, _, rfl, sl, as.map V.ref, -1, as0.length, rfl, rfl, hSt, ?_, _, as0 ++ [t], rfl, (kG.trans kk).new hslH, (kG2.trans (kk.mono (by simp))).trans kp, by rw [← eset]; exact upd_same, ?_⟩
            · rw [List.length_map, eas, List.length_append]
              unfold ixN
              rw [if_neg (by decide), if_pos (by simp; omega)]
              congr 1
              simp
              omega
            · rw [en, er, add_snoc, if_pos hb, prs_snoc]
              exact RowsL.snoc ((hR0.kp kt.toN).kp kp.toN) (kp.tup (SqT.of upd_same))
          · rw [decide_eq_false (fun z => hb (V.int.inj z))]
            refine iteF ?_
            refine ⟨_, rfl, .inl ⟨rfl, _, SqL.of hSE⟩, _, rfl, (by show 2 ≤ sizeLine; decide), fun t ht => ?_⟩
            obtain ⟨acc, a1, a2, as', a3, a4, a5, a6⟩ := last _ kE t ht
            refine ⟨sl, acc, _, rfl, rfl, a1, a2, _, as', rfl, a3, a4, a5, ?_⟩
            rw [en, er, add_snoc, if_neg hb]
            rw [er] at a6
            exact a6
    · rintro σ G ⟨v1, as, rfl, kG, kG2, hS, hR⟩
      rw [← hst] at hR
      have kG1 : Kp [sl] G1 G := (k21.mono (by simp)).trans kG2
      have h0 := kG1.ins (by
        intro z
        rw [List.mem_singleton] at z
        rw [z] at h0
        rw [hsl] at h0
        cases h0) h0
      obtain ⟨as2, t1, t2, t3⟩ := TupsAt.kp h5 kG1.toN
      have hok : ∀ r ∈ prs st.stalls, r.length = 2 ∧ ∀ n ∈ r, 0 ≤ n ∧ n ≤ 100000 := fun r hr => by
        obtain ⟨p, hp, rfl⟩ := List.mem_map.mp hr
        obtain ⟨v1, v2, v3, v4⟩ := g.gv p hp
        refine ⟨rfl, fun n hn => ?_⟩
        simp at hn
        rcases hn with rfl | rfl <;> omega
      have hln : (prs st.stalls).length ≤ 10000 := by
        rw [prs_len]
        omega
      have r1 := rows_rep1 t1 ⟨t2, t3⟩ hok hln
      refine ⟨_, rfl, rn, _, _, _, _, rfl, h0, T.cl_Run, T.n_Run_stalls, lookF (i := 4) nd_Run rfl rfl, tss, _, rfl, r1.1, r1.2.1, r1.2.2.1, r1.2.2.2.1, r1.2.2.2.2, _, rfl, sl, _, rfl, .inl ⟨SqL.of hS, fun l hl => ?_⟩⟩
      have kl : Kp [] G (upd G l (.tup (as.map V.ref))) := Kp.refl.new hl
      have r2 := rows_rep1 (SqT.of upd_same) (hR.kp kl.toN) hok hln
      refine ⟨l, _, rfl, r2.1, r2.2.1, r2.2.2.1, r2.2.2.2.1, r2.2.2.2.2, rfl, ?_⟩
      rw [decide_eq_true rfl]
      exact k _ (kG.trans kl)
end
end K76


set_option Elab.async false
set_option linter.all false
set_option maxRecDepth 100000
set_option maxHeartbeats 4000000
/-! The law's look at the rates. -/
namespace K76
open PySem PySem.Spec PyProof.Rows L2 LamX NdefX
open RPm (Cfg Std)
def spTellO (K : PySem.W.Frag) (asked : Addr) (seed wide : Int) : Sp := fun vs H Q _ => ∃ (sn : Addr) (s : RPm.Seen) (seens : List RPm.Seen), vs = [.ref sn] ∧ SeenAt K H sn s ∧ AskP K H asked (.own seed wide) seens ∧ seens.length < 100000 ∧
  ∀ H', Kp [asked] H H' → AskP K H' asked (.own seed wide) (seens ++ [s]) → Q (tellV (.own seed wide) s) H'
theorem in_rg {i n : Int} (h0 : 0 ≤ i) (h1 : i < n) : inV (.int i) (rgV 0 n) = true := by
  unfold inV rgV
  rw [List.any_eq_true]
  refine ⟨.int i, List.mem_map.mpr ⟨i.toNat, List.mem_range.mpr (by omega), by rw [Int.zero_add]; congr 1; omega⟩, ?_⟩
  simp [eqV]
theorem flat_rg (n : Int) : (rgV 0 n).all flatV = true := by
  unfold rgV
  rw [List.all_eq_true]
  intro x hx
  obtain ⟨i, _, rfl⟩ := List.mem_map.mp hx
  rfl
def ups (n : Nat) : List Int := (List.range n).map fun (j : Nat) => (j : Int)
theorem rg_ups (n : Nat) : rgV 0 (n : Int) = (ups n).map V.int := by
  unfold rgV ups
  rw [List.map_map, show ((n : Int) - 0).toNat = n by omega]
  exact List.map_congr_left fun i _ => by rw [Int.zero_add] <;> rfl
theorem ups_succ (n : Nat) : (ups (n + 1)).map V.int = (ups n).map V.int ++ [.int (n : Int)] := by
  unfold ups
  rw [List.range_succ, List.map_append, List.map_append]
  rfl
/-- how it is looked at: by no rule, or by the law's own -/
def RateBy (K : PySem.W.Frag) (H H0 : Hp) (asv chv : V) (st : RPm.St) (wide : Int) : Option (Addr × Addr × Int × List RPm.Seen) → Prop
  | none => asv = .non ∧ ∀ r ∈ st.rates, 0 ≤ r ∧ r < wide
  | some (sl, asked, seed, pre) => asv = .ref sl ∧ AskAt K H sl st.seens ∧ sl ≠ asked ∧ ChAt K H asked chv (.own seed wide) ∧ AskP K H asked (.own seed wide) pre ∧ pre.length + st.seens.length ≤ 1000 ∧ st.seens.length = st.rates.length ∧
    ∀ k, k < st.rates.length → st.rates.getD k 0 = rateOf wide (tellV (.own seed wide) (st.seens.getD k default)) ∧ (st.seens.getD k default).num = k
def rbS : Option (Addr × Addr × Int × List RPm.Seen) → List Addr
  | none => []
  | some (_, asked, _, _) => [asked]
def rbP (K : PySem.W.Frag) (H : Hp) (st : RPm.St) (wide : Int) : Option (Addr × Addr × Int × List RPm.Seen) → Prop
  | none => True
  | some (_, asked, seed, pre) => AskP K H asked (.own seed wide) (pre ++ st.seens)
def spRatesR (K : PySem.W.Frag) : Sp := fun vs H Q _ => ∃ (rn : Addr) (asv chv : V) (wide : Int) (st : RPm.St) (m : Option (Addr × Addr × Int × List RPm.Seen)), vs = [.ref rn, asv, chv, .int wide, .int (st.rates.length : Nat)] ∧ RunAt K H rn st ∧ 0 ≤ wide ∧ wide ≤ 100 ∧ st.rates.length ≤ 100 ∧ RateBy K H H asv chv st wide m ∧
  ∀ H', Kp (rbS m) H H' → rbP K H' st wide m → Q (.bl true) H'
section
variable {P : Program} {w : World} {K : PySem.W.Frag} {mg : Str → Option Value} {base : Heap}
theorem call_ownO (T : Tx K mg) (f : Addr) (asked : Addr) (seed wide : Int) : CallC P w K mg base 1 f (fun H => ChAt K H asked (.ref f) (.own seed wide)) (spTellO K asked seed wide) := by
  refine ⟨fun A outer s H us vs Q E hr e0 hR rv hsp => ?_⟩
  obtain ⟨f', cl, c, cs, ef, C, w0, w1⟩ := hR
  cases ef
  obtain ⟨sn, sd, seens, rfl, hsn, ⟨⟨as, ha1, ha2, ha3⟩, ha4⟩, hl, k⟩ := hsp
  obtain ⟨sv, hs1, hs2⟩ := id hsn
  refine clos_call sI_told (fun doc pm ctv us hl => match us, hl with | [_], _ => rfl) hr e0 C rv rfl fun hr1 => ?_
  have X := hide_x C.on
  refine ⟨_, (pss_cons (ps_expr (pe_bm PySem.F.plainAttrs_list PySem.F.slot_list_append PySem.F.type_list_append mt_append (pv 1) (pa_cons (pv 0) pa_nil)))
    (pss_cons (ps_set (i := 4) sI_told.nd rfl (Or.inl rfl) (pe_op op_cat (pe_listRg rfl rfl T.f_list (prg_1 rfl T.f_range (pv 3))) (pe_lst (pa_cons pe_non (pa_cons pe_bl (pa_cons (pv 3) (pa_cons (pe_un un_neg pe_int) (pa_cons pe_str (pa_cons (pe_op op_sub (pv 3) pe_int) pa_nil)))))))))
    (pss_one (ps_ret (pe_ix ix_list (pv 4) (pe_op op_mod (pe_op op_add (pe_op op_add (pv 2) (pe_op op_mul pe_int (pe_ix ix_tup (pv 0) pe_int (fun _ _ => rfl)))) (pe_op op_mul pe_int (pe_ix ix_tup (pv 0) pe_int (fun _ _ => rfl)))) (pe_callB call_len_seq rfl T.f_len (by decide +kernel) (pa_cons (pv 4) pa_nil))) (fun _ _ => rfl)))))), ?_⟩
  have hasked : cs.lookup asked = none := C.on.out ha1 fun c v z => by unfold CellO at z; cases z
  have ha1' : hideC cs H asked = some (.lst (as.map V.ref)) := by
    rw [hide_out hasked]
    exact ha1
  refine ⟨_, rfl, .inl ⟨rfl, _, SqL.of ha1'⟩, _, rfl, asked, _, _, rfl, rfl, ha1', (by rw [List.length_map, ha2, sizeLine_eq]; omega), ?_⟩
  have k1 : Kp [asked] (hideC cs H) (upd (hideC cs H) asked (.lst (as.map V.ref ++ [V.ref sn]))) := Kp.refl.put (by simp) ha1' mvL
  refine ⟨_, rfl, wide, rfl, RgOk.of_le (by decide) (by omega) (by decide) w0, fun p1 hp1 => ?_⟩
  refine ⟨_, rfl, _, rfl, _, rfl, _, _, rfl, rfl, (by show 6 ≤ sizeLine; decide), fun p2 hp2 => ?_⟩
  have n12 : p1 ≠ p2 := ne_of_none upd_same hp2
  refine ⟨p1, p2, _, _, rfl, rfl, by rw [upd_ne n12]; exact upd_same, upd_same, (by rw [rgV_length, sizeLine_eq]; show (wide - 0).toNat + 6 ≤ _; omega), fun p3 hp3 => ?_⟩
  have na1 : asked ≠ p1 := ne_of_none upd_same hp1
  have kk : Kp [asked] (hideC cs H) (upd (upd (upd (upd (hideC cs H) asked (.lst (as.map V.ref ++ [V.ref sn]))) p1 (.lst (rgV 0 wide))) p2 (.lst [.non, .bl true, .int wide, .int (-1), .str "0", .int (wide - 1)])) p3 (.lst (rgV 0 wide ++ [.non, .bl true, .int wide, .int (-1), .str "0", .int (wide - 1)]))) := (((k1.trans (Kp.refl.new hp1)).trans (Kp.refl.new hp2)).trans (Kp.refl.new hp3))
  have hs1' := kk.tup (X.sqt hs1)
  have na2 : asked ≠ p2 := ne_of_none (by rw [upd_ne na1]; exact upd_same) hp2
  have na3 : asked ≠ p3 := ne_of_none (by rw [upd_ne na2, upd_ne na1]; exact upd_same) hp3
  have el : (rgV 0 wide ++ [V.non, .bl true, .int wide, .int (-1), .str "0", .int (wide - 1)]).length = wide.toNat + 6 := by
    rw [List.length_append, rgV_length]
    show (wide - 0).toNat + 6 = _
    omega
  refine ⟨_, rfl, _, rfl, _, rfl, sn, _, _, _, rfl, rfl, hs1', at_nat (by decide) rfl, _, _, rfl, rfl, .inl ⟨by decide, by decide⟩, _, _, rfl, rfl, _, rfl, sn, _, _, _, rfl, rfl, hs1', at_nat (by decide) rfl, _, _, rfl, rfl, .inl ⟨by decide, by decide⟩, _, _, rfl, rfl, _, rfl, p3, _, rfl, .inl (SqL.of upd_same), _, _, rfl, rfl, ?_⟩
  rw [el]
  refine ⟨(by show (0 : Int) < ((wide.toNat + 6 : Nat) : Int); omega), ?_⟩
  have em : (((wide.toNat + 6 : Nat)) : Int) = wide + 6 := by omega
  rw [em]
  have b0 := Int.emod_nonneg (seed + 7 * sd.num + 3 * sd.kept) (show wide + 6 ≠ 0 by omega)
  have b1 := Int.emod_lt_of_pos (seed + 7 * sd.num + 3 * sd.kept) (show 0 < wide + 6 by omega)
  refine ⟨p3, _, _, (ownL wide).getD ((seed + 7 * sd.num + 3 * sd.kept) % (wide + 6)).toNat .non, rfl, rfl, SqL.of upd_same, at_nat b0 ?_, ?_⟩
  · show (ownL wide)[((seed + 7 * sd.num + 3 * sd.kept) % (wide + 6)).toNat]? = _
    have hlt : ((seed + 7 * sd.num + 3 * sd.kept) % (wide + 6)).toNat < (ownL wide).length := by
      show _ < (rgV 0 wide ++ [V.non, .bl true, .int wide, .int (-1), .str "0", .int (wide - 1)]).length
      rw [el]
      omega
    rw [List.getD_eq_getElem?_getD, List.getElem?_eq_getElem hlt]
    rfl
  · have kt := kp_trk C.on kk
    refine k _ kt ⟨⟨as ++ [sn], ?_, by rw [List.length_append, List.length_append, ha2] <;> rfl, fun i a e => ?_⟩, by rw [List.length_append]; simp; omega⟩
    · rw [trk_out hasked, upd_ne na3, upd_ne na2, upd_ne na1, upd_same, List.map_append]
      rfl
    · by_cases hi : i < as.length
      · rw [List.getElem?_append_left hi] at e
        obtain ⟨q, e1, e2⟩ := ha3 i a e
        exact ⟨q, by rw [List.getElem?_append_left (by omega)]; exact e1, kt.x.seen e2⟩
      · have e2 := (List.getElem?_eq_some_iff.mp e).1
        rw [List.length_append] at e2
        simp at e2
        have hi2 : i = as.length := by omega
        subst hi2
        rw [List.getElem?_append_right (Nat.le_refl _), Nat.sub_self] at e
        cases e
        refine ⟨sd, by rw [ha2, List.getElem?_append_right (Nat.le_refl _), Nat.sub_self] <;> rfl, kt.x.seen hsn⟩
set_option maxHeartbeats 16000000 in
theorem c__law_rates_right (T : Tx K mg) : Cal P w K mg base 3 "_law_rates_right" (spRatesR K) := by
  refine mk__law_rates_right T (fun vs H Q E h => ?_) (fun cdv A outer s H vs Q E hr h => ?_)
  · obtain ⟨rn, asv, chv, wide, st, m, rfl, _⟩ := h
    rfl
  · obtain ⟨rn, asv, chv, wide, st, m, rfl, L, w0, w1, l1, R, k⟩ := h
    have hu := hu_of hr
    have hu64 := hr.units
    refine ⟨_, (C8.pss_cut (ps_if (PW.pt (pw_or (pt_cmpR op_ne (pe_callB call_len_seq rfl T.f_len (by decide +kernel) (pa_cons (pe_fld (pv 0) rfl) pa_nil)) (pv 4) (nomark _)) (pw_or1 (PW.pt (pw_and (pt_cmpR op_notN (pv 1) pe_non (nomark _)) (pw_and1 (pt_cmpR (op_neD hu64) (pe_lc (own := [("_law_seen", 5)]) (g := gName 5) rfl sc__law_rates_right.nd (pi_list (pv 1)) (blkOk_by (own := [("_law_seen", 5)]) (N := nN__law_rates_right) (sc := defScope s__law_rates_right) (by decide +kernel)) (fun _ _ _ _ _ => pg_name (i := 5) sc__law_rates_right.nd rfl (Or.inl rfl)) (fun _ _ _ _ _ => pts_nil) (fun _ _ _ _ _ => pe_ix (r := rIxT K) ix_tup (pv 5) pe_int (fun _ _ => rfl))) (pe_listRg rfl rfl T.f_list (prg_1 rfl T.f_range (pv 4))) (nomark _)))))))) (pss_one (ps_ret pe_bl)) pss_nil)
    (pss_cons (ps_if (pt_cmpR op_isN (pv 1) pe_non (nomark _)) (pss_one (ps_ret (pe_cmpR (op_eqD hu64) (pe_lc (own := [("_law_rate", 6)]) (g := gName 6) rfl sc__law_rates_right.nd (pi_tup (pe_fld (pv 0) rfl)) (blkOk_by (own := [("_law_rate", 6)]) (N := nN__law_rates_right) (sc := defScope s__law_rates_right) (by decide +kernel)) (fun _ _ _ _ _ => pg_name (i := 6) sc__law_rates_right.nd rfl (Or.inl rfl)) (fun _ _ _ _ _ => pts_one (pt_cmpR (r := rIn K true) op_notIn_seq (pv 6) (pe_listRg rfl rfl T.f_list (prg_1 rfl T.f_range (pv 3))) (by rfl))) (fun _ _ _ _ _ => pv 6)) (pe_lst pa_nil) (nomark _)))) pss_nil)
    (pss_cons (ps_set (i := 7) sc__law_rates_right.nd rfl (Or.inl rfl) (pe_lst pa_nil))
    (pss_cons (ps_for PassesOwn.never rfl (pi_list (pe_callTy call_list_of rfl T.f_list (by decide +kernel) (pa_cons (pv 1) pa_nil))) (pg_name (i := 5) sc__law_rates_right.nd rfl (Or.inl rfl))
      (pss_cons (ps_set (i := 6) sc__law_rates_right.nd rfl (Or.inl rfl) (pe_callC (i := 2) rfl (Or.inl rfl) (pa_cons (pv 5) pa_nil)))
      (C8.pss_cut (ps_set (i := 8) sc__law_rates_right.nd rfl (Or.inl rfl) (pe_and (pe_callB call_isi rfl T.f_isinstance (by decide +kernel) (pa_cons (pv 6) (pa_cons (pe_bltn (v := .ty "int") rfl T.f_int (by decide +kernel) rfl) pa_nil))) (pe_and (pe_not (pe_callB call_isi rfl T.f_isinstance (by decide +kernel) (pa_cons (pv 6) (pa_cons (pe_bltn (v := .ty "bool") rfl T.f_bool (by decide +kernel) rfl) pa_nil)))) (pe_one (pe_chain op_le op_lt pe_int (pv 6) (pv 3))))))
      (pss_one (ps_expr (pe_bm PySem.F.plainAttrs_list PySem.F.slot_list_append PySem.F.type_list_append mt_append (pv 7) (pa_cons (pe_ifExp (pt_val (pv 8)) (pv 6) pe_int) pa_nil)))))))
    (pss_one (ps_ret (pe_cmpR (op_eqD hu64) (pe_callTy call_list_of rfl T.f_list (by decide +kernel) (pa_cons (pe_fld (pv 0) rfl) pa_nil)) (pv 7) (nomark _)))))))), ?_⟩
    obtain ⟨dx, tr, tb, tw, tp, tss, tk, h0, h1, h2, h3, h4, h5, h6⟩ := L
    refine ⟨fun σ' G' => σ' = [some (.ref rn), some asv, some chv, some (.int wide), some (.int (st.rates.length : Nat)), none, none, none, none] ∧ Kp [] H G', ?_, ?_⟩
    · refine ⟨_, rfl, rn, _, _, _, _, rfl, h0, T.cl_Run, T.n_Run_rates, lookF (i := 0) nd_Run rfl rfl, tr, _, rfl, .inr h1, _, rfl, rfl, _, rfl, ?_⟩
      rw [List.length_map, decide_eq_true rfl]
      refine iteF ⟨_, rfl, rfl, _, rfl, ?_⟩
      cases m with
      | none =>
        obtain ⟨rfl, _⟩ := R
        exact iteF (iteF ⟨rfl, Kp.refl⟩)
      | some q =>
        obtain ⟨sl, asked, seed, pre⟩ := q
        obtain ⟨rfl, ⟨as, a1, a2, a3⟩, R⟩ := R
        refine iteT ⟨_, rfl, sl, rfl, ⟨_, SqL.of a1⟩, fun D hD => ?_⟩
        have R3 := R.2.2.2.2.2
        have R2 := R.2.2.2.2.1
        refine lc_list (K := K) (a := sl) (xs := as.map V.ref) (fun i H2 => Kp [] H H2 ∧ H2 D = some (.lst ((ups i).map V.int))) ⟨Kp.refl.new hD, upd_same⟩ (fun i H2 _ z => SqL.of (z.1.lst (by simp) a1)) ?_ ?_
        · rintro i x H2 hx ⟨kk, hd⟩
          rw [List.getElem?_map] at hx
          cases hb : as[i]? with
          | none => rw [hb] at hx; cases hx
          | some a =>
            rw [hb] at hx
            cases hx
            have hi := (List.getElem?_eq_some_iff.mp hb).1
            obtain ⟨sd, e1, ⟨sv, e2, _⟩⟩ := a3 i a hb
            have en : sd.num = (i : Int) := by
              have := (R3 i (by omega)).2
              rw [List.getD_eq_getElem?_getD, e1] at this
              exact this
            rw [en] at e2
            refine ⟨rfl, _, rfl, a, _, _, _, rfl, rfl, kk.tup e2, at_nat (by decide) rfl, _, hd, ?_, kk.new hD, ?_⟩
            · rw [List.length_map]
              unfold ups
              rw [List.length_map, List.length_range, sizeLine_eq]
              omega
            · rw [upd_same, ups_succ]
        · rintro H2 ⟨kk, hd⟩
          rw [List.length_map] at hd
          refine ⟨_, rfl, _, rfl, RgOk.of_le (by decide) (by omega) (by decide) (by omega), fun p1 hp1 => ?_⟩
          have kp : Kp [] H2 (upd H2 p1 (.lst (rgV 0 (st.rates.length : Nat)))) := Kp.refl.new hp1
          have hd2 := kp.lst (by simp) hd
          refine ne_lists (ns := ups as.length) (SqL.of hd2) (SqL.of ?_) ⟨_, rfl, iteF ⟨rfl, kk.trans kp⟩⟩
          rw [upd_same, rg_ups, a2, R2]
    rintro _ G ⟨rfl, kG⟩
    cases m with
    | none =>
      obtain ⟨rfl, R⟩ := R
      refine ⟨_, rfl, rfl, _, rfl, iteT ?_⟩
      refine ⟨_, rfl, rn, _, _, _, _, rfl, kG.ins (by simp) h0, T.cl_Run, T.n_Run_rates, lookF (i := 0) nd_Run rfl rfl, tr, rfl, ⟨_, kG.tup h1⟩, fun D hD => ?_⟩
      refine lc_tup (K := K) (a := tr) (xs := st.rates.map V.int) (fun i H2 => Kp [] G H2 ∧ H2 D = some (.lst [])) ⟨Kp.refl.new hD, upd_same⟩ (fun i H2 _ z => (kG.trans z.1).tup h1) ?_ ?_
      · rintro i x H2 hx ⟨kk, hd⟩
        rw [List.getElem?_map] at hx
        cases hb : st.rates[i]? with
        | none => rw [hb] at hx; cases hx
        | some b =>
          rw [hb] at hx
          cases hx
          obtain ⟨r0, r1⟩ := R b (List.mem_of_getElem? hb)
          refine ⟨rfl, _, rfl, _, rfl, _, rfl, RgOk.of_le (by decide) (by omega) (by decide) w0, fun p1 hp1 => ?_⟩
          have kp : Kp [] H2 (upd H2 p1 (.lst (rgV 0 wide))) := Kp.refl.new hp1
          refine ⟨p1, _, rfl, .inl (SqL.of upd_same), rfl, flat_rg _, _, rfl, ?_⟩
          rw [in_rg r0 r1]
          exact iteF ⟨kk.trans kp, kp.lst (by simp) hd⟩
      · rintro H2 ⟨kk, hd⟩
        refine ⟨(by show 0 ≤ sizeLine; decide), fun E2 hE2 => ?_⟩
        have kE : Kp [] H2 (upd H2 E2 (.lst [])) := Kp.refl.new hE2
        refine eq_lists (ns := []) (SqL.of (kE.lst (by simp) hd)) (SqL.of upd_same) ?_
        exact k _ ((kG.trans kk).trans kE) True.intro
    | some q =>
      obtain ⟨sl, asked, seed, pre⟩ := q
      obtain ⟨rfl, hA, nsa, hC, hP, hlen, R2, R3⟩ := R
      refine ⟨_, rfl, rfl, _, rfl, iteF ?_⟩
      refine ⟨(by show 0 ≤ sizeLine; decide), fun d hd0 => ?_⟩
      have kd : Kp [] G (upd G d (.lst [])) := Kp.refl.new hd0
      have hA1 := hA.kp (kG.trans kd).toN (by simp)
      obtain ⟨as, a1, a2, a3⟩ := hA1
      refine ⟨_, rfl, sl, _, rfl, .inl (SqL.of a1), fun s2 hs2 => ?_⟩
      have ks : Kp [] (upd G d (.lst [])) (upd (upd G d (.lst [])) s2 (.lst (as.map V.ref))) := Kp.refl.new hs2
      obtain ⟨G1, eG1⟩ : ∃ G1, G1 = upd (upd G d (.lst [])) s2 (.lst (as.map V.ref)) := ⟨_, rfl⟩
      rw [← eG1] at ks
      have hs1 : G1 s2 = some (.lst (as.map V.ref)) := by rw [eG1]; exact upd_same
      have hd1 : G1 d = some (.lst []) := ks.lst (by simp) upd_same
      have nds : d ≠ s2 := ne_of_none upd_same hs2
      have kG1 : Kp [] H G1 := (kG.trans kd).trans ks
      have hP1 := hP.kp kG1.toN (by simp)
      obtain ⟨asP, ap1, _⟩ := id hP.1
      have nsk : asked ≠ s2 := by
        have z := (kG.trans kd).lst (S := []) (by simp) ap1
        exact ne_of_none z hs2
      have ndk : asked ≠ d := ne_of_none (kG.lst (S := []) (by simp) ap1) hd0
      rw [← eG1]
      refine ⟨s2, rfl, ⟨_, SqL.of hs1⟩, ?_⟩
      refine for_list (K := K) (a := s2) (xs := as.map V.ref) (fun i σ G2 => ∃ v5 v6 v8 : Option V, σ = [some (.ref rn), some (.ref sl), some chv, some (.int wide), some (.int (st.rates.length : Nat)), v5, v6, some (.ref d), v8] ∧ Kp [asked, d] G1 G2 ∧ Kp [asked] H G2 ∧ AskP K G2 asked (.own seed wide) (pre ++ st.seens.take i) ∧ G2 d = some (.lst ((st.rates.take i).map V.int)))
        ⟨none, none, none, rfl, Kp.refl, kG1.mono (by simp), by simpa using hP1, hd1⟩ (fun i σ G2 _ z => ?_) ?_ ?_
      · obtain ⟨_, _, _, _, z, _⟩ := z
        exact SqL.of (z.lst (by simp [nsk.symm, nds.symm]) hs1)
      · rintro i x σ G2 hx ⟨v5, v6, v8, rfl, z1, z2, z3, z4⟩
        rw [List.getElem?_map] at hx
        cases hb : as[i]? with
        | none => rw [hb] at hx; cases hx
        | some a =>
          rw [hb] at hx
          cases hx
          have hi := (List.getElem?_eq_some_iff.mp hb).1
          obtain ⟨sd, e1, e2⟩ := a3 i a hb
          have hse : st.seens.getD i default = sd := by
            rw [List.getD_eq_getElem?_getD, e1]
            rfl
          obtain ⟨er, en⟩ := R3 i (by omega)
          rw [hse] at er en
          have e2' := z1.x.seen (ks.x.seen e2)
          have hC2 := hC.kp z2.toN
          obtain ⟨f, cl, c, cs, rfl, hCl, hC3⟩ := id hC2
          have tl : (pre ++ st.seens.take i).length < 100000 := by
            rw [List.length_append, List.length_take]
            omega
          refine ⟨f, _, 1, _, _, rfl, hCl.fn, call_ownO T f asked seed wide, hr.mono (by decide), _, rfl, hCl.fn, hC2, a, sd, _, rfl, e2', z3, tl, fun G3 k3 hP3 => ?_⟩
          have y1 : Kp [asked, d] G1 G3 := z1.trans (k3.mono (by simp))
          have y2 : Kp [asked] H G3 := z2.trans k3
          have y4 := k3.lst (by simp [ndk.symm]) z4
          have ev : tellV (.own seed wide) sd = tellV (.own seed wide) sd := rfl
          have fl := flat_tell (.own seed wide) sd
          generalize htv : tellV (.own seed wide) sd = tv at fl er
          refine ⟨fun σ' G4 => σ' = [some (.ref rn), some (.ref sl), some (.ref f), some (.int wide), some (.int (st.rates.length : Nat)), some (.ref a), some tv, some (.ref d), some (.bl (isRate wide tv))] ∧ G4 = G3, ?_, ?_⟩
          · rcases fl with ⟨v, rfl⟩ | rfl | ⟨b, rfl⟩ | ⟨x, rfl⟩
            · refine ⟨_, rfl, _, _, _, _, true, rfl, .ty "int", .base (.int v), kit_ty (by decide +kernel), _, rfl, iteT ⟨_, rfl, _, _, _, _, false, rfl, .ty "bool", .base (.int v), kit_ty (by decide +kernel), _, rfl, _, rfl, iteT ⟨_, rfl, _, _, rfl, rfl, _, rfl, ?_⟩⟩⟩
              by_cases g0 : 0 ≤ v
              · rw [decide_eq_true g0]
                refine iteT ⟨_, rfl, _, _, rfl, rfl, ?_, rfl⟩
                have e : isRate wide (.int v) = decide (v < wide) := by
                  show (decide (0 ≤ v) && decide (v < wide)) = _
                  rw [decide_eq_true g0]
                  rfl
                rw [e]
                rfl
              · rw [decide_eq_false g0]
                refine iteF ⟨?_, rfl⟩
                have e : isRate wide (.int v) = false := by
                  show (decide (0 ≤ v) && decide (v < wide)) = _
                  rw [decide_eq_false g0]
                  rfl
                rw [e]
                rfl
            · exact ⟨_, rfl, _, _, _, _, false, rfl, .ty "int", .base .non, kit_ty (by decide +kernel), _, rfl, iteF ⟨rfl, rfl⟩⟩
            · exact ⟨_, rfl, _, _, _, _, true, rfl, .ty "int", .base (.bl b), kit_ty (by decide +kernel), _, rfl, iteT ⟨_, rfl, _, _, _, _, true, rfl, .ty "bool", .base (.bl b), kit_ty (by decide +kernel), _, rfl, _, rfl, iteF ⟨rfl, rfl⟩⟩⟩
            · exact ⟨_, rfl, _, _, _, _, false, rfl, .ty "int", .base (.str x), kit_ty (by decide +kernel), _, rfl, iteF ⟨rfl, rfl⟩⟩
          rintro _ G4 ⟨rfl, rfl⟩
          have fin : ∃ v5 v6 v8 : Option V, [some (V.ref rn), some (.ref sl), some (.ref f), some (.int wide), some (.int (st.rates.length : Nat)), some (.ref a), some tv, some (.ref d), some (.bl (isRate wide tv))] = [some (.ref rn), some (.ref sl), some (.ref f), some (.int wide), some (.int (st.rates.length : Nat)), v5, v6, some (.ref d), v8] ∧ Kp [asked, d] G1 (upd G4 d (.lst ((st.rates.take i).map V.int ++ [.int (rateOf wide tv)]))) ∧ Kp [asked] H (upd G4 d (.lst ((st.rates.take i).map V.int ++ [.int (rateOf wide tv)]))) ∧ AskP K (upd G4 d (.lst ((st.rates.take i).map V.int ++ [.int (rateOf wide tv)]))) asked (.own seed wide) (pre ++ st.seens.take (i + 1)) ∧ upd G4 d (.lst ((st.rates.take i).map V.int ++ [.int (rateOf wide tv)])) d = some (.lst ((st.rates.take (i + 1)).map V.int)) := by
            have kq : Kp [d] G4 (upd G4 d (.lst ((st.rates.take i).map V.int ++ [.int (rateOf wide tv)]))) := Kp.refl.put (by simp) y4 mvL
            refine ⟨_, _, _, rfl, y1.trans (kq.mono (by simp)), y2.new ?_, ?_, ?_⟩
            · exact kG.none hd0 (by simp)
            · have : pre ++ st.seens.take (i + 1) = pre ++ st.seens.take i ++ [sd] := by
                rw [List.take_succ, e1, List.append_assoc]
                rfl
              rw [this]
              exact hP3.kp kq.toN (fun _ => by simp [ndk])
            · rw [upd_same, RPm.take_snoc (by omega), List.map_append, er]
              rfl
          have hsz : ((st.rates.take i).map V.int).length < sizeLine := by
            rw [List.length_map, List.length_take, sizeLine_eq]
            omega
          refine ⟨_, rfl, .inl ⟨rfl, _, SqL.of y4⟩, _, rfl, _, rfl, ?_⟩
          by_cases hrt : isRate wide tv = true
          · rw [hrt]
            obtain ⟨v, rfl⟩ : ∃ v, tv = .int v := by
              rcases fl with ⟨v, rfl⟩ | rfl | ⟨b, rfl⟩ | ⟨x, rfl⟩
              · exact ⟨v, rfl⟩
              · cases hrt
              · cases hrt
              · cases hrt
            have ef : rateOf wide (.int v) = v := if_pos hrt
            rw [ef, hrt] at fin
            exact iteT ⟨_, rfl, d, _, _, rfl, rfl, y4, hsz, fin⟩
          · have hrf : isRate wide tv = false := by
              cases q : isRate wide tv with
              | false => rfl
              | true => exact absurd q hrt
            rw [hrf]
            have ef : rateOf wide tv = 0 := by
              cases tv with
              | int v => exact if_neg hrt
              | _ => rfl
            rw [ef, hrf] at fin
            exact iteF ⟨d, _, _, rfl, rfl, y4, hsz, fin⟩
      · rintro σ G2 ⟨v5, v6, v8, rfl, z1, z2, z3, z4⟩
        rw [List.length_map, a2] at z3 z4
        rw [List.take_length] at z3
        rw [R2, List.take_length] at z4
        refine ⟨_, rfl, rn, _, _, _, _, rfl, z2.ins ?_ h0, T.cl_Run, T.n_Run_rates, lookF (i := 0) nd_Run rfl rfl, tr, _, rfl, .inr (z2.tup h1), fun l hl => ?_⟩
        · intro z
          rw [List.mem_singleton] at z
          rw [z, ap1] at h0
          cases h0
        have kl : Kp [] G2 (upd G2 l (.lst (st.rates.map V.int))) := Kp.refl.new hl
        refine ⟨_, rfl, eq_lists (SqL.of upd_same) (SqL.of (kl.lst (by simp) z4)) ?_⟩
        exact k _ (z2.trans (kl.mono (by simp))) (z3.kp kl.toN (by simp))
end
end K76


set_option Elab.async false
set_option linter.all false
set_option maxRecDepth 100000
set_option maxHeartbeats 4000000
/-! Runs are alike. -/
namespace K76
open PySem PySem.Spec PyProof.Rows L2 LamX NdefX
open RPm (Cfg Std)
theorem isC_Run {K : PySem.W.Frag} {mg : Str → Option Value} (T : Tx K mg) : C8.InsC K (cRun K) := by
  have e := T.ex
  have e1 := (He.ba (He.ba e).2).2
  exact ⟨T.cl_Run, He.eqO_ok (He.ba e1).1, He.eqO_ok (He.ba (He.ba e1).2).1, of_decide_eq_true (He.ba (He.ba (He.ba e1).2).2).1, of_decide_eq_true (He.ba (He.ba (He.ba (He.ba e1).2).2).2).1, of_decide_eq_true (He.ba (He.ba (He.ba (He.ba (He.ba e1).2).2).2).2).1⟩
def dTold (st : RPm.St) : PyData := .tuple [.tuple (st.rates.map PyData.int), .tuple (st.begun.map PyData.int), .tuple (st.whole.map PyData.int), .tuple (st.plays.map PyData.int), .tuple (dRows (prs st.stalls)), .int st.beat, .tuple (st.kepts.map PyData.int)]
theorem shapedTold (st : RPm.St) : SeqAt.shaped (dTold st) = true := by
  have d1 := PySem.W.depthAll_ints st.rates
  have d2 := PySem.W.depthAll_ints st.begun
  have d3 := PySem.W.depthAll_ints st.whole
  have d4 := PySem.W.depthAll_ints st.plays
  have d5 := depthRows (prs st.stalls)
  have d6 := PySem.W.depthAll_ints st.kepts
  show (PyData.canLay0 (dTold st) && decide (PyData.depth (dTold st) ≤ 64)) = true
  rw [Bool.and_eq_true]
  refine ⟨?_, decide_eq_true ?_⟩
  · simp only [dTold, PyData.canLay0, PyData.canLayAll0, PySem.W.canLayAll0_ints, canRows, Bool.and_self]
  · simp only [dTold, PyData.depth, PyData.depthAll]
    omega
theorem dpTold {K : PySem.W.Frag} {H : Hp} {q tr tb tw tp ts tk : Addr} {st : RPm.St} (hq : SqT K H q [.ref tr, .ref tb, .ref tw, .ref tp, .ref ts, .int st.beat, .ref tk]) (h1 : SqT K H tr (st.rates.map V.int)) (h2 : SqT K H tb (st.begun.map V.int)) (h3 : SqT K H tw (st.whole.map V.int)) (h4 : SqT K H tp (st.plays.map V.int)) (h5 : TupsAt K H ts (prs st.stalls)) (h6 : SqT K H tk (st.kepts.map V.int)) : Dp K H (.ref q) (dTold st) := by
  obtain ⟨as, t1, t2, t3⟩ := h5
  exact .tup hq (.cons (.tup h1 (dpI _)) (.cons (.tup h2 (dpI _)) (.cons (.tup h3 (dpI _)) (.cons (.tup h4 (dpI _)) (.cons (.tup t1 (dpRows ⟨t2, t3⟩)) (.cons (.int _) (.cons (.tup h6 (dpI _)) .nil)))))))
def AlikeR (K : PySem.W.Frag) (a b : Addr) (H : Hp) : Prop := ∃ st, RunAt K H a st ∧ RunAt K H b st
section
variable {P : Program} {w : World} {K : PySem.W.Frag} {mg : Str → Option Value} {base : Heap}
theorem c_Run_eq (T : Tx K mg) : Met P w K mg base 2 (cRun K) "__eq__" (spEq (AlikeR K)) := by
  have c_all_told : Met P w K mg base 1 (cRun K) "all_told" (spAllTold K) := c_all_told T
  refine mk_Run_eq T (fun vs H Q E h => ?_) (fun cdv A outer s H vs Q E hr h => ?_)
  · obtain ⟨a, b, rfl, _⟩ := h
    rfl
  · obtain ⟨a, b, rfl, ⟨st, ha, hb⟩, k⟩ := h
    have hu64 := hr.units
    refine ⟨_, (pss_one (ps_ret (pe_and (pe_callB (C8.call_isC (isC_Run T)) rfl T.f_isinstance (by decide +kernel) (pa_cons (pv 1) (pa_cons (pe_glob (v := .ref (He.ga K "Run")) rfl T.g_Run rfl) pa_nil))) (pe_one (pe_cmpR (op_eqD hu64) (pe_mt0 c_all_told hr (by decide) (pv 0)) (pe_mt0 c_all_told hr (by decide) (pv 1)) (nomark _)))))), ?_⟩
    obtain ⟨dx, tr, tb, tw, tp, ts, tk, h0, h1, h2, h3, h4, h5, h6⟩ := id ha
    obtain ⟨dy, ur, ub, uw, up, us, uk, g0, g1, g2, g3, g4, g5, g6⟩ := id hb
    refine ⟨_, rfl, b, dy, _, rfl, g0, _, rfl, iteT ?_⟩
    refine ⟨_, rfl, a, dx, _, rfl, h0, lookNo (by decide +kernel), a, dx, _, rfl, rfl, h0, fun q hq => ?_⟩
    have k1 : Kp [] H (upd H q (.tup [.ref tr, .ref tb, .ref tw, .ref tp, .ref ts, .int st.beat, .ref tk])) := Kp.refl.new hq
    have g0' := k1.ins (by simp) g0
    refine ⟨_, rfl, b, dy, _, rfl, g0', lookNo (by decide +kernel), b, dy, _, rfl, rfl, g0', fun q2 hq2 => ?_⟩
    have k2 : Kp [] (upd H q (.tup [.ref tr, .ref tb, .ref tw, .ref tp, .ref ts, .int st.beat, .ref tk])) (upd (upd H q (.tup [.ref tr, .ref tb, .ref tw, .ref tp, .ref ts, .int st.beat, .ref tk])) q2 (.tup [.ref ur, .ref ub, .ref uw, .ref up, .ref us, .int st.beat, .ref uk])) := Kp.refl.new hq2
    have k12 := k1.trans k2
    refine ⟨dTold st, dTold st, dpTold (k2.tup (SqT.of upd_same)) (k12.tup h1) (k12.tup h2) (k12.tup h3) (k12.tup h4) (TupsAt.kp h5 k12.toN) (k12.tup h6), dpTold (SqT.of upd_same) (k12.tup g1) (k12.tup g2) (k12.tup g3) (k12.tup g4) (TupsAt.kp g5 k12.toN) (k12.tup g6), shapedTold st, shapedTold st, ?_⟩
    have e : PyData.eqv (dTold st) (dTold st) = true := SeqAt.eqv_refl _ (SeqAt.canLay_of_shaped (shapedTold st))
    rw [e]
    exact k _ k12.toSame
end
/-- one run == another one that is alike -/
theorem op_eqRun {X : Cx} {n : Nat} (T : Tx X.K X.mg) (hr : Room n X.A) (hn : 2 ≤ n) : OpR X (compareOp .Eq) (rEqG (DIns (cRun X.K) (AlikeR X.K))) := by
  obtain ⟨f, fd, ps, hc, hm, F, b⟩ := (c_Run_eq (P := X.prog) (w := X.w) (base := X.base) T).ex
  exact op_eqG (rcG_ins (E := E0) F hm.at_ hm.fn b pass00) (hr.mono hn)
end K76


set_option Elab.async false
set_option linter.all false
set_option maxRecDepth 100000
set_option maxHeartbeats 4000000
/-! The given numbers are fit for the walk. -/
namespace RPm
/-- behind all pieces the last speed stays -/
theorem spd_late {z : Int} : ∀ {ps : List (Int × Int)} {b : Int}, (∀ p ∈ ps, 1 ≤ p.1 ∧ p.1 ≤ 50) → 50 * (ps.length : Int) ≤ b → spd z ps b = z
  | [], _, _, _ => rfl
  | p :: r, b, h, hb => by
    have h1 := h p List.mem_cons_self
    rw [List.length_cons] at hb
    show (if b < p.1 then p.2 else spd z r (b - p.1)) = z
    rw [if_neg (by omega)]
    exact spd_late (fun q hq => h q (List.mem_cons_of_mem _ hq)) (by omega)
end RPm


set_option Elab.async false
set_option linter.all false
set_option maxRecDepth 100000
set_option maxHeartbeats 4000000
/-! What is given to the walk is fit. -/
namespace K76
open PySem PySem.Spec PyProof.Rows L2 LamX NdefX
open RPm (Cfg Std)
def cfgOf (lens : List Int) (sizes : List (List Int)) (qs : List (Int × Int)) (n0 z b a m wt : Int) (ops : Option (List Int)) (ch : Ch) (wide : Nat) : Cfg := ⟨lens, sizes, qs ++ [(n0, z)], z, b, a, m, wt, ops, pick ch (wide : Int)⟩
def ChOk (n wide : Nat) : Ch → Prop
  | .plan ps => n ≤ ps.length ∧ ∀ x ∈ ps, 0 ≤ x ∧ x < (wide : Int)
  | .own _ wd => wd = (wide : Int)
  | .rl r => n ≤ r.n
  | .calm r => n ≤ r.n
structure GivN (lens : List Int) (sizes : List (List Int)) (qs : List (Int × Int)) (n0 z : Int) (wide : Nat) : Prop where
  tk : TalkOk lens sizes
  wd : ∀ x ∈ sizes, x.length = wide
  w1 : 1 ≤ wide
  w4 : wide ≤ 4
  rb : ∀ p ∈ qs ++ [(n0, z)], 1 ≤ p.1 ∧ p.1 ≤ 50 ∧ 0 ≤ p.2 ∧ p.2 ≤ 1000
  rl : (qs ++ [(n0, z)]).length ≤ 12
  z8 : 8 ≤ z
theorem pick_rng {n wide : Nat} {ch : Ch} (h : ChOk n wide ch) (hw : 1 ≤ wide) (s : RPm.Seen) : 0 ≤ pick ch (wide : Int) s ∧ pick ch (wide : Int) s < (wide : Int) := by
  have rt : ∀ v, 0 ≤ rateOf (wide : Int) v ∧ rateOf (wide : Int) v < (wide : Int) := fun v => by
    cases v with
    | int i =>
      by_cases hi : isRate (wide : Int) (.int i) = true
      · have e : rateOf (wide : Int) (.int i) = i := if_pos hi
        have hi2 : (decide (0 ≤ i) && decide (i < (wide : Int))) = true := hi
        rw [Bool.and_eq_true, decide_eq_true_eq, decide_eq_true_eq] at hi2
        rw [e]
        exact hi2
      · have e : rateOf (wide : Int) (.int i) = 0 := if_neg hi
        rw [e]
        omega
    | _ =>
      show 0 ≤ (0 : Int) ∧ (0 : Int) < (wide : Int)
      omega
  cases ch with
  | plan ps =>
    show 0 ≤ ps.getD s.num.toNat 0 ∧ ps.getD s.num.toNat 0 < (wide : Int)
    by_cases hk : s.num.toNat < ps.length
    · exact h.2 _ (RPm.getD_mem hk)
    · rw [List.getD_eq_getElem?_getD, List.getElem?_eq_none (by omega)]
      show 0 ≤ (0 : Int) ∧ (0 : Int) < (wide : Int)
      omega
  | own seed wd => exact rt _
  | rl r => exact rt (tellV (.rl r) s)
  | calm r => exact rt (tellV (.calm r) s)
theorem sum_nn : ∀ {l : List Int}, (∀ x ∈ l, 0 ≤ x) → 0 ≤ l.sum
  | [], _ => by simp
  | a :: r, h => by
    have h1 := h a List.mem_cons_self
    have h2 := sum_nn fun x hx => h x (List.mem_cons_of_mem _ hx)
    rw [List.sum_cons]
    omega
section
variable {lens : List Int} {sizes : List (List Int)} {qs : List (Int × Int)} {n0 z b a m wt : Int} {wide : Nat} {ops : Option (List Int)} {ch : Ch}
theorem cfg_ok (G : GivN lens sizes qs n0 z wide) (O : OptOk lens b a m wt ops) (C : ChOk lens.length wide ch) : RPm.CfgOk (cfgOf lens sizes qs n0 z b a m wt ops ch wide) (wide : Int) where
  ln0 := G.tk.l0
  ln1 := G.tk.l1
  lb := G.tk.lb
  sb := fun n r h0 h1 h2 h3 => by
    show 1 ≤ (sizes.getD n.toNat []).getD r.toNat 0 ∧ (sizes.getD n.toNat []).getD r.toNat 0 ≤ 300
    have hl : n.toNat < sizes.length := by
      have := G.tk.sl
      have h1 : n < (lens.length : Int) := h1
      omega
    have hm := RPm.getD_mem (d := []) hl
    have hw := G.wd _ hm
    exact G.tk.sb _ hm _ (RPm.getD_mem (by omega))
  rd := ⟨by show 0 ≤ z; have := G.z8; omega, fun p hp => by have := G.rb p hp; exact ⟨this.1, this.2.2.1⟩⟩
  z1 := by
    show 1 ≤ z
    have := G.z8
    omega
  late := fun x hx => by
    show 1 ≤ RPm.spd z (qs ++ [(n0, z)]) x
    have := G.z8
    have h2 := G.rl
    rw [RPm.spd_late (fun p hp => ⟨(G.rb p hp).1, (G.rb p hp).2.1⟩) (by omega)]
    omega
  bg := O.b0
  ag := O.a0
  mo := O.m0
  w0 := O.w0
  w1 := O.w1
  op := fun os e k => by
    have h := (O.o os e).2
    by_cases hk : k < os.length
    · exact (h _ (RPm.getD_mem hk)).2
    · rw [List.getD_eq_getElem?_getD, List.getElem?_eq_none (by omega)]
      show (0 : Int) ≤ 360
      omega
  pk := fun s => pick_rng C G.w1 s
theorem run_in {K : PySem.W.Frag} {H : Hp} {t r asked : Addr} {chv : V} {pre : List RPm.Seen} (G : GivN lens sizes qs n0 z wide) (O : OptOk lens b a m wt ops) (C : ChOk lens.length wide ch) (hT : TalkAt K H t lens sizes) (hR : RoadAt K H r (qs ++ [(n0, z)])) (hC : ChAt K H asked chv ch) (hA : AskP K H asked ch pre) (hp : pre.length ≤ 1000) :
    ∃ row rest, sizes = row :: rest ∧ row.length = wide ∧ RunIn K H t r asked chv (cfgOf lens sizes qs n0 z b a m wt ops ch wide) ch row rest qs n0 z pre := by
  have ok := cfg_ok G O C
  have hsl := G.tk.sl
  have hl0 := G.tk.l0
  have hl1 := G.tk.l1
  cases hs : sizes with
  | nil =>
    rw [hs] at hsl
    simp at hsl
    omega
  | cons row rest =>
    have hw : row.length = wide := G.wd row (by rw [hs]; exact List.mem_cons_self)
    have tot := RPm.total_le ok
    have t0 : 0 ≤ (cfgOf lens sizes qs n0 z b a m wt ops ch wide).total := sum_nn fun x hx => by
      have := G.tk.lb x hx
      omega
    have z8 := G.z8
    have m1 := O.m1
    rw [← hs]
    refine ⟨row, rest, hs, hw, ⟨hT, hl1, hsl, t0, by omega⟩, by rw [hw]; exact ok, ⟨hR, G.rb, by omega⟩, rfl, rfl, fun os e => (O.o os e).1, hs, fun x hx => by rw [hw]; exact G.wd x hx, by rw [hw] <;> rfl, hC, hA, by show m ≤ 1000; omega, ?_, fun ps e => ?_, hp⟩
    · show lens.length ≤ ch.n
      cases ch with
      | plan ps =>
        show lens.length ≤ 1000000
        omega
      | own seed wd =>
        show lens.length ≤ 1000000
        omega
      | rl r => exact C
      | calm r => exact C
    · subst e
      exact C.1
end
end K76


set_option Elab.async false
set_option linter.all false
set_option maxRecDepth 100000
set_option maxHeartbeats 4000000
/-! The law's look at one chooser. -/
namespace K76
open PySem PySem.Spec PyProof.Rows L2 LamX NdefX
open RPm (Cfg Std)
def ord1 {α : Type} : List α → List α
  | [o, b, w, m, a] => [b, a, m, w, o]
  | l => l
theorem vals_ord1 : ∀ {zs : List V} {ws : List Value}, Vals zs ws → Vals (ord1 zs) (ord1 ws)
  | _, _, .nil => .nil
  | _, _, .cons a .nil => .cons a .nil
  | _, _, .cons a (.cons b .nil) => .cons a (.cons b .nil)
  | _, _, .cons a (.cons b (.cons c .nil)) => .cons a (.cons b (.cons c .nil))
  | _, _, .cons a (.cons b (.cons c (.cons d .nil))) => .cons a (.cons b (.cons c (.cons d .nil)))
  | _, _, .cons o (.cons b (.cons w (.cons m (.cons a .nil)))) => .cons b (.cons a (.cons m (.cons w (.cons o .nil))))
  | _, _, .cons a (.cons b (.cons c (.cons d (.cons e (.cons f r))))) => .cons a (.cons b (.cons c (.cons d (.cons e (.cons f r)))))
abbrev kwRun : List (Str × V) := [("begin", V.int 4), ("again", V.int 8), ("most", V.int 30), ("wait", V.int 0), ("opens", V.non)]
theorem kb_run1 {K : PySem.W.Frag} {fd : FuncData} (F : FnP K "run_of" "run_of" s_run_of kwRun (He.ga K "run_of") fd) :
    ∃ g, KBn K fd ["talk", "road", "chooser", "begin", "again", "most", "wait", "opens"] 3 ["opens", "begin", "wait", "most", "again"] g (fun vs zs => vs ++ ord1 zs) := by
  obtain ⟨mv, kb⟩ := F.kbinds0 (ps := ["talk", "road", "chooser", "begin", "again", "most", "wait", "opens"]) 3 ["opens", "begin", "wait", "most", "again"] [] (fun vs _ zs => vs ++ ord1 zs) (by simp) (by simp) (fun h1 _ h3 => h1.append (vals_ord1 h3)) (fun D doc pm an cdv ct us mv ws h1 h2 h3 => match us, ws, h1, h3 with | [_, _, _], [_, _, _, _, _], _, _ => rfl)
  exact ⟨_, kb⟩
theorem kb_run2 {K : PySem.W.Frag} {fd : FuncData} (F : FnP K "run_of" "run_of" s_run_of kwRun (He.ga K "run_of") fd) :
    ∃ g, KBn K fd ["talk", "road", "chooser", "begin", "again", "most", "wait", "opens"] 3 ["begin", "again", "most", "wait", "opens"] g (fun vs zs => vs ++ zs) := by
  obtain ⟨mv, kb⟩ := F.kbinds0 (ps := ["talk", "road", "chooser", "begin", "again", "most", "wait", "opens"]) 3 ["begin", "again", "most", "wait", "opens"] [] (fun vs _ zs => vs ++ zs) (by simp) (by simp) (fun h1 _ h3 => h1.append h3) (fun D doc pm an cdv ct us mv ws h1 h2 h3 => match us, ws, h1, h3 with | [_, _, _], [_, _, _, _, _], _, _ => rfl)
  exact ⟨_, kb⟩
def ord3 {α : Type} : List α → List α → List α
  | [b, a, w, o], [m] => [b, a, m, w, o]
  | _, l => l
theorem kb_run3 {K : PySem.W.Frag} {fd : FuncData} (F : FnP K "run_of" "run_of" s_run_of kwRun (He.ga K "run_of") fd) :
    ∃ g, KBn K fd ["talk", "road", "chooser", "begin", "again", "most", "wait", "opens"] 3 ["most"] g (fun vs zs => vs ++ ord3 [V.int 4, V.int 8, V.int 0, V.non] zs) := by
  obtain ⟨mv, kb⟩ := F.kbinds0 (ps := ["talk", "road", "chooser", "begin", "again", "most", "wait", "opens"]) 3 ["most"] [("begin", V.int 4), ("again", V.int 8), ("wait", V.int 0), ("opens", V.non)] (fun vs mz zs => vs ++ ord3 mz zs) (by simp) (by simp) (fun {vs mz zs us mv ws} h1 h2 h3 => h1.append (by
    match mz, mv, zs, ws, h2, h3 with
    | [_, _, _, _], _, [_], _, .cons a (.cons b (.cons c (.cons d .nil))), .cons m .nil => exact .cons a (.cons b (.cons m (.cons c (.cons d .nil))))
    | [], _, _, _, .nil, h => exact h
    | [_], _, _, _, .cons _ .nil, h => exact h
    | [_, _], _, _, _, .cons _ (.cons _ .nil), h => exact h
    | [_, _, _], _, _, _, .cons _ (.cons _ (.cons _ .nil)), h => exact h
    | [_, _, _, _], _, [], _, .cons a (.cons b (.cons c (.cons d .nil))), .nil => exact .nil
    | [_, _, _, _], _, _ :: _ :: _, _, .cons a (.cons b (.cons c (.cons d .nil))), .cons m (.cons n r) => exact .cons m (.cons n r)
    | _ :: _ :: _ :: _ :: _ :: _, _, _, _, .cons a (.cons b (.cons c (.cons d (.cons e r)))), h => exact h)) (fun D doc pm an cdv ct us mv ws h1 h2 h3 => match us, mv, ws, h1, h2, h3 with | [_, _, _], [_, _, _, _], [_], _, _, _ => ⟨_, _, _, _, _, _, rfl, rfl, _, _, _, _, _, _, rfl, rfl, _, _, _, _, _, _, rfl, rfl, _, _, _, _, _, _, rfl, rfl, rfl⟩)
  exact ⟨_, kb⟩
end K76


set_option Elab.async false
set_option linter.all false
set_option maxRecDepth 100000
set_option maxHeartbeats 4000000
/-! The law's look at one chooser: the walk. -/
namespace K76
open PySem PySem.Spec PyProof.Rows L2 LamX NdefX
open RPm (Cfg Std)
def AskM (K : PySem.W.Frag) (H : Hp) (asked : Addr) (asv : V) (ch : Ch) (wide : Nat) : Prop := AskP K H asked ch [] ∧ (asv = .non ∨ ∃ seed, ch = .own seed (wide : Int) ∧ asv = .ref asked)
structure RightIn (K : PySem.W.Frag) (H : Hp) (p r op asked : Addr) (chv asv : V) (lens : List Int) (sizes : List (List Int)) (qs : List (Int × Int)) (n0 z b a m wt : Int) (ops : Option (List Int)) (wide : Nat) (ch : Ch) : Prop where
  g : GivN lens sizes qs n0 z wide
  o : OptOk lens b a m wt ops
  c : ChOk lens.length wide ch
  row : RowAt K H p (cfgOf lens sizes qs n0 z b a m wt ops ch wide)
  road : RoadAt K H r (qs ++ [(n0, z)])
  opt : OptAt K H op b a m wt ops
  cat_ : ChAt K H asked chv ch
  ask : AskM K H asked asv ch wide
def spRight (K : PySem.W.Frag) : Sp := fun vs H Q _ => ∃ (p r op asked : Addr) (chv asv : V) (lens : List Int) (sizes : List (List Int)) (qs : List (Int × Int)) (n0 z b a m wt : Int) (ops : Option (List Int)) (wide : Nat) (ch : Ch),
  vs = [.ref p, .ref r, chv, .ref op, asv] ∧ RightIn K H p r op asked chv asv lens sizes qs n0 z b a m wt ops wide ch ∧ ∀ H', Kp (askS asked ch) H H' → Q (.bl true) H'
section
variable {P : Program} {w : World} {K : PySem.W.Frag} {mg : Str → Option Value} {base : Heap}
theorem mkG__law_right {k : Nat} {sp : Sp} (T : Tx K mg) (len : ∀ vs H Q E, sp vs H Q E → vs.length = 5)
    (hbody : ∀ (cdv : Value) (A : Around) (outer : List Env) (s : Shared) (H : Hp) (vs : List V) (Q : VK) (E : XK), (A.deeper (envOfC "_law_right" (defScope s__law_right) s.heap.objs.size (He.ga K "_law_right") cdv)).guards = some [] → Room k (A.deeper (envOfC "_law_right" (defScope s__law_right) s.heap.objs.size (He.ga K "_law_right") cdv)) → sp vs H Q E →
      ∃ t, PSs (cxOf CX0 P w K mg base nN__law_right "_law_right" (defScope s__law_right) (He.ga K "_law_right") cdv A outer s H E).nox (defBody s__law_right) t ∧ t { nx := fun _ H' => Q .non H', rt := Q } (start nN__law_right vs) H) : CalG P w K mg base (k + 1) "_law_right" sp := by
  obtain ⟨fd, F⟩ := D__law_right T
  exact ⟨_, fd, ["_law_row", "_law_road_here", "_law_chooser", "_law_options_here", "_law_asked"], okG F sc__law_right len fun cdv A outer s H vs Q E hg hr h => let ⟨t, h1, h2⟩ := hbody cdv A outer s H vs Q E hg hr h; ⟨t, h1.nox, h2⟩, T.g__law_right, F.kp, F.bindsN fun _ _ _ _ _ _ us hl => match us, hl with | [_, _, _, _, _], _ => rfl⟩
set_option maxHeartbeats 16000000 in
theorem c__law_right (T : Tx K mg) : CalG P w K mg base 7 "_law_right" (spRight K) := by
  have c_Talk : Mak P w K mg base 1 "Talk" (spInit (cTalk K) kTalk) := c_Talk T
  have c_rates : Cal P w K mg base 3 "_law_rates_right" (spRatesR K) := c__law_rates_right T
  have c_fetched : Cal P w K mg base 2 "_law_fetched_right" (spFetR K) := c__law_fetched_right T
  have c_played : Cal P w K mg base 3 "_law_played_right" (spPlayR K) := c__law_played_right T
  have c_stalls : CalG P w K mg base 3 "_law_stalls_right" (spStallR K) := c__law_stalls_right T
  obtain ⟨fdR, FR, GR⟩ := c_run_of (P := P) (w := w) (base := base) T
  obtain ⟨g1, kb1⟩ := kb_run1 FR
  obtain ⟨g2, kb2⟩ := kb_run2 FR
  refine mkG__law_right T (fun vs H Q E h => ?_) (fun cdv A outer s H vs Q E hg hr h => ?_)
  · obtain ⟨p, r, op, asked, chv, asv, lens, sizes, qs, n0, z, b, a, m, wt, ops, wide, ch, rfl, _⟩ := h
    rfl
  · obtain ⟨p, r, op, asked, chv, asv, lens, sizes, qs, n0, z, b, a, m, wt, ops, wide, ch, rfl, I, k⟩ := h
    refine ⟨_, (C8.pss_cut (ps_set (i := 5) sc__law_right.nd rfl (Or.inl rfl) (pe_mk c_Talk hr (by decide) rfl (pa_cons (pe_ix ix_tup (pv 0) pe_int (fun _ _ => rfl)) (pa_cons (pe_ix ix_tup (pv 0) pe_int (fun _ _ => rfl)) pa_nil))))
    (pss_cons (ps_asg (pv 3) (pg_tup rfl (pgs_cons (pg_name (i := 6) sc__law_right.nd rfl (Or.inl rfl)) (pgs_cons (pg_name (i := 7) sc__law_right.nd rfl (Or.inl rfl)) (pgs_cons (pg_name (i := 8) sc__law_right.nd rfl (Or.inl rfl)) (pgs_cons (pg_name (i := 9) sc__law_right.nd rfl (Or.inl rfl)) (pgs_cons (pg_name (i := 10) sc__law_right.nd rfl (Or.inl rfl)) pgs_nil)))))))
    (C8.pss_cut (ps_set (i := 11) sc__law_right.nd rfl (Or.inl rfl) (pe_callN (E := E0) GR (hr.mono (by decide)) rfl T.g_run_of FR.kp kb1 pass00 (pa_cons (pv 5) (pa_cons (pv 1) (pa_cons (pv 2) pa_nil))) (pk_cons (pv 10) (pk_cons (pv 6) (pk_cons (pv 9) (pk_cons (pv 8) (pk_cons (pv 7) pk_nil)))))))
    (C8.pss_cut (ps_set (i := 12) sc__law_right.nd rfl (Or.inl rfl) (pe_ifExp (pt_cmpR op_isN (pv 4) pe_non (nomark _)) pe_non (pe_callTy call_list_of rfl T.f_list (by decide +kernel) (pa_cons (pv 4) pa_nil))))
    (C8.pss_cut (ps_if (pt_not (pt_val (pe_c c_rates hr (by decide) rfl (pa_cons (pv 11) (pa_cons (pv 12) (pa_cons (pv 2) (pa_cons (pe_callB call_len_seq rfl T.f_len (by decide +kernel) (pa_cons (pe_ix ix_tup (pe_ix ix_tup (pv 0) pe_int (fun _ _ => rfl)) pe_int (fun _ _ => rfl)) pa_nil)) (pa_cons (pe_callB call_len_seq rfl T.f_len (by decide +kernel) (pa_cons (pe_ix ix_tup (pv 0) pe_int (fun _ _ => rfl)) pa_nil)) pa_nil)))))))) (pss_one (ps_ret pe_bl)) pss_nil)
    (C8.pss_cut (ps_if (PW.pt (pw_or (pt_not (pt_val (pe_c c_fetched hr (by decide) rfl (pa_cons (pv 11) (pa_cons (pv 0) (pa_cons (pv 1) (pa_cons (pv 3) pa_nil))))))) (pw_or1 (pt_not (pt_val (pe_c c_played hr (by decide) rfl (pa_cons (pv 11) (pa_cons (pv 0) (pa_cons (pv 3) pa_nil))))))))) (pss_one (ps_ret pe_bl)) pss_nil)
    (C8.pss_cut (ps_set (i := 13) sc__law_right.nd rfl (Or.inl rfl) (pe_callN (E := E0) GR (hr.mono (by decide)) rfl T.g_run_of FR.kp kb2 pass00 (pa_cons (pv 5) (pa_cons (pv 1) (pa_cons (pv 2) pa_nil))) (pk_cons (pv 6) (pk_cons (pv 7) (pk_cons (pv 8) (pk_cons (pv 9) (pk_cons (pv 10) pk_nil)))))))
    (pss_one (ps_ret (pe_and (pe_cG c_stalls hg hr (by decide) rfl (pa_cons (pv 11) pa_nil)) (pe_one (pe_cmpR (op_eqRun T hr (by decide)) (pv 13) (pv 11) (nomark _))))))))))))), ?_⟩
    obtain ⟨tl, ts, w1, w2, w3⟩ := I.row
    obtain ⟨ov, o1, o2⟩ := I.opt
    have ok := cfg_ok I.g I.o I.c
    -- _law_talk_here = Talk(..)
    refine ⟨fun σ' G0 => ∃ t : Addr, σ' = [some (.ref p), some (.ref r), some chv, some (.ref op), some asv, some (.ref t), none, none, none, none, none, none, none, none] ∧ Kp [] H G0 ∧ TalkAt K G0 t lens sizes, ?_, ?_⟩
    · refine ⟨_, rfl, p, _, _, _, rfl, rfl, w1, at_nat (by decide) rfl, _, rfl, p, _, _, _, rfl, rfl, w1, at_nat (by decide) rfl, ?_⟩
      intro t dx ht hdx hne
      refine ⟨t, dx, [.ref tl, .ref ts], rfl, rfl, upd_same, rfl, ?_⟩
      have kt : Kp [] H (upd (upd (upd H dx (.own t)) t (.ins (cTalk K) dx [])) t (.ins (cTalk K) dx (kTalk.zip [.ref tl, .ref ts]))) := ((Kp.refl.new hdx).new ht).new ht
      exact ⟨t, rfl, kt, dx, tl, ts, upd_same, kt.tup w2, kt.x.tups w3⟩
    rintro _ G0 ⟨t, rfl, kt, hT0⟩
    have hA0 : AskP K G0 asked ch [] := I.ask.1.kp kt.toN (by simp)
    have hC0 := I.cat_.kp kt.toN
    -- the five options
    refine ⟨_, rfl, op, _, rfl, kt.tup o1, rfl, _, _, rfl, _, _, rfl, _, _, rfl, _, _, rfl, _, _, rfl, rfl, ?_⟩
    obtain ⟨row, rest, es, hw, RI⟩ := run_in (pre := []) I.g I.o I.c hT0 (kt.x.road I.road) hC0 hA0 (by simp)
    -- _law_run = run_of(..)
    refine ⟨fun σ' G => ∃ (rn : Addr) (st : RPm.St), σ' = [some (.ref p), some (.ref r), some chv, some (.ref op), some asv, some (.ref t), some (.int b), some (.int a), some (.int m), some (.int wt), some ov, some (.ref rn), none, none] ∧ RPm.Fin (cfgOf lens sizes qs n0 z b a m wt ops ch wide) st ∧ RPm.Done (cfgOf lens sizes qs n0 z b a m wt ops ch wide) (wide : Int) st ∧ RunAt K G rn st ∧ AskP K G asked ch st.seens ∧ Kp (askS asked ch) G0 G, ?_, ?_⟩
    · refine ⟨_, rfl, _, rfl, _, rfl, _, rfl, _, rfl, _, rfl, _, rfl, _, rfl, rfl, rfl, t, r, asked, chv, ov, _, ch, row, rest, qs, n0, z, [], rfl, RI, o2.kp kt.toN, fun rn st G f d ra ha kp => ?_⟩
      rw [hw] at d
      exact ⟨rn, st, rfl, f, d, ra, ha, kp⟩
    rintro _ G ⟨rn, st, rfl, hfin, dn, hRun, hask, kG⟩
    have k0G := (kt.mono (S' := askS asked ch) (by simp)).trans kG
    have lrl := dn.lr
    have lsl := dn.ls
    have l12 := ok.ln1
    have hrl : st.rates.length ≤ 100 := by omega
    have hsl2 : st.seens.length ≤ 12 := by omega
    have hown : ∀ (H2 : Hp) (seed : Int), ch = .own seed (wide : Int) → AskP K H2 asked ch st.seens → ∃ asP : List Addr, H2 asked = some (.lst (asP.map V.ref)) ∧ asP.length = st.seens.length ∧ ∀ (i : Nat) (x : Addr), asP[i]? = some x → ∃ sd, st.seens[i]? = some sd ∧ SeenAt K H2 x sd := fun H2 seed e h => by
      subst e
      exact h.1
    -- _law_seens = ..
    refine ⟨fun σ' G2 => ∃ sv : V, σ' = [some (.ref p), some (.ref r), some chv, some (.ref op), some asv, some (.ref t), some (.int b), some (.int a), some (.int m), some (.int wt), some ov, some (.ref rn), some sv, none] ∧ Kp [] G G2 ∧ (sv = .non ∨ ∃ sl seed, sv = .ref sl ∧ ch = .own seed (wide : Int) ∧ AskAt K G2 sl st.seens ∧ sl ≠ asked), ?_, ?_⟩
    · rcases I.ask.2 with rfl | ⟨seed, e, rfl⟩
      · exact ⟨_, rfl, rfl, _, rfl, iteT ⟨.non, rfl, Kp.refl, .inl rfl⟩⟩
      · obtain ⟨asP, a1, a2, a3⟩ := hown G seed e hask
        refine ⟨_, rfl, rfl, _, rfl, iteF ⟨_, rfl, asked, _, rfl, .inl (SqL.of a1), fun sl hsl => ?_⟩⟩
        have ks : Kp [] G (upd G sl (.lst (asP.map V.ref))) := Kp.refl.new hsl
        refine ⟨.ref sl, rfl, ks, .inr ⟨sl, seed, rfl, e, ⟨asP, upd_same, a2, fun i x ex => ?_⟩, Ne.symm (ne_of_none a1 hsl)⟩⟩
        obtain ⟨sd, e1, e2⟩ := a3 i x ex
        exact ⟨sd, e1, ks.x.seen e2⟩
    rintro _ G2 ⟨sv, rfl, k2, hsv⟩
    have k02 := k0G.trans (k2.mono (S' := askS asked ch) (by simp))
    have hRun2 := hRun.x k2.x
    have hask2 := hask.kp k2.toN (by simp)
    have row2 := I.row.x k02.x
    -- the rates
    refine ⟨fun σ' G3 => σ' = [some (.ref p), some (.ref r), some chv, some (.ref op), some asv, some (.ref t), some (.int b), some (.int a), some (.int m), some (.int wt), some ov, some (.ref rn), some sv, none] ∧ Kp (askS asked ch) G2 G3 ∧ ∃ pre : List RPm.Seen, pre.length ≤ 100 ∧ AskP K G3 asked ch pre, ?_, ?_⟩
    · obtain ⟨tl2, ts2, w12, w22, w32⟩ := row2
      obtain ⟨as, q1, q2, q3⟩ := w32.at_
      have hrow0 : (cfgOf lens sizes qs n0 z b a m wt ops ch wide).sizes[0]? = some row := by
        show sizes[0]? = _
        rw [es]
        rfl
      obtain ⟨ra, e1, e2⟩ := q3 0 row hrow0
      refine ⟨_, rfl, _, rfl, _, rfl, _, rfl, p, _, _, _, rfl, rfl, w12, at_nat (by decide) rfl, ts2, _, _, _, rfl, rfl, q1, atI_nat (j := 0) (by rw [List.getElem?_map, e1] <;> rfl), ra, _, rfl, .inr e2, _, rfl, p, _, _, _, rfl, rfl, w12, at_nat (by decide) rfl, tl2, _, rfl, .inr w22, ?_⟩
      have ew : (row.map V.int).length = wide := by rw [List.length_map, hw]
      have el : ((cfgOf lens sizes qs n0 z b a m wt ops ch wide).lens.map V.int).length = st.rates.length := by rw [List.length_map, lrl]
      rw [ew, el]
      have w4 := I.g.w4
      rcases hsv with rfl | ⟨sl, seed, rfl, e, hA, hne⟩
      · refine ⟨rn, .non, chv, (wide : Int), st, none, rfl, hRun2, by omega, by omega, hrl, ⟨rfl, fun x hx => ?_⟩, fun H3 k3 _ => ⟨_, rfl, iteF ⟨rfl, k3.mono (by simp [rbS]), st.seens, by omega, hask2.kp k3.toN (by simp [rbS])⟩⟩⟩
        obtain ⟨j, hj, rfl⟩ := List.mem_iff_getElem.mp hx
        have := dn.rb j (by omega)
        rw [List.getD_eq_getElem?_getD, List.getElem?_eq_getElem hj] at this
        exact this
      · subst e
        refine ⟨rn, .ref sl, chv, (wide : Int), st, some (sl, asked, seed, st.seens), rfl, hRun2, by omega, by omega, hrl, ⟨rfl, hA, hne, hC0.kp (kG.trans (k2.mono (by simp))).toN, hask2, by omega, by omega, fun j hj => ?_⟩, fun H3 k3 h3 => ⟨_, rfl, iteF ⟨rfl, k3, st.seens ++ st.seens, by rw [List.length_append]; omega, h3⟩⟩⟩
        exact dn.g.ra j hj
    rintro _ G3 ⟨rfl, k3, pre, hpre, hask3⟩
    have k03 := k02.trans k3
    have L3 : LookIn K G3 rn p r op (cfgOf lens sizes qs n0 z b a m wt ops ch wide) (wide : Int) st qs n0 z := ⟨hRun2.x k3.x, dn, ok, row2.x k3.x, ⟨k03.x.road I.road, I.g.rb, by have := I.g.z8; omega⟩, rfl, rfl, I.opt.x k03.x, fun os e => (I.o.o os e).1, I.g.tk.sl, fun x hx => by rw [I.g.wd x hx], by have := I.o.m1; show m ≤ 1000; omega⟩
    -- what was fetched, what was played
    refine ⟨fun σ' G4 => σ' = [some (.ref p), some (.ref r), some chv, some (.ref op), some asv, some (.ref t), some (.int b), some (.int a), some (.int m), some (.int wt), some ov, some (.ref rn), some sv, none] ∧ Kp [] G3 G4, ?_, ?_⟩
    · exact ⟨_, rfl, _, rfl, _, rfl, _, rfl, rn, p, r, op, _, _, st, qs, n0, z, rfl, L3, fun H4 k4 => ⟨_, rfl, iteF ⟨_, rfl, _, rfl, _, rfl, rn, p, r, op, _, _, st, qs, n0, z, rfl, L3.x k4.x, fun H5 k5 => ⟨_, rfl, iteF ⟨rfl, k4.trans k5⟩⟩⟩⟩⟩
    rintro _ G4 ⟨rfl, k4⟩
    have k34 := k3.trans (k4.mono (S' := askS asked ch) (by simp))
    have k04 := k02.trans k34
    have k14 := (kG.trans (k2.mono (S' := askS asked ch) (by simp))).trans k34
    have hask4 := hask3.kp k4.toN (by simp)
    obtain ⟨row', rest', es', hw', RI4⟩ := run_in (pre := pre) I.g I.o I.c (k14.x.talk hT0) (k04.x.road I.road) (hC0.kp k14.toN) hask4 (by omega)
    -- _law_again_told = run_of(..)
    refine ⟨fun σ' G5 => ∃ rm : Addr, σ' = [some (.ref p), some (.ref r), some chv, some (.ref op), some asv, some (.ref t), some (.int b), some (.int a), some (.int m), some (.int wt), some ov, some (.ref rn), some sv, some (.ref rm)] ∧ RunAt K G5 rm st ∧ Kp (askS asked ch) G4 G5, ?_, ?_⟩
    · refine ⟨_, rfl, _, rfl, _, rfl, _, rfl, _, rfl, _, rfl, _, rfl, _, rfl, rfl, rfl, t, r, asked, chv, ov, _, ch, row', rest', qs, n0, z, pre, rfl, RI4, o2.x k04.x, fun rm st' G5 f d ra ha kp => ?_⟩
      have := RPm.Fin.uniq f hfin
      subst this
      exact ⟨rm, rfl, ra, kp⟩
    rintro _ G5 ⟨rm, rfl, hRun5, k5⟩
    have hRn5 := (L3.run.x k4.x).x k5.x
    refine ⟨_, rfl, rn, _, _, st, rfl, hRn5, dn, ok, fun G6 k6 => ⟨_, rfl, iteT ?_⟩⟩
    have ra := hRn5.x k6.x
    have rb := hRun5.x k6.x
    obtain ⟨dx, _, _, _, _, _, _, h0, _⟩ := id ra
    obtain ⟨dy, _, _, _, _, _, _, g0, _⟩ := id rb
    refine ⟨_, rfl, _, rfl, ⟨rm, rn, dy, dx, _, _, rfl, rfl, g0, h0, st, rb, ra⟩, fun G7 e7 => ?_⟩
    have k7 : Kp [] G6 G7 := Kp.same e7
    exact k _ ((k04.trans k5).trans ((k6.trans k7).mono (by simp)))
end
end K76


set_option Elab.async false
set_option linter.all false
set_option maxRecDepth 100000
set_option maxHeartbeats 4000000
/-! One turn of the law: what stands. -/
namespace K76
open PySem PySem.Spec PyProof.Rows L2 LamX NdefX
open RPm (Cfg Std)
theorem shapedTI (ns : List Int) : SeqAt.shaped (.tuple (ns.map PyData.int)) = true := by
  have h := PySem.W.depthAll_ints ns
  show (PyData.canLay0 (.tuple (ns.map PyData.int)) && decide (PyData.depth (.tuple (ns.map PyData.int)) ≤ 64)) = true
  rw [Bool.and_eq_true]
  exact ⟨by simp only [PyData.canLay0]; exact PySem.W.canLayAll0_ints ns, decide_eq_true (by simp only [PyData.depth]; omega)⟩
theorem ne_tups {K : PySem.W.Frag} {H : Hp} {a b : Addr} {ns : List Int} {Q : VK} (h1 : SqT K H a (ns.map V.int)) (h2 : SqT K H b (ns.map V.int)) (q : Q (.bl false) H) : rNeD K (.ref a) (.ref b) H Q := by
  refine ⟨_, _, .tup h1 (dpI ns), .tup h2 (dpI ns), shapedTI ns, shapedTI ns, ?_⟩
  rw [SeqAt.eqv_refl _ (SeqAt.canLay_of_shaped (shapedTI ns))]
  exact q
def RowD (K : PySem.W.Frag) (H : Hp) (p : Addr) (lens : List Int) (sizes : List (List Int)) : Prop := ∃ tl ts, SqT K H p [.ref tl, .ref ts] ∧ SqT K H tl (lens.map V.int) ∧ TupsAt K H ts sizes
theorem RowD.x {K : PySem.W.Frag} {H H' : Hp} {p : Addr} {lens : List Int} {sizes : List (List Int)} (h : RowD K H p lens sizes) (k : Kx H H') : RowD K H' p lens sizes := by
  obtain ⟨tl, ts, h1, h2, h3⟩ := h
  exact ⟨tl, ts, k.sqt h1, k.sqt h2, k.tups h3⟩
/-- numbers of the talk and the road -/
structure Num where
  lens : List Int
  sizes : List (List Int)
  qs : List (Int × Int)
  n0 : Int
  z : Int
  wide : Nat
abbrev Num.Ok (N : Num) : Prop := GivN N.lens N.sizes N.qs N.n0 N.z N.wide
theorem num_of {lens : List Int} {sizes : List (List Int)} {ps : List (Int × Int)} (tk : TalkOk lens sizes) (rk : RoadOk ps) : ∃ N : Num, N.Ok ∧ N.lens = lens ∧ N.sizes = sizes ∧ N.qs ++ [(N.n0, N.z)] = ps := by
  obtain ⟨wide, h1, h2, h3⟩ := tk.wd
  have hne : ps ≠ [] := fun z => by
    have := rk.l0
    rw [z] at this
    simp at this
  have e := List.dropLast_concat_getLast hne
  have hl := rk.last (ps.getLast hne) (List.getLast?_eq_some_getLast hne)
  have e2 : ps.dropLast ++ [((ps.getLast hne).1, (ps.getLast hne).2)] = ps := e
  refine ⟨⟨lens, sizes, ps.dropLast, (ps.getLast hne).1, (ps.getLast hne).2, wide⟩, ⟨tk, h3, h1, h2, ?_, ?_, hl⟩, rfl, rfl, e2⟩
  · show ∀ p ∈ ps.dropLast ++ [((ps.getLast hne).1, (ps.getLast hne).2)], _
    rw [e2]
    exact rk.b
  · show (ps.dropLast ++ [((ps.getLast hne).1, (ps.getLast hne).2)]).length ≤ 12
    rw [e2]
    exact rk.l1
/-- what stands from the first statement of a turn on -/
structure TB0 (K : PySem.W.Frag) (G : Hp) (l p r : Addr) (N : Num) : Prop where
  ok : N.Ok
  row : RowD K G p N.lens N.sizes
  road : RoadAt K G r (N.qs ++ [(N.n0, N.z)])
  well : WellAt G l
  tabs : TabsN (tabL K) G
theorem TB0.to {K : PySem.W.Frag} {S : List Addr} {G G' : Hp} {l p r : Addr} {N : Num} (h : TB0 K G l p r N) (k : KpN S G G') (w : WellAt G' l) (t : TabsN (tabL K) G') : TB0 K G' l p r N := ⟨h.ok, h.row.x k.x, k.x.road h.road, w, t⟩
theorem TB0.kp {K : PySem.W.Frag} {S : List Addr} {G G' : Hp} {l p r : Addr} {N : Num} (h : TB0 K G l p r N) (k : Kp S G G') (hS : l ∉ S) : TB0 K G' l p r N := h.to k.toN (h.well.keep k hS) (k.tabs h.tabs)
theorem TB0.tk {K : PySem.W.Frag} {S : List Addr} {G G' : Hp} {l p r : Addr} {N : Num} (h : TB0 K G l p r N) (k : Kp S G G') (w : WellAt G' l) : TB0 K G' l p r N := h.to k.toN w (k.tabs h.tabs)
theorem WellAt.kpN {S : List Addr} {H H' : Hp} {l : Addr} (h : WellAt H l) (k : KpN S H H') (hS : l ∉ S) : WellAt H' l := by
  obtain ⟨a, b, c, h1, h2⟩ := h
  exact ⟨a, b, c, k.lst hS h1, h2⟩
theorem TB0.mk' {K : PySem.W.Frag} {G G' : Hp} {l p r f : Addr} {N : Num} {st : Stmt} {name qual : Str} {fr : List Str} {vs : List V} (h : TB0 K G l p r N) (m : MadeC (tabL K) G G' f st name qual fr vs) : TB0 K G' l p r N := h.to m.kp (h.well.kpN m.kp (by simp)) m.tabs
/-- the choosers, and what they lean on -/
structure TB1 (K : PySem.W.Frag) (G : Hp) (l p r t asked fs pa fo fw : Addr) (N : Num) (steps plan : List Int) (seed y : Int) : Prop where
  b : TB0 K G l p r N
  talk : TalkAt K G t N.lens N.sizes
  nal : asked ≠ l
  fs : RlAt K G fs (.store steps)
  pa : SqT K G pa (plan.map V.int)
  pl : plan.length = N.lens.length
  pb : ∀ x ∈ plan, 0 ≤ x ∧ x < (N.wide : Int)
  fo : ChAt K G asked (.ref fo) (.own seed (N.wide : Int))
  fw : RlAt K G fw (.speed N.lens N.sizes 1 y)
theorem TB1.to {K : PySem.W.Frag} {S : List Addr} {G G' : Hp} {l p r t asked fs pa fo fw : Addr} {N : Num} {steps plan : List Int} {seed y : Int} (h : TB1 K G l p r t asked fs pa fo fw N steps plan seed y) (k : KpN S G G') (w : WellAt G' l) (tb : TabsN (tabL K) G') : TB1 K G' l p r t asked fs pa fo fw N steps plan seed y :=
  ⟨h.b.to k w tb, k.x.talk h.talk, h.nal, h.fs.kp k, k.tup h.pa, h.pl, h.pb, h.fo.kp k, h.fw.kp k⟩
theorem TB1.kp {K : PySem.W.Frag} {S : List Addr} {G G' : Hp} {l p r t asked fs pa fo fw : Addr} {N : Num} {steps plan : List Int} {seed y : Int} (h : TB1 K G l p r t asked fs pa fo fw N steps plan seed y) (k : Kp S G G') (w : WellAt G' l) : TB1 K G' l p r t asked fs pa fo fw N steps plan seed y := h.to k.toN w (k.tabs h.b.tabs)
theorem TB1.mk' {K : PySem.W.Frag} {G G' : Hp} {l p r t asked fs pa fo fw f : Addr} {N : Num} {steps plan : List Int} {seed y : Int} {st : Stmt} {name qual : Str} {fr : List Str} {vs : List V} (h : TB1 K G l p r t asked fs pa fo fw N steps plan seed y) (m : MadeC (tabL K) G G' f st name qual fr vs) : TB1 K G' l p r t asked fs pa fo fw N steps plan seed y := h.to m.kp (h.b.well.kpN m.kp (by simp)) m.tabs
/-- a chooser that is not the law's own -/
def Other (K : PySem.W.Frag) (G : Hp) (ak : Addr) (chv : V) (ch : Ch) (n wide : Nat) : Prop := ChAt K G ak chv ch ∧ ChOk n wide ch ∧ (∃ x, chv = .ref x ∧ ((∃ F, G x = some (FnO x F)) ∨ ∃ xs, SqT K G x xs)) ∧ askS ak ch = [] ∧ ∀ H2, AskP K H2 ak ch []
theorem RlAt.fn {K : PySem.W.Frag} {H : Hp} {f : Addr} {r : Rl} (h : RlAt K H f r) : ∃ F, H f = some (FnO f F) := by
  cases r with
  | store steps =>
    obtain ⟨cl, c, cs, a, h1, _⟩ := h
    exact ⟨_, h1.fn⟩
  | speed lens sizes x y =>
    obtain ⟨cl, c, cs, t, p, h1, _⟩ := h
    exact ⟨_, h1.fn⟩
theorem own_fn {K : PySem.W.Frag} {H : Hp} {f asked : Addr} {seed wide : Int} (h : ChAt K H asked (.ref f) (.own seed wide)) : ∃ F, H f = some (FnO f F) := by
  obtain ⟨f', cl, c, cs, e, h1, _⟩ := h
  cases e
  exact ⟨_, h1.fn⟩
theorem calm_fn {K : PySem.W.Frag} {H : Hp} {f asked : Addr} {r : Rl} (h : ChAt K H asked (.ref f) (.calm r)) : ∃ F, H f = some (FnO f F) := by
  obtain ⟨f', cl, c, cs, g, e, h1, _⟩ := h
  cases e
  exact ⟨_, h1.fn⟩
end K76


set_option Elab.async false
set_option linter.all false
set_option maxRecDepth 100000
set_option maxHeartbeats 4000000
/-! The law: the walk. -/
namespace K76
open PySem PySem.Spec PyProof.Rows L2 LamX NdefX
open RPm (Cfg Std)
def spLaw (K : PySem.W.Frag) : Sp := fun vs H Q _ => ∃ (a : Addr) (ns : List Int), vs = [.ref a] ∧ SqL K H a (ns.map V.int) ∧ (∀ z ∈ ns, Builtin.Int.intBits z ≤ 1048576) ∧ TabsN (tabL K) H ∧ ∀ H', Q (.bl true) H'
def stepsL (n : Nat) : List Int := (List.range n).map fun (i : Nat) => 2 + (i : Int) * 4
theorem steps_rg (n : Nat) : rgC 2 4 n = (stepsL n).map V.int := by
  unfold rgC stepsL
  rw [List.map_map]
  rfl
section
variable {P : Program} {w : World} {K : PySem.W.Frag} {mg : Str → Option Value} {base : Heap}
set_option maxHeartbeats 16000000 in
theorem c_law (T : Tx K mg) (B : TbB K mg base) {fd : FuncData} (F : FnP K "law" "law" s_law [] (He.ga K "law") fd) : FnOkG P w K mg base 8 (He.ga K "law") fd ["_law_script"] (spLaw K) := by
  have c_well : Cal P w K mg base 1 "_law_well" (spWell K) := c__law_well T
  have c_take : Cal P w K mg base 1 "_law_take" spTake := c__law_take T
  have c_talk : Cal P w K mg base 2 "_law_talk" (spTalkD K) := c__law_talk T
  have c_road : Cal P w K mg base 2 "_law_road" (spRoadD K) := c__law_road T
  have c_opts : Cal P w K mg base 2 "_law_options" (spOptD K) := c__law_options T
  have c_Talk : Mak P w K mg base 1 "Talk" (spInit (cTalk K) kTalk) := c_Talk T
  have c_Road : Mak P w K mg base 1 "Road" (spInit (cRoad K) kRoad) := c_Road T
  have c_store := c_by_store (P := P) (w := w) T B
  have c_calm := c_calm (P := P) (w := w) T B
  have c_rule := c__law_rule (P := P) (w := w) T B
  have c_right : CalG P w K mg base 7 "_law_right" (spRight K) := c__law_right T
  obtain ⟨fdS, FS, GS⟩ := c_by_speed (P := P) (w := w) T B
  obtain ⟨gS, kbS⟩ := kb_by_speed FS
  obtain ⟨ds, vds, bdS⟩ := kd_by_speed FS
  obtain ⟨fdR, FR, GR⟩ := c_run_of (P := P) (w := w) (base := base) T
  obtain ⟨g3, kb3⟩ := kb_run3 FR
  refine okG F sc_law (fun vs H Q E h => ?_) (fun cdv A outer s H vs Q E hg hr h => ?_)
  · obtain ⟨a, ns, rfl, _⟩ := h
    rfl
  · obtain ⟨a, ns, rfl, hA, hbits, htab, k⟩ := h
    have hu64 := hr.units
    suffices hh : ∃ t, PSs (cxOf CX0 P w K mg base nN_law "law" (defScope s_law) (He.ga K "law") cdv A outer s H E).nox (defBody s_law) t ∧ t { nx := fun _ H' => Q .non H', rt := Q } (start nN_law [.ref a]) H from
      let ⟨t, h1, h2⟩ := hh
      ⟨t, h1.nox, h2⟩
    refine ⟨_, (pss_cons (ps_set (i := 1) sc_law.nd rfl (Or.inr rfl) (pe_c c_well hr (by decide) rfl (pa_cons (pv 0) (pa_cons pe_int pa_nil))))
    (pss_cons (ps_for PassesOwn.never rfl (pi_range1 rfl T.f_range (pa_cons pe_int pa_nil)) (pg_name (i := 2) sc_law.nd rfl (Or.inl rfl))
      (C8.pss_cut (ps_par (i := 3) (j := 4) rfl sc_law.nd rfl rfl (by decide) rfl rfl (pa_cons (pe_c c_talk hr (by decide) rfl (pa_cons (pv 1) pa_nil)) (pa_cons (pe_mk c_Road hr (by decide) rfl (pa_cons (pe_c c_road hr (by decide) rfl (pa_cons (pv 1) pa_nil)) pa_nil)) pa_nil)) rfl)
      (C8.pss_cut (ps_set (i := 5) sc_law.nd rfl (Or.inl rfl) (pe_mk c_Talk hr (by decide) rfl (pa_cons (pe_ix ix_tup (pv 3) pe_int (fun _ _ => rfl)) (pa_cons (pe_ix ix_tup (pv 3) pe_int (fun _ _ => rfl)) pa_nil))))
      (C8.pss_cut (ps_set (i := 6) sc_law.nd rfl (Or.inr rfl) (pe_callB call_len_seq rfl T.f_len (by decide +kernel) (pa_cons (pe_ix ix_tup (pe_ix ix_tup (pv 3) pe_int (fun _ _ => rfl)) pe_int (fun _ _ => rfl)) pa_nil)))
      (C8.pss_cut (ps_set (i := 7) sc_law.nd rfl (Or.inl rfl) (pe_lst pa_nil))
      (C8.pss_cut (ps_set (i := 8) sc_law.nd rfl (Or.inl rfl) (pe_c c_store hr (by decide) rfl (pa_cons (pe_tupR3 rfl rfl T.f_tuple rfl T.f_range (pa_cons pe_int (pa_cons (pe_op op_add pe_int (pe_op op_mul pe_int (pe_c c_take hr (by decide) rfl (pa_cons (pv 1) (pa_cons pe_int pa_nil))))) (pa_cons pe_int pa_nil)))) pa_nil)))
      (C8.pss_cut (ps_set (i := 9) sc_law.nd rfl (Or.inl rfl) (pe_callTy call_tuple_of rfl T.f_tuple (by decide +kernel) (pa_cons (pe_lc (own := [("_law_length", 15)]) (g := gName 15) rfl sc_law.nd (pi_tup (pe_ix ix_tup (pv 3) pe_int (fun _ _ => rfl))) (blkOk_by (own := [("_law_length", 15)]) (N := nN_law) (sc := defScope s_law) (by decide +kernel)) (fun _ _ _ _ _ => pg_name (i := 15) sc_law.nd rfl (Or.inl rfl)) (fun _ _ _ _ _ => pts_nil) (fun _ _ _ _ _ => pe_c c_take (hr : Room 7 _) (by decide) rfl (pa_cons (pv 1) (pa_cons (pv 6) pa_nil)))) pa_nil)))
      (C8.pss_cut (ps_set (i := 10) sc_law.nd rfl (Or.inl rfl) (pe_c c_rule hr (by decide) rfl (pa_cons (pv 7) (pa_cons (pe_c c_take hr (by decide) rfl (pa_cons (pv 1) (pa_cons pe_int pa_nil))) (pa_cons (pv 6) pa_nil)))))
      (C8.pss_cut (ps_set (i := 11) sc_law.nd rfl (Or.inl rfl) (pe_callN (E := E0) GS (hr.mono (by decide)) rfl T.g_by_speed FS.kp kbS pass00 (pa_cons (pv 5) pa_nil) (pk_cons (pe_tup (pa_cons pe_int (pa_cons (pe_op op_add pe_int (pe_c c_take hr (by decide) rfl (pa_cons (pv 1) (pa_cons pe_int pa_nil)))) pa_nil))) pk_nil)))
      (C8.pss_cut (ps_set (i := 12) sc_law.nd rfl (Or.inl rfl) (pe_lst (pa_cons (pv 9) (pa_cons (pv 10) (pa_cons (pv 8) (pa_cons (pe_call (E := E0) GS (hr.mono (by decide)) rfl T.g_by_speed FS.kp bdS vds pass00 (pa_cons (pv 5) pa_nil)) (pa_cons (pe_c c_calm hr (by decide) rfl (pa_cons (pv 8) pa_nil)) (pa_cons (pe_c c_calm hr (by decide) rfl (pa_cons (pv 11) pa_nil)) pa_nil))))))))
      (C8.pss_cut (ps_set (i := 13) sc_law.nd rfl (Or.inl rfl) (pe_c c_opts hr (by decide) rfl (pa_cons (pv 1) (pa_cons (pe_ix ix_tup (pv 3) pe_int (fun _ _ => rfl)) pa_nil))))
      (C8.pss_cut (ps_if (pt_not (pt_val (pe_cG c_right hg hr (by decide) rfl (pa_cons (pv 3) (pa_cons (pv 4) (pa_cons (pv 10) (pa_cons (pv 13) (pa_cons (pv 7) pa_nil)))))))) (pss_one (ps_ret pe_bl)) pss_nil)
      (C8.pss_cut (ps_set (i := 14) sc_law.nd rfl (Or.inl rfl) (pe_ix ix_list (pv 12) (pe_c c_take hr (by decide) rfl (pa_cons (pv 1) (pa_cons pe_int pa_nil))) (fun _ _ => rfl)))
      (C8.pss_cut (ps_if (PW.pt (pw_and (pt_cmpR (op_neF hu64) (pv 14) (pv 10) (nomark _)) (pw_and1 (pt_not (pt_val (pe_cG c_right hg hr (by decide) rfl (pa_cons (pv 3) (pa_cons (pv 4) (pa_cons (pv 14) (pa_cons (pv 13) (pa_cons pe_non pa_nil))))))))))) (pss_one (ps_ret pe_bl)) pss_nil)
      (pss_one (ps_if (pt_cmpR (op_neD hu64) (pe_fld (pe_callN (E := E0) GR (hr.mono (by decide)) rfl T.g_run_of FR.kp kb3 pass00 (pa_cons (pv 5) (pa_cons (pv 4) (pa_cons (pv 9) pa_nil))) (pk_cons (pe_callB (cr_maxT rfl) rfl T.f_max (by decide +kernel) (pa_cons (pe_ix ix_tup (pv 3) pe_int (fun _ _ => rfl)) pa_nil)) pk_nil)) rfl) (pv 9) (nomark _)) (pss_one (ps_ret pe_bl)) pss_nil))))))))))))))))
    (pss_one (ps_ret pe_bl)))), ?_⟩
    -- _law_well_here = ..
    refine ⟨_, rfl, a, ns, rfl, hA, hbits, fun l H0 hl w0 k0 => ?_⟩
    have tb0 : TabsN (tabL K) H0 := k0.tabs htab
    refine ⟨2, rfl, by decide, by decide, for_range (lo := 0) (n := 2) (fun i σ G => ∃ v2 v3 v4 v5 v6 v7 v8 v9 v10 v11 v12 v13 v14 v15 : Option V, σ = [some (.ref a), some (.ref l), v2, v3, v4, v5, v6, v7, v8, v9, v10, v11, v12, v13, v14, v15] ∧ WellAt G l ∧ TabsN (tabL K) G)
      ⟨none, none, none, none, none, none, none, none, none, none, none, none, none, none, rfl, w0, tb0⟩ ?_ ?_⟩
    · rintro i σ G _ ⟨v2, v3, v4, v5, v6, v7, v8, v9, v10, v11, v12, v13, v14, v15, rfl, wG, tG⟩
      -- _law_row, _law_road_here = ..
      refine ⟨fun σ' G1 => ∃ (p r : Addr) (N : Num), σ' = [some (.ref a), some (.ref l), some (.int (0 + (i : Nat))), some (.ref p), some (.ref r), v5, v6, v7, v8, v9, v10, v11, v12, v13, v14, v15] ∧ TB0 K G1 l p r N, ?_, ?_⟩
      · refine ⟨_, rfl, l, rfl, wG, fun p tl ts lens sizes G1 tk h1 h2 h3 w1 k1 => ?_⟩
        refine ⟨_, rfl, l, rfl, w1, fun pp ps G2 rk h4 w2 k2 => ?_⟩
        intro x dx hx hdx hne
        refine ⟨x, dx, [.ref pp], rfl, rfl, upd_same, rfl, ?_⟩
        have k3 : Kp [] G2 (upd (upd (upd G2 dx (.own x)) x (.ins (cRoad K) dx [])) x (.ins (cRoad K) dx (kRoad.zip [.ref pp]))) := ((Kp.refl.new hdx).new hx).new hx
        obtain ⟨N, ok, rfl, rfl, e⟩ := num_of tk rk
        have k23 := k2.trans (k3.mono (S' := [l]) (by simp))
        refine ⟨_, _, rfl, p, x, N, rfl, ok, ⟨tl, ts, k23.tup h1, k23.tup h2, k23.x.tups h3⟩, ?_, w2.keep k3 (by simp), (k1.trans k23).tabs tG⟩
        rw [e]
        exact ⟨dx, pp, upd_same, k3.x.tups h4⟩
      rintro _ G1 ⟨p, r, N, rfl, b1⟩
      have gok := b1.ok
      have gl1 := gok.tk.l1
      have gl0 := gok.tk.l0
      have gw1 := gok.w1
      have gw4 := gok.w4
      -- _law_talk_here = Talk(..)
      refine ⟨fun σ' G2 => ∃ t : Addr, σ' = [some (.ref a), some (.ref l), some (.int (0 + (i : Nat))), some (.ref p), some (.ref r), some (.ref t), v6, v7, v8, v9, v10, v11, v12, v13, v14, v15] ∧ TB0 K G2 l p r N ∧ TalkAt K G2 t N.lens N.sizes, ?_, ?_⟩
      · obtain ⟨tl, ts, w1, w2, w3⟩ := b1.row
        refine ⟨_, rfl, p, _, _, _, rfl, rfl, w1, at_nat (by decide) rfl, _, rfl, p, _, _, _, rfl, rfl, w1, at_nat (by decide) rfl, ?_⟩
        intro t dx ht hdx hne
        refine ⟨t, dx, [.ref tl, .ref ts], rfl, rfl, upd_same, rfl, ?_⟩
        have kt : Kp [] G1 (upd (upd (upd G1 dx (.own t)) t (.ins (cTalk K) dx [])) t (.ins (cTalk K) dx (kTalk.zip [.ref tl, .ref ts]))) := ((Kp.refl.new hdx).new ht).new ht
        exact ⟨t, rfl, b1.kp kt (by simp), dx, tl, ts, upd_same, kt.tup w2, kt.x.tups w3⟩
      rintro _ G2 ⟨t, rfl, b2, hT⟩
      -- _law_wide = ..
      refine ⟨fun σ' G3 => σ' = [some (.ref a), some (.ref l), some (.int (0 + (i : Nat))), some (.ref p), some (.ref r), some (.ref t), some (.int (N.wide : Int)), v7, v8, v9, v10, v11, v12, v13, v14, v15] ∧ G3 = G2, ?_, ?_⟩
      · obtain ⟨tl, ts, w1, w2, w3⟩ := b2.row
        obtain ⟨as, q1, q2, q3⟩ := w3.at_
        have hne : 0 < N.sizes.length := by
          have := gok.tk.sl
          omega
        have e0 : N.sizes[0]? = some N.sizes[0] := List.getElem?_eq_getElem hne
        obtain ⟨ra, e1, e2⟩ := q3 0 _ e0
        refine ⟨_, rfl, p, _, _, _, rfl, rfl, w1, at_nat (by decide) rfl, ts, _, _, _, rfl, rfl, q1, atI_nat (j := 0) (by rw [List.getElem?_map, e1] <;> rfl), ra, _, rfl, .inr e2, ?_, rfl⟩
        have ew : (N.sizes[0].map V.int).length = N.wide := by rw [List.length_map, gok.wd _ (List.mem_of_getElem? e0)]
        rw [ew]
        rfl
      rintro _ G3 ⟨rfl, rfl⟩
      -- _law_asked = []
      refine ⟨fun σ' G4 => ∃ ak : Addr, σ' = [some (.ref a), some (.ref l), some (.int (0 + (i : Nat))), some (.ref p), some (.ref r), some (.ref t), some (.int (N.wide : Int)), some (.ref ak), v8, v9, v10, v11, v12, v13, v14, v15] ∧ TB0 K G4 l p r N ∧ TalkAt K G4 t N.lens N.sizes ∧ G4 ak = some (.lst []) ∧ ak ≠ l, ?_, ?_⟩
      · refine ⟨(by show 0 ≤ sizeLine; decide), fun ak hak => ⟨ak, rfl, b2.kp (S := []) (Kp.refl.new hak) (by simp), Kx.talk (Kp.x (S := []) (Kp.refl.new hak)) hT, upd_same, (b2.well.ne hak).symm⟩⟩
      rintro _ G4 ⟨ak, rfl, b4, hT4, hak, nal⟩
      have nla : l ∉ [] := by simp
      -- _law_steps_by = by_store(..)
      refine ⟨fun σ' G5 => ∃ (fs : Addr) (steps : List Int), σ' = [some (.ref a), some (.ref l), some (.int (0 + (i : Nat))), some (.ref p), some (.ref r), some (.ref t), some (.int (N.wide : Int)), some (.ref ak), some (.ref fs), v9, v10, v11, v12, v13, v14, v15] ∧ TB0 K G5 l p r N ∧ TalkAt K G5 t N.lens N.sizes ∧ G5 ak = some (.lst []) ∧ RlAt K G5 fs (.store steps), ?_, ?_⟩
      · refine ⟨_, rfl, l, 5, rfl, b4.well, by decide, by decide, fun d G5 d0 d1 w5 k5 => ?_⟩
        refine ⟨_, _, rfl, rfl, .inl ⟨by decide, by decide⟩, _, _, rfl, rfl, 2, 2 + 4 * d, 4, d.toNat, rfl, ?_, by omega, fun q hq => ?_⟩
        · have hd : d = 0 ∨ d = 1 ∨ d = 2 ∨ d = 3 ∨ d = 4 := by omega
          rcases hd with rfl | rfl | rfl | rfl | rfl <;> exact ⟨by decide, by decide, by decide +kernel, by decide +kernel⟩
        rw [steps_rg]
        have kq : Kp [] G5 (upd G5 q (.tup ((stepsL d.toNat).map V.int))) := Kp.refl.new hq
        have b5 := (b4.tk k5 w5).kp kq (by simp)
        refine ⟨rfl, b5.tabs, fun f G6 m => ?_⟩
        refine ⟨f, stepsL d.toNat, rfl, b5.mk' m, m.kp.x.talk (kq.x.talk (k5.x.talk hT4)), m.kp.lst (by simp) (kq.lst (by simp) (k5.lst (by simpa using nal) hak)), made_store m (SqT.of upd_same) ?_⟩
        unfold stepsL
        rw [List.length_map, List.length_range]
        omega
      rintro _ G5 ⟨fs, steps, rfl, b5, hT5, hak5, hfs⟩
      -- _law_plan = tuple(..)
      refine ⟨fun σ' G6 => ∃ (v15 : Option V) (pa : Addr) (plan : List Int), σ' = [some (.ref a), some (.ref l), some (.int (0 + (i : Nat))), some (.ref p), some (.ref r), some (.ref t), some (.int (N.wide : Int)), some (.ref ak), some (.ref fs), some (.ref pa), v10, v11, v12, v13, v14, v15] ∧ TB0 K G6 l p r N ∧ Kp [l] G5 G6 ∧ SqT K G6 pa (plan.map V.int) ∧ plan.length = N.lens.length ∧ ∀ x ∈ plan, 0 ≤ x ∧ x < (N.wide : Int), ?_, ?_⟩
      · obtain ⟨tl, ts, w1, w2, w3⟩ := b5.row
        refine ⟨_, rfl, p, _, _, _, rfl, rfl, w1, at_nat (by decide) rfl, tl, rfl, ⟨_, w2⟩, fun D hD => ?_⟩
        have kD : Kp [] G5 (upd G5 D (.lst [])) := Kp.refl.new hD
        have nlD : l ≠ D := b5.well.ne hD
        refine lc_tup (K := K) (a := tl) (xs := N.lens.map V.int) (fun j H2 => ∃ plan : List Int, plan.length = j ∧ (∀ x ∈ plan, 0 ≤ x ∧ x < (N.wide : Int)) ∧ WellAt H2 l ∧ Kp [l] G5 H2 ∧ H2 D = some (.lst (plan.map V.int)))
          ⟨[], rfl, by simp, b5.well.keep kD (by simp), kD.mono (by simp), upd_same⟩ (fun j H2 _ z => ?_) ?_ ?_
        · obtain ⟨_, _, _, _, z, _⟩ := z
          exact z.tup w2
        · rintro j x H2 hx ⟨plan, e1, e2, w6, k6, hd⟩
          have hj : j < N.lens.length := by
            have := (List.getElem?_eq_some_iff.mp hx).1
            rw [List.length_map] at this
            exact this
          refine ⟨rfl, _, rfl, _, rfl, l, (N.wide : Int), rfl, w6, by omega, by omega, fun d H3 d0 d1 w7 k7 => ⟨_, k7.lst (by simpa using nlD.symm) hd, by rw [List.length_map, e1, sizeLine_eq]; omega, plan ++ [d], by rw [List.length_append, e1] <;> rfl, fun x hx => ?_, ?_, (k6.trans k7).new hD, ?_⟩⟩
          · rcases List.mem_append.mp hx with hx | hx
            · exact e2 x hx
            · rw [List.mem_singleton.mp hx]
              exact ⟨d0, d1⟩
          · exact w7.keep (S := [D]) (Kp.refl.put (by simp) (k7.lst (by simpa using nlD.symm) hd) mvL) (by simpa using nlD)
          · rw [upd_same, List.map_append]
            rfl
        · rintro H2 ⟨plan, e1, e2, w6, k6, hd⟩
          rw [List.length_map] at e1
          refine ⟨D, _, rfl, .inl ⟨SqL.of hd, fun q hq => ?_⟩⟩
          have kq : Kp [] H2 (upd H2 q (.tup (plan.map V.int))) := Kp.refl.new hq
          exact ⟨_, q, plan, rfl, (b5.tk k6 w6).kp kq (by simp), k6.trans (kq.mono (by simp)), SqT.of upd_same, e1, e2⟩
      rintro _ G6 ⟨w15, pa, plan, rfl, b6, k6, hpa, pl1, pl2⟩
      have hT6 := k6.x.talk hT5
      have hak6 := k6.lst (by simpa using nal) hak5
      have hfs6 := hfs.kp k6.toN
      -- _law_own = _law_rule(..)
      refine ⟨fun σ' G7 => ∃ (fo : Addr) (seed : Int), σ' = [some (.ref a), some (.ref l), some (.int (0 + (i : Nat))), some (.ref p), some (.ref r), some (.ref t), some (.int (N.wide : Int)), some (.ref ak), some (.ref fs), some (.ref pa), some (.ref fo), v11, v12, v13, v14, w15] ∧ TB0 K G7 l p r N ∧ KpN [l] G6 G7 ∧ ChAt K G7 ak (.ref fo) (.own seed (N.wide : Int)), ?_, ?_⟩
      · refine ⟨_, rfl, _, rfl, l, 50, rfl, b6.well, by decide, by decide, fun d H3 d0 d1 w7 k7 => ⟨_, rfl, rfl, (b6.tk k7 w7).tabs, fun f H4 m => ?_⟩⟩
        exact ⟨f, d, rfl, (b6.tk k7 w7).mk' m, k7.toN.trans (m.kp.mono (by simp)), made_own m (by omega) (by omega)⟩
      rintro _ G7 ⟨fo, seed, rfl, b7, k7, hfo⟩
      have hT7 := k7.x.talk hT6
      have hak7 := k7.lst (by simpa using nal) hak6
      have hfs7 := hfs6.kp k7
      have hpa7 := k7.tup hpa
      have spB : ∀ y : Int, 0 ≤ y → y ≤ 100 → ∀ x : Int, 0 ≤ x → x ≤ 100 → N.lens.length ≤ 12 ∧ N.sizes.length = N.lens.length ∧ (∀ z ∈ N.lens, 0 ≤ z ∧ z ≤ 20) ∧ (∀ r ∈ N.sizes, r.length ≤ 4 ∧ ∀ z ∈ r, 0 ≤ z ∧ z ≤ 300) ∧ 0 ≤ x ∧ x ≤ 100 ∧ 0 ≤ y ∧ y ≤ 100 := fun y y0 y1 x x0 x1 =>
        ⟨gl1, gok.tk.sl, fun z hz => by have := gok.tk.lb z hz; omega, fun r hr => ⟨by rw [gok.wd r hr]; exact gw4, fun z hz => by have := gok.tk.sb r hr z hz; omega⟩, x0, x1, y0, y1⟩
      -- _law_slow_by = by_speed(..)
      refine ⟨fun σ' G8 => ∃ (fw : Addr) (y : Int), σ' = [some (.ref a), some (.ref l), some (.int (0 + (i : Nat))), some (.ref p), some (.ref r), some (.ref t), some (.int (N.wide : Int)), some (.ref ak), some (.ref fs), some (.ref pa), some (.ref fo), some (.ref fw), v12, v13, v14, w15] ∧ TB1 K G8 l p r t ak fs pa fo fw N steps plan seed y ∧ G8 ak = some (.lst []), ?_, ?_⟩
      · refine ⟨_, rfl, _, rfl, l, 3, rfl, b7.well, by decide, by decide, fun d H3 d0 d1 w8 k8 => ⟨_, _, rfl, rfl, (by show 2 ≤ sizeLine; decide), fun pt hpt => ?_⟩⟩
        have kp : Kp [] H3 (upd H3 pt (.tup [.int 1, .int (1 + d)])) := Kp.refl.new hpt
        have b8 := (b7.tk k8 w8).kp kp (by simp)
        have kk := k8.trans (kp.mono (S' := [l]) (by simp))
        refine ⟨rfl, rfl, rfl, b8.tabs, fun f H4 m => ?_⟩
        have k9 : KpN [l] G7 H4 := kk.toN.trans (m.kp.mono (by simp))
        exact ⟨f, 1 + d, rfl, ⟨b8.mk' m, k9.x.talk hT7, nal, hfs7.kp k9, k9.tup hpa7, pl1, pl2, hfo.kp k9, made_speed m (kk.x.talk hT7) (SqT.of upd_same) (spB (1 + d) (by omega) (by omega) 1 (by decide) (by decide))⟩, k9.lst (by simpa using nal) hak7⟩
      rintro _ G8 ⟨fw, y, rfl, b8, hak8⟩
      -- _law_some = [..]
      refine ⟨fun σ' G9 => ∃ (so f2 f3 f4 : Addr), σ' = [some (.ref a), some (.ref l), some (.int (0 + (i : Nat))), some (.ref p), some (.ref r), some (.ref t), some (.int (N.wide : Int)), some (.ref ak), some (.ref fs), some (.ref pa), some (.ref fo), some (.ref fw), some (.ref so), v13, v14, w15] ∧ TB1 K G9 l p r t ak fs pa fo fw N steps plan seed y ∧ G9 ak = some (.lst []) ∧ G9 so = some (.lst [.ref pa, .ref fo, .ref fs, .ref f2, .ref f3, .ref f4]) ∧ so ≠ l ∧ so ≠ ak ∧ RlAt K G9 f2 (.speed N.lens N.sizes 4 5) ∧ ChAt K G9 ak (.ref f3) (.calm (.store steps)) ∧ ChAt K G9 ak (.ref f4) (.calm (.speed N.lens N.sizes 1 y)), ?_, ?_⟩
      · refine ⟨_, rfl, _, rfl, _, rfl, _, rfl, rfl, b8.b.tabs, fun f2 H2 m2 => ?_⟩
        have c2 := b8.mk' m2
        refine ⟨_, rfl, rfl, c2.b.tabs, fun f3 H3 m3 => ?_⟩
        have c3 := c2.mk' m3
        refine ⟨_, rfl, rfl, c3.b.tabs, fun f4 H4 m4 => ⟨(by show 6 ≤ sizeLine; decide), fun so hso => ?_⟩⟩
        have c4 := c3.mk' m4
        have kso : Kp [] H4 (upd H4 so (.lst [.ref pa, .ref fo, .ref fs, .ref f2, .ref f3, .ref f4])) := Kp.refl.new hso
        have k24 : KpN [] G8 H4 := (m2.kp.trans m3.kp).trans m4.kp
        have hak9 := k24.lst (by simp) hak8
        refine ⟨so, f2, f3, f4, rfl, c4.kp kso (c4.b.well.keep kso (by simp)), kso.lst (by simp) hak9, upd_same, (c4.b.well.ne hso).symm, (ne_of_none hak9 hso).symm, ?_, ?_, ?_⟩
        · exact (made_speed m2 b8.talk (part_at T _) (spB 5 (by decide) (by decide) 4 (by decide) (by decide))).kp ((m3.kp.trans m4.kp).trans kso.toN)
        · exact (made_calm m3 c2.fs).kp (m4.kp.trans kso.toN)
        · exact (made_calm m4 c3.fw).kp kso.toN
      rintro _ G9 ⟨so, f2, f3, f4, rfl, b9, hak9, hso9, nsl, nsa, hf2, hf3, hf4⟩
      -- _law_options_here = ..
      refine ⟨fun σ' G10 => ∃ (op : Addr) (b a' m wt : Int) (ops : Option (List Int)), σ' = [some (.ref a), some (.ref l), some (.int (0 + (i : Nat))), some (.ref p), some (.ref r), some (.ref t), some (.int (N.wide : Int)), some (.ref ak), some (.ref fs), some (.ref pa), some (.ref fo), some (.ref fw), some (.ref so), some (.ref op), v14, w15] ∧ OptOk N.lens b a' m wt ops ∧ OptAt K G10 op b a' m wt ops ∧ WellAt G10 l ∧ Kp [l] G9 G10, ?_, ?_⟩
      · obtain ⟨tl, ts, w1, w2, w3⟩ := b9.b.row
        exact ⟨_, rfl, _, rfl, p, _, _, _, rfl, rfl, w1, at_nat (by decide) rfl, l, tl, N.lens, rfl, b9.b.well, w2, gl0, gl1, gok.tk.lb, fun op b a' m wt ops H' O OA w kk => ⟨op, b, a', m, wt, ops, rfl, O, OA, w, kk⟩⟩
      rintro _ G10 ⟨op, b, a', m, wt, ops, rfl, O, OA, w10, k10⟩
      have b10 := b9.kp k10 w10
      have hak10 := k10.lst (by simpa using nal) hak9
      have hso10 := k10.lst (by simpa using nsl) hso9
      have f10 := hf2.kp k10.toN
      have g10 := hf3.kp k10.toN
      have h10 := hf4.kp k10.toN
      -- the law's own rule
      refine ⟨fun σ' G11 => σ' = [some (.ref a), some (.ref l), some (.int (0 + (i : Nat))), some (.ref p), some (.ref r), some (.ref t), some (.int (N.wide : Int)), some (.ref ak), some (.ref fs), some (.ref pa), some (.ref fo), some (.ref fw), some (.ref so), some (.ref op), v14, w15] ∧ Kp [ak] G10 G11, ?_, ?_⟩
      · refine ⟨_, rfl, _, rfl, _, rfl, _, rfl, _, rfl, p, r, op, ak, .ref fo, .ref ak, N.lens, N.sizes, N.qs, N.n0, N.z, b, a', m, wt, ops, N.wide, .own seed (N.wide : Int), rfl, ⟨gok, O, rfl, b10.b.row, b10.b.road, OA, b10.fo, ⟨⟨[], hak10, rfl, fun j x e => by simp at e⟩, by simp⟩, .inr ⟨seed, rfl, rfl⟩⟩, fun H' kk => ⟨_, rfl, iteF ⟨rfl, kk⟩⟩⟩
      rintro _ G11 ⟨rfl, k11⟩
      have w11 := b10.b.well.keep k11 (by simpa using nal.symm)
      have b11 := b10.kp k11 w11
      have hso11 := k11.lst (by simpa using nsa) hso10
      have OA11 := OA.x k11.x
      have f11 := f10.kp k11.toN
      have g11 := g10.kp k11.toN
      have h11 := h10.kp k11.toN
      -- _law_chooser = _law_some[..]
      refine ⟨fun σ' G12 => ∃ chv : V, σ' = [some (.ref a), some (.ref l), some (.int (0 + (i : Nat))), some (.ref p), some (.ref r), some (.ref t), some (.int (N.wide : Int)), some (.ref ak), some (.ref fs), some (.ref pa), some (.ref fo), some (.ref fw), some (.ref so), some (.ref op), some chv, w15] ∧ Kp [l] G11 G12 ∧ WellAt G12 l ∧ (chv = .ref fo ∨ ∃ ch, Other K G12 ak chv ch N.lens.length N.wide), ?_, ?_⟩
      · refine ⟨_, rfl, _, rfl, l, 6, rfl, w11, by decide, by decide, fun d H' d0 d1 w12 k12 => ?_⟩
        have hso12 := k12.lst (by simpa using nsl) hso11
        have b12 := b11.kp k12 w12
        have hd : d = 0 ∨ d = 1 ∨ d = 2 ∨ d = 3 ∨ d = 4 ∨ d = 5 := by omega
        rcases hd with rfl | rfl | rfl | rfl | rfl | rfl
        · exact ⟨so, _, _, _, rfl, rfl, SqL.of hso12, at_nat (by decide) rfl, .ref pa, rfl, k12, w12, .inr ⟨.plan plan, ⟨pa, rfl, b12.pa⟩, ⟨Nat.le_of_eq b12.pl.symm, b12.pb⟩, ⟨pa, rfl, .inr ⟨_, b12.pa⟩⟩, rfl, fun _ => True.intro⟩⟩
        · exact ⟨so, _, _, _, rfl, rfl, SqL.of hso12, at_nat (by decide) rfl, .ref fo, rfl, k12, w12, .inl rfl⟩
        · exact ⟨so, _, _, _, rfl, rfl, SqL.of hso12, at_nat (by decide) rfl, .ref fs, rfl, k12, w12, .inr ⟨.rl (.store steps), ⟨fs, rfl, b12.fs⟩, (by show N.lens.length ≤ 1000000; omega), ⟨fs, rfl, .inl b12.fs.fn⟩, rfl, fun _ => True.intro⟩⟩
        · exact ⟨so, _, _, _, rfl, rfl, SqL.of hso12, at_nat (by decide) rfl, .ref f2, rfl, k12, w12, .inr ⟨.rl (.speed N.lens N.sizes 4 5), ⟨f2, rfl, f11.kp k12.toN⟩, Nat.le_refl _, ⟨f2, rfl, .inl (f11.kp k12.toN).fn⟩, rfl, fun _ => True.intro⟩⟩
        · exact ⟨so, _, _, _, rfl, rfl, SqL.of hso12, at_nat (by decide) rfl, .ref f3, rfl, k12, w12, .inr ⟨.calm (.store steps), g11.kp k12.toN, (by show N.lens.length ≤ 1000000; omega), ⟨f3, rfl, .inl (calm_fn (g11.kp k12.toN))⟩, rfl, fun _ => True.intro⟩⟩
        · exact ⟨so, _, _, _, rfl, rfl, SqL.of hso12, at_nat (by decide) rfl, .ref f4, rfl, k12, w12, .inr ⟨.calm (.speed N.lens N.sizes 1 y), h11.kp k12.toN, Nat.le_refl _, ⟨f4, rfl, .inl (calm_fn (h11.kp k12.toN))⟩, rfl, fun _ => True.intro⟩⟩
      rintro _ G12 ⟨chv, rfl, k12, w12, hch⟩
      have b12 := b11.kp k12 w12
      have OA12 := OA11.x k12.x
      obtain ⟨F0, hF0⟩ := own_fn b12.fo
      -- another chooser
      refine ⟨fun σ' G13 => σ' = [some (.ref a), some (.ref l), some (.int (0 + (i : Nat))), some (.ref p), some (.ref r), some (.ref t), some (.int (N.wide : Int)), some (.ref ak), some (.ref fs), some (.ref pa), some (.ref fo), some (.ref fw), some (.ref so), some (.ref op), some chv, w15] ∧ Kp [] G12 G13, ?_, ?_⟩
      · rcases hch with rfl | ⟨ch, c1, c2, ⟨x, rfl, c3⟩, c4, c5⟩
        · refine ⟨_, rfl, _, rfl, fo, F0, rfl, hF0, .inl ⟨fo, F0, rfl, hF0, _, rfl, ?_⟩⟩
          rw [decide_eq_true rfl]
          exact iteF (iteF ⟨rfl, Kp.refl⟩)
        · have call : ∀ (bb : Bool), (bb = true → True) → True := fun _ _ => True.intro
          rcases c3 with ⟨F1, hF1⟩ | ⟨xs, hxs⟩
          · refine ⟨_, rfl, _, rfl, fo, F0, rfl, hF0, .inl ⟨x, F1, rfl, hF1, _, rfl, ?_⟩⟩
            by_cases hx : x = fo
            · rw [decide_eq_true hx]
              exact iteF (iteF ⟨rfl, Kp.refl⟩)
            · rw [decide_eq_false hx]
              refine iteT ⟨_, rfl, _, rfl, _, rfl, _, rfl, p, r, op, ak, .ref x, .non, N.lens, N.sizes, N.qs, N.n0, N.z, b, a', m, wt, ops, N.wide, ch, rfl, ⟨gok, O, c2, b12.b.row, b12.b.road, OA12, c1, c5 G12, .inl rfl⟩, fun H' kk => ⟨_, rfl, iteF ⟨rfl, ?_⟩⟩⟩
              rw [c4] at kk
              exact kk
          · refine ⟨_, rfl, _, rfl, fo, F0, rfl, hF0, .inr ⟨x, xs, rfl, hxs, _, rfl, ?_⟩⟩
            refine iteT ⟨_, rfl, _, rfl, _, rfl, _, rfl, p, r, op, ak, .ref x, .non, N.lens, N.sizes, N.qs, N.n0, N.z, b, a', m, wt, ops, N.wide, ch, rfl, ⟨gok, O, c2, b12.b.row, b12.b.road, OA12, c1, c5 G12, .inl rfl⟩, fun H' kk => ⟨_, rfl, iteF ⟨rfl, ?_⟩⟩⟩
            rw [c4] at kk
            exact kk
      rintro _ G13 ⟨rfl, k13⟩
      have w13 := w12.keep k13 (by simp)
      have b13 := b12.kp k13 w13
      -- the plan, with the least room
      obtain ⟨tl, ts, w1, w2, w3⟩ := b13.b.row
      refine ⟨_, rfl, _, rfl, _, rfl, _, rfl, p, _, _, _, rfl, rfl, w1, at_nat (by decide) rfl, tl, N.lens, rfl, w2, by omega, fun mx hmx hmx2 => ⟨rfl, rfl, ?_⟩⟩
      have O3 : OptOk N.lens 4 8 mx 0 none := ⟨by decide, by decide, by decide, by decide, hmx2, by have := gok.tk.lb mx hmx; omega, by decide, by decide, fun os e => by cases e⟩
      have C3 : ChOk N.lens.length N.wide (.plan plan) := ⟨Nat.le_of_eq b13.pl.symm, b13.pb⟩
      obtain ⟨row, rst, es, hw, RI⟩ := run_in (K := K) (H := G13) (t := t) (r := r) (asked := ak) (chv := .ref pa) (pre := []) gok O3 C3 b13.talk b13.b.road ⟨pa, rfl, b13.pa⟩ True.intro (by simp)
      refine ⟨t, r, ak, .ref pa, .non, _, .plan plan, row, rst, N.qs, N.n0, N.z, [], rfl, RI, rfl, fun rn st G14 f d ra ha kp => ?_⟩
      rw [hw] at d
      have k14 : Kp [] G13 G14 := kp
      obtain ⟨dx, tr, tb, tw, tp, tss, tk, h0, h1, h2, h3, h4, h5, h6⟩ := ra
      refine ⟨rn, _, _, _, _, rfl, h0, T.cl_Run, T.n_Run_rates, lookF (i := 0) nd_Run rfl rfl, _, rfl, ?_⟩
      have er : st.rates = plan := by
        refine List.ext_getElem (by rw [d.lr, b13.pl] <;> rfl) fun j h1 h2 => ?_
        have hj := d.g.ra j h1
        have e1 : st.rates.getD j 0 = plan.getD (st.seens.getD j default).num.toNat 0 := hj.1
        rw [hj.2, List.getD_eq_getElem?_getD, List.getElem?_eq_getElem h1, Int.toNat_natCast, List.getD_eq_getElem?_getD, List.getElem?_eq_getElem h2] at e1
        exact e1
      rw [er] at h1
      refine ne_tups h1 (k14.tup b13.pa) ⟨_, rfl, iteF ?_⟩
      exact ⟨_, _, _, _, _, _, _, _, _, _, _, _, _, _, rfl, w13.keep k14 (by simp), k14.tabs b13.b.tabs⟩
    · rintro σ G ⟨v2, v3, v4, v5, v6, v7, v8, v9, v10, v11, v12, v13, v14, v15, rfl, _⟩
      exact k _
end
end K76


set_option Elab.async false
set_option linter.all false
set_option maxRecDepth 100000
set_option maxHeartbeats 0
/-! The end: from the head's facts to the row. -/
namespace K76
open PySem PySem.Spec PyProof.Rows L2 LamX NdefX
theorem tx_of {K : PySem.W.Frag} {h : Heap} {mg : Str → Option Value} {w : World} (X : K.In h) (G : h.Ns mainGlobals mg) (c : He.SaysX faL fnL [] tfL exB w h K) : Tx K mg where
  df := fun d hd => c.t.d.defs hd
  gl := fun x hx => He.glo_ok X G (c.t.d.facts hx)
  fr := fun x hx => He.free_ok X G (c.t.d.facts hx)
  it := fun x i hx => He.int_ok X G (c.t.d.facts hx)
  ok := fun f hf => c.t.d.facts hf
  ex := c.more
theorem tabs_of {K : PySem.W.Frag} {H : Hp} (h : ∀ p ∈ tfL.map (He.cT K), H p.2 = some (.tbl #[])) : TabsN (tabL K) H := fun p hp => by
  have hm : p.1 ∈ (tfL.map (He.cT K)).map (·.2) := by
    have := List.mem_map_of_mem (f := fun q : NTab => q.1) hp
    exact this
  obtain ⟨q, hq, e⟩ := List.mem_map.mp hm
  refine ⟨#[], by rw [← e]; exact h q hq, ?_, fun pos cv z => by cases z⟩
  trivial
theorem law_at {w : World} {K : PySem.W.Frag} {h : Heap} {mg : Str → Option Value} {fa : Addr} (X : K.In h) (G : h.Ns mainGlobals mg) (c : He.SaysX faL fnL [] tfL exB w h K) (hmg : mg ("law" : Str) = some (.ref fa)) : LawAtG PySem.Challenge.rw_rateplan_k76_whole_played_in_order w K 8 63 "_law_script" mg fa h := by
  have T := tx_of X G c
  obtain ⟨fd, F⟩ := D_law T
  have e : fa = He.ga K "law" := by
    have := hmg.symm.trans T.g_law
    cases this
    rfl
  subst e
  have b := FunD.bindsA (ps := ["_law_script"]) F fun _ _ _ _ _ _ us hl => match us, hl with | [_], _ => rfl
  refine ⟨fd, tfL.map (He.cT K), spLaw K, fun p hp => ?_, fun p hp => ?_, fun p hp => ?_, fun s u => b s [u] rfl, fun H a ns hl hbits hT hS => ⟨a, ns, rfl, hS, hbits, tabs_of hT, fun _ => rfl⟩, fun base hK hN hB => ?_⟩
  · obtain ⟨q, hq, rfl⟩ := List.mem_map.mp hp
    exact c.empty q hq
  · obtain ⟨q, hq, rfl⟩ := List.mem_map.mp hp
    exact c.out q hq
  · obtain ⟨q, hq, rfl⟩ := List.mem_map.mp hp
    exact PySem.W.codeHd_of_K X (c.hd q hq)
  · exact c_law T (fun q hq => hB _ (List.mem_map_of_mem hq)) F
end K76
open PySem PySem.W PySem.Calls PyProof.Rows
theorem PySem.Challenge.cw_rateplan_k76_whole_played_in_order_holds : PySem.Challenge.rw_rateplan_k76_whole_played_in_order.Holds := by
  w_on; o_law
  refine HandSHeadRun.head_any (r := OpenLaw.row PySem.Challenge.rw_rateplan_k76_whole_played_in_order) (q := view (OpenLaw.row PySem.Challenge.rw_rateplan_k76_whole_played_in_order).prog [57]) (H := K76.hk) (ob := K76.ob) (M := 12000) (loose := K76.nmL) (d := HandSHeadRun.topDef (OpenLaw.row PySem.Challenge.rw_rateplan_k76_whole_played_in_order).prog 57) (kwd := []) K76.ob_eq
    (by kernel_rfl) (fun s => by kernel_rfl) K76.run (by kernel_rfl) (by kernel_rfl) (by kernel_rfl) (by rfl) (by first | assumption | decide +kernel) (by decide +kernel) ⟨rfl, rfl, rfl, rfl, rfl, by decide +kernel⟩ ?hw ?hc
  case hw => w_witness2
  case hc =>
    refine K76.walk_ofG (l := PySem.Challenge.rw_rateplan_k76_whole_played_in_order) (n := 63) (k := 8) (x := "_law_script") rfl (by decide) (by kernel_rfl) ⟨rfl, by decide, by decide⟩ ?F
    intro w mg fa h Y G hmg0
    obtain ⟨K, KX, c⟩ := Y
    have hmg : mg ("law" : PySem.Str) = some (.ref fa) := by
      have e : (HandSHeadRun.topDef (OpenLaw.row PySem.Challenge.rw_rateplan_k76_whole_played_in_order).prog 57).name = ("law" : PySem.Str) := by kernel_rfl
      rw [← e]
      exact hmg0
    exact ⟨K, KX, K76.law_at KX G c hmg⟩

