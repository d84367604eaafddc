import PyProof.Rows.All
import Wide.All
import OpenK.AllK
import Wide.FinOn
import KE.KStateDown
import KE.KDictKeyed
import Lean
import HandS.ForMost
import HandS.Defaults
import HandS.Property
import HandS.Star
import HandS.DictComp
import HandS.DictTup
import HandS.Flow
import HandS.Style
import HandS.Small
import HandS.IsInst
import HandS.Codes
import HandS.Conv
import HandS.Walk
import HandS.Wide
import HandS.WideBits
import HandS.MakeKwOnly
import HandS.MakeKw
import HandS.SortOrd
import HandS.TupSets
import HandS.TupAny
import HandS.Deep
import HandS.Head0
import HandS.Head1
import HandS.Head2
import HandS.HeadEnd
import HandS.HeadHook1
import HandS.HeadHook2
import KE.SortData
import KE.KDictDisplayH
import HandS.NoneIn
import PySem.Challenge.RW_owntimes_k86_whole_loosened_lines
set_option Elab.async false
set_option linter.all false
set_option maxRecDepth 100000
set_option maxHeartbeats 4000000
namespace Own
open PySem PySem.Spec PyProof.Rows L2 He
/-! ### the text by places -/
def top (i : Nat) : Stmt := PySem.Challenge.pw_owntimes_k86_whole_loosened_lines.main.body.getD i (.Pass ⟨0, 0, 0, 0⟩)
abbrev s_is_integer : Stmt := top 31
abbrev s_is_name : Stmt := top 32
abbrev s_check_numbers : Stmt := top 38
abbrev s_least_period : Stmt := top 39
abbrev s_least_form : Stmt := top 40
abbrev s_flags_of : Stmt := top 41
abbrev s_flag_at : Stmt := top 42
abbrev s_Lags_init : Stmt := inClass (top 47) 0
abbrev s_Lags_start : Stmt := inClass (top 47) 2
abbrev s_Lags_period : Stmt := inClass (top 47) 3
abbrev s_Lags_members : Stmt := inClass (top 47) 4
abbrev s_Lags_first : Stmt := inClass (top 47) 5
abbrev s_Lags_contains : Stmt := inClass (top 47) 7
abbrev s_Lags_within : Stmt := inClass (top 47) 16
abbrev s_check_lags : Stmt := top 48
abbrev s_FormedLags_init : Stmt := inClass (top 49) 0
abbrev s_lags_with : Stmt := top 50
abbrev s_common_multiple : Stmt := top 52
abbrev s_both_ends : Stmt := top 53
abbrev s_form_left : Stmt := top 54
abbrev s_lags_of : Stmt := top 58
abbrev s_left_of : Stmt := top 59
abbrev s_check_name : Stmt := top 61
abbrev s_check_flag : Stmt := top 62
abbrev s_Station_init : Stmt := inClass (top 63) 0
abbrev s_Station_name : Stmt := inClass (top 63) 1
abbrev s_Station_hands : Stmt := inClass (top 63) 2
abbrev s_Station_timed : Stmt := inClass (top 63) 3
abbrev s_Link_init : Stmt := inClass (top 64) 0
abbrev s_Link_source : Stmt := inClass (top 64) 1
abbrev s_Link_target : Stmt := inClass (top 64) 2
abbrev s_Link_stock : Stmt := inClass (top 64) 3
abbrev s_Link_early : Stmt := inClass (top 64) 4
abbrev s_check_stations : Stmt := top 65
abbrev s_check_links : Stmt := top 66
abbrev s_Line_init : Stmt := inClass (top 72) 0
abbrev s_Line_stations : Stmt := inClass (top 72) 2
abbrev s_Line_links : Stmt := inClass (top 72) 3
abbrev s_Line_outlet : Stmt := inClass (top 72) 4
abbrev s_Line_names : Stmt := inClass (top 72) 5
abbrev s_Line_timed : Stmt := inClass (top 72) 6
abbrev s_Line_len : Stmt := inClass (top 72) 7
abbrev s_check_line : Stmt := top 77
abbrev s_check_station : Stmt := top 78
abbrev s_ends_of : Stmt := top 81
abbrev s_rings_from : Stmt := top 82
abbrev s_rings : Stmt := top 83
abbrev s_stuck : Stmt := top 84
abbrev s_check_free : Stmt := top 85
abbrev s_width_of : Stmt := top 87
abbrev s_entries_of : Stmt := top 88
abbrev s_is_begun : Stmt := top 89
abbrev s_next_row : Stmt := top 90
abbrev s_Walk_init : Stmt := inClass (top 91) 0
abbrev s_Walk_lags_at : Stmt := inClass (top 91) 1
abbrev s_Walk_ends : Stmt := inClass (top 91) 2
abbrev s_Walk_begins : Stmt := inClass (top 91) 3
abbrev s_walked : Stmt := top 92
abbrev s_Orders_init : Stmt := inClass (top 94) 0
abbrev s_Orders_to_outlet : Stmt := inClass (top 94) 1
abbrev s_Orders_between : Stmt := inClass (top 94) 2
abbrev s_Orders_is_before : Stmt := inClass (top 94) 3
abbrev s_Orders_are_in_sequence : Stmt := inClass (top 94) 4
abbrev s_order_lags : Stmt := top 95
abbrev s_outlet_lags : Stmt := top 96
abbrev s_check_pair : Stmt := top 98
abbrev s_check_whole : Stmt := top 99
abbrev s_bad_lags : Stmt := top 102
abbrev s_single_cases : Stmt := top 103
abbrev s_pair_cases : Stmt := top 104
abbrev s_least_case : Stmt := top 105
abbrev s_later_case : Stmt := top 106
abbrev s_never_later : Stmt := top 107
abbrev s_Exchange_init : Stmt := inClass (top 109) 0
abbrev s_Exchange_cheapest : Stmt := inClass (top 109) 1
abbrev s_common_period : Stmt := top 111
abbrev s_far_of : Stmt := top 112
abbrev s_counting : Stmt := top 113
abbrev s_lost_station : Stmt := top 114
abbrev s_free_station : Stmt := top 115
abbrev s_Search_init : Stmt := inClass (top 116) 0
abbrev s_Search_is_done : Stmt := inClass (top 116) 1
abbrev s_Search_is_free : Stmt := inClass (top 116) 2
abbrev s_Search_next_tasks : Stmt := inClass (top 116) 3
abbrev s_Search_go : Stmt := inClass (top 116) 4
abbrev s_most_alone : Stmt := top 117
abbrev s_most_tasks : Stmt := top 118
abbrev s_factor : Stmt := top 119
abbrev s_are_never_bad : Stmt := top 120
abbrev s_later_by : Stmt := top 121
abbrev s_suits : Stmt := top 122
abbrev s_head_start : Stmt := top 123
abbrev s_law_purl : Stmt := top 125
abbrev s_law_dig : Stmt := top 126
abbrev s_law_words : Stmt := top 127
abbrev s_law_tie : Stmt := top 128
abbrev s_law_post : Stmt := top 129
abbrev s_law_chained : Stmt := top 130
abbrev s_law_plan : Stmt := top 131
abbrev s_law_line : Stmt := top 132
abbrev s_law_onset : Stmt := top 133
abbrev s_law_settled : Stmt := top 134
abbrev s_law_played : Stmt := top 135
abbrev s_law_ended : Stmt := top 136
abbrev s_law_times : Stmt := top 137
abbrev s_law_loosened : Stmt := top 138
abbrev s_law_kept : Stmt := top 139
abbrev s_law_step_right : Stmt := top 140
abbrev s_law_right : Stmt := top 141
abbrev s_law : Stmt := top 142
/-! ### facts -/
/-- the getter of a property -/
def pa (K : PySem.W.Frag) (C : Addr) (f : Str) : Addr := match PySem.W.findIn K (.ref C) f with
  | some (some (.ref p)) => (match PySem.W.recIn K p "property" with
    | some (.ref g :: _) => g
    | _ => 0)
  | _ => 0
def propB (K : PySem.W.Frag) (C : Addr) (f : Str) (g : Addr) : Bool := match PySem.W.findIn K (.ref C) f with
  | some (some (.ref p)) => eqO (PySem.W.specialIn K (.ref p) "__get__") (some (some (.builtin "property.__get__"))) && (decide (PySem.W.takesIn K (.ref p) = some true) && (match PySem.W.recIn K p "property" with
    | some (.ref h :: _) => decide (h = g)
    | _ => false))
  | _ => false
theorem propB_ok {K : PySem.W.Frag} {C g : Addr} {f : Str} (h : propB K C f g = true) : ∃ p, PropOf K C f p g := by
  unfold propB at h
  cases e : PySem.W.findIn K (.ref C) f with
  | none => rw [e] at h; cases h
  | some r =>
    rw [e] at h
    cases r with
    | none => cases h
    | some v =>
      cases v with
      | ref p =>
        obtain ⟨h1, h2⟩ := ba h
        obtain ⟨h3, h4⟩ := ba h2
        cases e2 : PySem.W.recIn K p "property" with
        | none => rw [e2] at h4; cases h4
        | some l =>
          rw [e2] at h4
          cases l with
          | nil => cases h4
          | cons a r =>
            cases a with
            | ref b =>
              have q : b = g := of_decide_eq_true h4
              subst q
              exact ⟨p, e, eqO_ok h1, of_decide_eq_true h3, r, e2⟩
            | _ => cases h4
      | _ => cases h
def insB (K : PySem.W.Frag) (C T : Addr) : Bool := eqO (PySem.W.findIn K (.ref C) "__class__") (some (some (.builtin "object.__class__"))) && (eqO (PySem.W.specialIn K (.builtin "object.__class__") "__get__") (some (some (.builtin "getset_descriptor.__get__"))) &&
  (decide (PySem.W.takesIn K (.builtin "object.__class__") = some true) && (decide (PySem.W.mroIn K C (.type "object") = some true) && decide (PySem.W.kitOne K (.ref C) (.ref T) = some true))))
/-- what isinstance asks, C's instance against T -/
structure InsT (K : PySem.W.Frag) (C T : Addr) : Prop where
  cl : Cls K C
  ha : PySem.W.findIn K (.ref C) "__class__" = some (some (.builtin "object.__class__"))
  hn : PySem.W.specialIn K (.builtin "object.__class__") "__get__" = some (some (.builtin "getset_descriptor.__get__"))
  htk : PySem.W.takesIn K (.builtin "object.__class__") = some true
  hm : PySem.W.mroIn K C (.type "object") = some true
  me : PySem.W.kitOne K (.ref C) (.ref T) = some true
theorem insB_ok {K : PySem.W.Frag} {C T : Addr} (c : Cls K C) (h : insB K C T = true) : InsT K C T := by
  obtain ⟨h1, h⟩ := ba h
  obtain ⟨h2, h⟩ := ba h
  obtain ⟨h3, h⟩ := ba h
  obtain ⟨h4, h5⟩ := ba h
  exact ⟨c, eqO_ok h1, eqO_ok h2, of_decide_eq_true h3, of_decide_eq_true h4, of_decide_eq_true h5⟩
def tupA (K : PySem.W.Frag) (a : Addr) (vs : List V) : Bool := match K.lookup a with
  | some ⟨.type c, _, .seq its _, _⟩ => decide (c = "tuple") && (decide (its.size ≤ sizeLine) && relAll vs its.toList)
  | _ => false
theorem tupA_ok {K : PySem.W.Frag} {a : Addr} {vs : List V} (h : tupA K a vs = true) (H : Hp) : SqT K H a vs := by
  unfold tupA at h
  cases q : K.lookup a with
  | none => rw [q] at h; cases h
  | some o =>
    obtain ⟨oc, od, dt, osl⟩ := o
    rw [q] at h
    cases oc with
    | type c =>
      cases dt with
      | seq its n =>
        obtain ⟨h1, h2⟩ := ba (show (decide (c = "tuple") && (decide (its.size ≤ sizeLine) && relAll vs its.toList)) = true from h)
        obtain ⟨h3, h4⟩ := ba h2
        exact .inr ⟨_, its, n, q, congrArg Value.type (of_decide_eq_true h1), rfl, of_decide_eq_true h3, relAll_ok h4⟩
      | _ => cases h
    | _ => cases dt <;> cases h
/-- one def: where it stands, names, parameters, body, scope, defaults -/
structure DefM where
  ad : PySem.W.Frag → Addr
  name : Str
  qual : Str
  params : Arguments
  body : List Stmt
  scope : Scope
  dfl : List Dv := []
  kwd : List (Str × Dv) := []
def DefM.val (d : DefM) : FnW := some (d.name, d.qual, d.params, .stmts d.body, d.scope, mainGlobals, [], builtinsNs)
def DefM.dvs (K : PySem.W.Frag) (d : DefM) : List V := d.dfl.map (Dv.v K)
def DefM.kws (K : PySem.W.Frag) (d : DefM) : List (Str × V) := d.kwd.map fun q => (q.1, q.2.v K)
def fnM (K : PySem.W.Frag) (a : Addr) : FnW := match K.lookup a with
  | some ⟨_, _, .func fd, _⟩ => some (fd.name, fd.qualname, fd.params, fd.body, fd.scope, fd.globals, fd.closure, fd.builtins)
  | _ => none
def DefM.ok (K : PySem.W.Frag) (d : DefM) : Bool := PySem.W.keepIn K (.ref (d.ad K)) && (match K.lookup (d.ad K) with
  | some ⟨_, _, .func fd, _⟩ => PySem.W.codeIn K fd.code d.qual && (dflB K fd.defaults (d.dvs K) && kwdB K fd.kwdefaults (d.kws K))
  | _ => false)
/-- the function's object -/
def fdAt (K : PySem.W.Frag) (a : Addr) : FuncData := match K.lookup a with
  | some ⟨_, _, .func fd, _⟩ => fd
  | _ => default
theorem DefM.funD {K : PySem.W.Frag} {d : DefM} (e : fnM K (d.ad K) = d.val) (c : d.ok K = true) : FunD K d.name d.qual d.params d.body d.scope (d.dvs K) (d.kws K) (d.ad K) (fdAt K (d.ad K)) := by
  obtain ⟨kp, c2⟩ := ba c
  unfold fnM at e
  unfold fdAt
  cases q : K.lookup (d.ad K) with
  | none => rw [q] at c2; cases c2
  | some o =>
    obtain ⟨oc, od, dt, osl⟩ := o
    rw [q] at c2 e
    cases dt with
    | func fd =>
      obtain ⟨n1, n2, n3, n4, n5, n6, n7, n8, n9, n10, n11, n12, n13, n14, n15⟩ := fd
      have e2 : (some (n1, n2, n3, n4, n5, n6, n7, n15) : FnW) = some (d.name, d.qual, d.params, .stmts d.body, d.scope, mainGlobals, [], builtinsNs) := e
      simp only [Option.some.injEq, Prod.mk.injEq] at e2
      obtain ⟨h1, h2, h3, h4, h5, h6, h7, h8⟩ := e2
      subst h1 h2 h3 h4 h5 h6 h7 h8
      have c3 : (PySem.W.codeIn K n13 d.qual && (dflB K n8 (d.dvs K) && kwdB K n9 (d.kws K))) = true := c2
      obtain ⟨k1, k2⟩ := ba c3
      obtain ⟨k3, k4⟩ := ba k2
      exact ⟨⟨oc, od, n8, n9, n10, n11, n12, n13, n14, osl, rfl, q, k1, dflB_ok k3, kwdB_ok k4⟩, kp⟩
    | _ => cases c2
def d_is_integer : DefM := ⟨fun K => ga K "is_integer", "is_integer", "is_integer", defArgs s_is_integer, defBody s_is_integer, defScope s_is_integer, [], []⟩
def d_is_name : DefM := ⟨fun K => ga K "is_name", "is_name", "is_name", defArgs s_is_name, defBody s_is_name, defScope s_is_name, [], []⟩
def d_check_numbers : DefM := ⟨fun K => ga K "check_numbers", "check_numbers", "check_numbers", defArgs s_check_numbers, defBody s_check_numbers, defScope s_check_numbers, [], []⟩
def d_least_period : DefM := ⟨fun K => ga K "least_period", "least_period", "least_period", defArgs s_least_period, defBody s_least_period, defScope s_least_period, [], []⟩
def d_least_form : DefM := ⟨fun K => ga K "least_form", "least_form", "least_form", defArgs s_least_form, defBody s_least_form, defScope s_least_form, [], []⟩
def d_flags_of : DefM := ⟨fun K => ga K "flags_of", "flags_of", "flags_of", defArgs s_flags_of, defBody s_flags_of, defScope s_flags_of, [], []⟩
def d_flag_at : DefM := ⟨fun K => ga K "flag_at", "flag_at", "flag_at", defArgs s_flag_at, defBody s_flag_at, defScope s_flag_at, [], []⟩
def d_Lags_init : DefM := ⟨fun K => ma K (ga K "Lags") "__init__", "__init__", "Lags.__init__", defArgs s_Lags_init, defBody s_Lags_init, defScope s_Lags_init, [.adr (He.dflAt ("Lags", some "__init__") 0), .adr (He.dflAt ("Lags", some "__init__") 1), .int 1], []⟩
def d_Lags_start : DefM := ⟨fun K => pa K (ga K "Lags") "start", "start", "Lags.start", defArgs s_Lags_start, defBody s_Lags_start, defScope s_Lags_start, [], []⟩
def d_Lags_period : DefM := ⟨fun K => pa K (ga K "Lags") "period", "period", "Lags.period", defArgs s_Lags_period, defBody s_Lags_period, defScope s_Lags_period, [], []⟩
def d_Lags_members : DefM := ⟨fun K => pa K (ga K "Lags") "members", "members", "Lags.members", defArgs s_Lags_members, defBody s_Lags_members, defScope s_Lags_members, [], []⟩
def d_Lags_first : DefM := ⟨fun K => pa K (ga K "Lags") "first", "first", "Lags.first", defArgs s_Lags_first, defBody s_Lags_first, defScope s_Lags_first, [], []⟩
def d_Lags_contains : DefM := ⟨fun K => ma K (ga K "Lags") "__contains__", "__contains__", "Lags.__contains__", defArgs s_Lags_contains, defBody s_Lags_contains, defScope s_Lags_contains, [], []⟩
def d_Lags_within : DefM := ⟨fun K => ma K (ga K "Lags") "within", "within", "Lags.within", defArgs s_Lags_within, defBody s_Lags_within, defScope s_Lags_within, [], []⟩
def d_check_lags : DefM := ⟨fun K => ga K "check_lags", "check_lags", "check_lags", defArgs s_check_lags, defBody s_check_lags, defScope s_check_lags, [], []⟩
def d_FormedLags_init : DefM := ⟨fun K => ma K (ga K "FormedLags") "__init__", "__init__", "FormedLags.__init__", defArgs s_FormedLags_init, defBody s_FormedLags_init, defScope s_FormedLags_init, [], []⟩
def d_lags_with : DefM := ⟨fun K => ga K "lags_with", "lags_with", "lags_with", defArgs s_lags_with, defBody s_lags_with, defScope s_lags_with, [], []⟩
def d_common_multiple : DefM := ⟨fun K => ga K "common_multiple", "common_multiple", "common_multiple", defArgs s_common_multiple, defBody s_common_multiple, defScope s_common_multiple, [], []⟩
def d_both_ends : DefM := ⟨fun K => ga K "both_ends", "both_ends", "both_ends", defArgs s_both_ends, defBody s_both_ends, defScope s_both_ends, [], []⟩
def d_form_left : DefM := ⟨fun K => ga K "form_left", "form_left", "form_left", defArgs s_form_left, defBody s_form_left, defScope s_form_left, [], []⟩
def d_lags_of : DefM := ⟨fun K => ga K "lags_of", "lags_of", "lags_of", defArgs s_lags_of, defBody s_lags_of, defScope s_lags_of, [], []⟩
def d_left_of : DefM := ⟨fun K => ga K "left_of", "left_of", "left_of", defArgs s_left_of, defBody s_left_of, defScope s_left_of, [], []⟩
def d_check_name : DefM := ⟨fun K => ga K "check_name", "check_name", "check_name", defArgs s_check_name, defBody s_check_name, defScope s_check_name, [], []⟩
def d_check_flag : DefM := ⟨fun K => ga K "check_flag", "check_flag", "check_flag", defArgs s_check_flag, defBody s_check_flag, defScope s_check_flag, [], []⟩
def d_Station_init : DefM := ⟨fun K => ma K (ga K "Station") "__init__", "__init__", "Station.__init__", defArgs s_Station_init, defBody s_Station_init, defScope s_Station_init, [.int 1], [("timed", .bl true)]⟩
def d_Station_name : DefM := ⟨fun K => pa K (ga K "Station") "name", "name", "Station.name", defArgs s_Station_name, defBody s_Station_name, defScope s_Station_name, [], []⟩
def d_Station_hands : DefM := ⟨fun K => pa K (ga K "Station") "hands", "hands", "Station.hands", defArgs s_Station_hands, defBody s_Station_hands, defScope s_Station_hands, [], []⟩
def d_Station_timed : DefM := ⟨fun K => pa K (ga K "Station") "timed", "timed", "Station.timed", defArgs s_Station_timed, defBody s_Station_timed, defScope s_Station_timed, [], []⟩
def d_Link_init : DefM := ⟨fun K => ma K (ga K "Link") "__init__", "__init__", "Link.__init__", defArgs s_Link_init, defBody s_Link_init, defScope s_Link_init, [.int 0], [("early", .bl false)]⟩
def d_Link_source : DefM := ⟨fun K => pa K (ga K "Link") "source", "source", "Link.source", defArgs s_Link_source, defBody s_Link_source, defScope s_Link_source, [], []⟩
def d_Link_target : DefM := ⟨fun K => pa K (ga K "Link") "target", "target", "Link.target", defArgs s_Link_target, defBody s_Link_target, defScope s_Link_target, [], []⟩
def d_Link_stock : DefM := ⟨fun K => pa K (ga K "Link") "stock", "stock", "Link.stock", defArgs s_Link_stock, defBody s_Link_stock, defScope s_Link_stock, [], []⟩
def d_Link_early : DefM := ⟨fun K => pa K (ga K "Link") "early", "early", "Link.early", defArgs s_Link_early, defBody s_Link_early, defScope s_Link_early, [], []⟩
def d_check_stations : DefM := ⟨fun K => ga K "check_stations", "check_stations", "check_stations", defArgs s_check_stations, defBody s_check_stations, defScope s_check_stations, [], []⟩
def d_check_links : DefM := ⟨fun K => ga K "check_links", "check_links", "check_links", defArgs s_check_links, defBody s_check_links, defScope s_check_links, [], []⟩
def d_Line_init : DefM := ⟨fun K => ma K (ga K "Line") "__init__", "__init__", "Line.__init__", defArgs s_Line_init, defBody s_Line_init, defScope s_Line_init, [], []⟩
def d_Line_stations : DefM := ⟨fun K => pa K (ga K "Line") "stations", "stations", "Line.stations", defArgs s_Line_stations, defBody s_Line_stations, defScope s_Line_stations, [], []⟩
def d_Line_links : DefM := ⟨fun K => pa K (ga K "Line") "links", "links", "Line.links", defArgs s_Line_links, defBody s_Line_links, defScope s_Line_links, [], []⟩
def d_Line_outlet : DefM := ⟨fun K => pa K (ga K "Line") "outlet", "outlet", "Line.outlet", defArgs s_Line_outlet, defBody s_Line_outlet, defScope s_Line_outlet, [], []⟩
def d_Line_names : DefM := ⟨fun K => pa K (ga K "Line") "names", "names", "Line.names", defArgs s_Line_names, defBody s_Line_names, defScope s_Line_names, [], []⟩
def d_Line_timed : DefM := ⟨fun K => pa K (ga K "Line") "timed", "timed", "Line.timed", defArgs s_Line_timed, defBody s_Line_timed, defScope s_Line_timed, [], []⟩
def d_Line_len : DefM := ⟨fun K => ma K (ga K "Line") "__len__", "__len__", "Line.__len__", defArgs s_Line_len, defBody s_Line_len, defScope s_Line_len, [], []⟩
def d_check_line : DefM := ⟨fun K => ga K "check_line", "check_line", "check_line", defArgs s_check_line, defBody s_check_line, defScope s_check_line, [], []⟩
def d_check_station : DefM := ⟨fun K => ga K "check_station", "check_station", "check_station", defArgs s_check_station, defBody s_check_station, defScope s_check_station, [], []⟩
def d_ends_of : DefM := ⟨fun K => ga K "ends_of", "ends_of", "ends_of", defArgs s_ends_of, defBody s_ends_of, defScope s_ends_of, [], []⟩
def d_rings_from : DefM := ⟨fun K => ga K "rings_from", "rings_from", "rings_from", defArgs s_rings_from, defBody s_rings_from, defScope s_rings_from, [], []⟩
def d_rings : DefM := ⟨fun K => ga K "rings", "rings", "rings", defArgs s_rings, defBody s_rings, defScope s_rings, [], []⟩
def d_stuck : DefM := ⟨fun K => ga K "stuck", "stuck", "stuck", defArgs s_stuck, defBody s_stuck, defScope s_stuck, [], []⟩
def d_check_free : DefM := ⟨fun K => ga K "check_free", "check_free", "check_free", defArgs s_check_free, defBody s_check_free, defScope s_check_free, [], []⟩
def d_width_of : DefM := ⟨fun K => ga K "width_of", "width_of", "width_of", defArgs s_width_of, defBody s_width_of, defScope s_width_of, [], []⟩
def d_entries_of : DefM := ⟨fun K => ga K "entries_of", "entries_of", "entries_of", defArgs s_entries_of, defBody s_entries_of, defScope s_entries_of, [], []⟩
def d_is_begun : DefM := ⟨fun K => ga K "is_begun", "is_begun", "is_begun", defArgs s_is_begun, defBody s_is_begun, defScope s_is_begun, [], []⟩
def d_next_row : DefM := ⟨fun K => ga K "next_row", "next_row", "next_row", defArgs s_next_row, defBody s_next_row, defScope s_next_row, [], []⟩
def d_Walk_init : DefM := ⟨fun K => ma K (ga K "Walk") "__init__", "__init__", "Walk.__init__", defArgs s_Walk_init, defBody s_Walk_init, defScope s_Walk_init, [], []⟩
def d_Walk_lags_at : DefM := ⟨fun K => ma K (ga K "Walk") "lags_at", "lags_at", "Walk.lags_at", defArgs s_Walk_lags_at, defBody s_Walk_lags_at, defScope s_Walk_lags_at, [], []⟩
def d_Walk_ends : DefM := ⟨fun K => ma K (ga K "Walk") "ends", "ends", "Walk.ends", defArgs s_Walk_ends, defBody s_Walk_ends, defScope s_Walk_ends, [], []⟩
def d_Walk_begins : DefM := ⟨fun K => ma K (ga K "Walk") "begins", "begins", "Walk.begins", defArgs s_Walk_begins, defBody s_Walk_begins, defScope s_Walk_begins, [], []⟩
def d_walked : DefM := ⟨fun K => ga K "walked", "walked", "walked", defArgs s_walked, defBody s_walked, defScope s_walked, [], []⟩
def d_Orders_init : DefM := ⟨fun K => ma K (ga K "Orders") "__init__", "__init__", "Orders.__init__", defArgs s_Orders_init, defBody s_Orders_init, defScope s_Orders_init, [], []⟩
def d_Orders_to_outlet : DefM := ⟨fun K => ma K (ga K "Orders") "to_outlet", "to_outlet", "Orders.to_outlet", defArgs s_Orders_to_outlet, defBody s_Orders_to_outlet, defScope s_Orders_to_outlet, [], []⟩
def d_Orders_between : DefM := ⟨fun K => ma K (ga K "Orders") "between", "between", "Orders.between", defArgs s_Orders_between, defBody s_Orders_between, defScope s_Orders_between, [], []⟩
def d_Orders_is_before : DefM := ⟨fun K => ma K (ga K "Orders") "is_before", "is_before", "Orders.is_before", defArgs s_Orders_is_before, defBody s_Orders_is_before, defScope s_Orders_is_before, [], []⟩
def d_Orders_are_in_sequence : DefM := ⟨fun K => ma K (ga K "Orders") "are_in_sequence", "are_in_sequence", "Orders.are_in_sequence", defArgs s_Orders_are_in_sequence, defBody s_Orders_are_in_sequence, defScope s_Orders_are_in_sequence, [], []⟩
def d_order_lags : DefM := ⟨fun K => ga K "order_lags", "order_lags", "order_lags", defArgs s_order_lags, defBody s_order_lags, defScope s_order_lags, [], []⟩
def d_outlet_lags : DefM := ⟨fun K => ga K "outlet_lags", "outlet_lags", "outlet_lags", defArgs s_outlet_lags, defBody s_outlet_lags, defScope s_outlet_lags, [], []⟩
def d_check_pair : DefM := ⟨fun K => ga K "check_pair", "check_pair", "check_pair", defArgs s_check_pair, defBody s_check_pair, defScope s_check_pair, [], []⟩
def d_check_whole : DefM := ⟨fun K => ga K "check_whole", "check_whole", "check_whole", defArgs s_check_whole, defBody s_check_whole, defScope s_check_whole, [], []⟩
def d_bad_lags : DefM := ⟨fun K => ga K "bad_lags", "bad_lags", "bad_lags", defArgs s_bad_lags, defBody s_bad_lags, defScope s_bad_lags, [], []⟩
def d_single_cases : DefM := ⟨fun K => ga K "single_cases", "single_cases", "single_cases", defArgs s_single_cases, defBody s_single_cases, defScope s_single_cases, [], []⟩
def d_pair_cases : DefM := ⟨fun K => ga K "pair_cases", "pair_cases", "pair_cases", defArgs s_pair_cases, defBody s_pair_cases, defScope s_pair_cases, [], []⟩
def d_least_case : DefM := ⟨fun K => ga K "least_case", "least_case", "least_case", defArgs s_least_case, defBody s_least_case, defScope s_least_case, [], []⟩
def d_later_case : DefM := ⟨fun K => ga K "later_case", "later_case", "later_case", defArgs s_later_case, defBody s_later_case, defScope s_later_case, [], [("whole", .bl false)]⟩
def d_never_later : DefM := ⟨fun K => ga K "never_later", "never_later", "never_later", defArgs s_never_later, defBody s_never_later, defScope s_never_later, [], [("whole", .bl false)]⟩
def d_Exchange_init : DefM := ⟨fun K => ma K (ga K "Exchange") "__init__", "__init__", "Exchange.__init__", defArgs s_Exchange_init, defBody s_Exchange_init, defScope s_Exchange_init, [], []⟩
def d_Exchange_cheapest : DefM := ⟨fun K => ma K (ga K "Exchange") "cheapest", "cheapest", "Exchange.cheapest", defArgs s_Exchange_cheapest, defBody s_Exchange_cheapest, defScope s_Exchange_cheapest, [], []⟩
def d_common_period : DefM := ⟨fun K => ga K "common_period", "common_period", "common_period", defArgs s_common_period, defBody s_common_period, defScope s_common_period, [], []⟩
def d_far_of : DefM := ⟨fun K => ga K "far_of", "far_of", "far_of", defArgs s_far_of, defBody s_far_of, defScope s_far_of, [], []⟩
def d_counting : DefM := ⟨fun K => ga K "counting", "counting", "counting", defArgs s_counting, defBody s_counting, defScope s_counting, [], []⟩
def d_lost_station : DefM := ⟨fun K => ga K "lost_station", "lost_station", "lost_station", defArgs s_lost_station, defBody s_lost_station, defScope s_lost_station, [], []⟩
def d_free_station : DefM := ⟨fun K => ga K "free_station", "free_station", "free_station", defArgs s_free_station, defBody s_free_station, defScope s_free_station, [], []⟩
def d_Search_init : DefM := ⟨fun K => ma K (ga K "Search") "__init__", "__init__", "Search.__init__", defArgs s_Search_init, defBody s_Search_init, defScope s_Search_init, [], []⟩
def d_Search_is_done : DefM := ⟨fun K => ma K (ga K "Search") "is_done", "is_done", "Search.is_done", defArgs s_Search_is_done, defBody s_Search_is_done, defScope s_Search_is_done, [], []⟩
def d_Search_is_free : DefM := ⟨fun K => ma K (ga K "Search") "is_free", "is_free", "Search.is_free", defArgs s_Search_is_free, defBody s_Search_is_free, defScope s_Search_is_free, [], []⟩
def d_Search_next_tasks : DefM := ⟨fun K => ma K (ga K "Search") "next_tasks", "next_tasks", "Search.next_tasks", defArgs s_Search_next_tasks, defBody s_Search_next_tasks, defScope s_Search_next_tasks, [], []⟩
def d_Search_go : DefM := ⟨fun K => ma K (ga K "Search") "go", "go", "Search.go", defArgs s_Search_go, defBody s_Search_go, defScope s_Search_go, [], []⟩
def d_most_alone : DefM := ⟨fun K => ga K "most_alone", "most_alone", "most_alone", defArgs s_most_alone, defBody s_most_alone, defScope s_most_alone, [], []⟩
def d_most_tasks : DefM := ⟨fun K => ga K "most_tasks", "most_tasks", "most_tasks", defArgs s_most_tasks, defBody s_most_tasks, defScope s_most_tasks, [], []⟩
def d_factor : DefM := ⟨fun K => ga K "factor", "factor", "factor", defArgs s_factor, defBody s_factor, defScope s_factor, [], []⟩
def d_are_never_bad : DefM := ⟨fun K => ga K "are_never_bad", "are_never_bad", "are_never_bad", defArgs s_are_never_bad, defBody s_are_never_bad, defScope s_are_never_bad, [], []⟩
def d_later_by : DefM := ⟨fun K => ga K "later_by", "later_by", "later_by", defArgs s_later_by, defBody s_later_by, defScope s_later_by, [], []⟩
def d_suits : DefM := ⟨fun K => ga K "suits", "suits", "suits", defArgs s_suits, defBody s_suits, defScope s_suits, [], []⟩
def d_head_start : DefM := ⟨fun K => ga K "head_start", "head_start", "head_start", defArgs s_head_start, defBody s_head_start, defScope s_head_start, [], []⟩
def d_law_purl : DefM := ⟨fun K => ga K "_law_purl", "_law_purl", "_law_purl", defArgs s_law_purl, defBody s_law_purl, defScope s_law_purl, [], []⟩
def d_law_dig : DefM := ⟨fun K => ga K "_law_dig", "_law_dig", "_law_dig", defArgs s_law_dig, defBody s_law_dig, defScope s_law_dig, [], []⟩
def d_law_words : DefM := ⟨fun K => ga K "_law_words", "_law_words", "_law_words", defArgs s_law_words, defBody s_law_words, defScope s_law_words, [], []⟩
def d_law_tie : DefM := ⟨fun K => ga K "_law_tie", "_law_tie", "_law_tie", defArgs s_law_tie, defBody s_law_tie, defScope s_law_tie, [], []⟩
def d_law_post : DefM := ⟨fun K => ga K "_law_post", "_law_post", "_law_post", defArgs s_law_post, defBody s_law_post, defScope s_law_post, [], []⟩
def d_law_chained : DefM := ⟨fun K => ga K "_law_chained", "_law_chained", "_law_chained", defArgs s_law_chained, defBody s_law_chained, defScope s_law_chained, [], []⟩
def d_law_plan : DefM := ⟨fun K => ga K "_law_plan", "_law_plan", "_law_plan", defArgs s_law_plan, defBody s_law_plan, defScope s_law_plan, [], []⟩
def d_law_line : DefM := ⟨fun K => ga K "_law_line", "_law_line", "_law_line", defArgs s_law_line, defBody s_law_line, defScope s_law_line, [], []⟩
def d_law_onset : DefM := ⟨fun K => ga K "_law_onset", "_law_onset", "_law_onset", defArgs s_law_onset, defBody s_law_onset, defScope s_law_onset, [], []⟩
def d_law_settled : DefM := ⟨fun K => ga K "_law_settled", "_law_settled", "_law_settled", defArgs s_law_settled, defBody s_law_settled, defScope s_law_settled, [], []⟩
def d_law_played : DefM := ⟨fun K => ga K "_law_played", "_law_played", "_law_played", defArgs s_law_played, defBody s_law_played, defScope s_law_played, [], []⟩
def d_law_ended : DefM := ⟨fun K => ga K "_law_ended", "_law_ended", "_law_ended", defArgs s_law_ended, defBody s_law_ended, defScope s_law_ended, [], []⟩
def d_law_times : DefM := ⟨fun K => ga K "_law_times", "_law_times", "_law_times", defArgs s_law_times, defBody s_law_times, defScope s_law_times, [], []⟩
def d_law_loosened : DefM := ⟨fun K => ga K "_law_loosened", "_law_loosened", "_law_loosened", defArgs s_law_loosened, defBody s_law_loosened, defScope s_law_loosened, [], []⟩
def d_law_kept : DefM := ⟨fun K => ga K "_law_kept", "_law_kept", "_law_kept", defArgs s_law_kept, defBody s_law_kept, defScope s_law_kept, [], []⟩
def d_law_step_right : DefM := ⟨fun K => ga K "_law_step_right", "_law_step_right", "_law_step_right", defArgs s_law_step_right, defBody s_law_step_right, defScope s_law_step_right, [], []⟩
def d_law_right : DefM := ⟨fun K => ga K "_law_right", "_law_right", "_law_right", defArgs s_law_right, defBody s_law_right, defScope s_law_right, [], []⟩
def d_law : DefM := ⟨fun K => ga K "law", "law", "law", defArgs s_law, defBody s_law, defScope s_law, [], []⟩
def fnL : List DefM := [d_is_integer, d_is_name, d_check_numbers, d_least_period, d_least_form, d_flags_of, d_flag_at, d_Lags_init, d_Lags_start, d_Lags_period, d_Lags_members, d_Lags_first, d_Lags_contains, d_Lags_within, d_check_lags, d_FormedLags_init, d_lags_with, d_common_multiple, d_both_ends, d_form_left, d_lags_of, d_left_of, d_check_name, d_check_flag, d_Station_init, d_Station_name, d_Station_hands, d_Station_timed, d_Link_init, d_Link_source] ++ [d_Link_target, d_Link_stock, d_Link_early, d_check_stations, d_check_links, d_Line_init, d_Line_stations, d_Line_links, d_Line_outlet, d_Line_names, d_Line_timed, d_Line_len, d_check_line, d_check_station, d_ends_of, d_rings_from, d_rings, d_stuck, d_check_free, d_width_of, d_entries_of, d_is_begun, d_next_row, d_Walk_init, d_Walk_lags_at, d_Walk_ends, d_Walk_begins, d_walked, d_Orders_init, d_Orders_to_outlet] ++ [d_Orders_between, d_Orders_is_before, d_Orders_are_in_sequence, d_order_lags, d_outlet_lags, d_check_pair, d_check_whole, d_bad_lags, d_single_cases, d_pair_cases, d_least_case, d_later_case, d_never_later, d_Exchange_init, d_Exchange_cheapest, d_common_period, d_far_of, d_counting, d_lost_station, d_free_station, d_Search_init, d_Search_is_done, d_Search_is_free, d_Search_next_tasks, d_Search_go, d_most_alone, d_most_tasks, d_factor, d_are_never_bad, d_later_by] ++ [d_suits, d_head_start, d_law_purl, d_law_dig, d_law_words, d_law_tie, d_law_post, d_law_chained, d_law_plan, d_law_line, d_law_onset, d_law_settled, d_law_played, d_law_ended, d_law_times, d_law_loosened, d_law_kept, d_law_step_right, d_law_right, d_law]
def gloL : List Str := (["is_integer", "is_name", "check_numbers", "least_period", "least_form", "flags_of", "flag_at", "check_lags", "lags_with", "common_multiple", "both_ends", "form_left", "lags_of", "left_of", "check_name", "check_flag", "check_stations", "check_links", "check_line", "check_station", "ends_of", "rings_from", "rings", "stuck", "check_free", "width_of", "entries_of", "is_begun", "next_row", "walked"] : List Str) ++ (["order_lags", "outlet_lags", "check_pair", "check_whole", "bad_lags", "single_cases", "pair_cases", "least_case", "later_case", "never_later", "common_period", "far_of", "counting", "lost_station", "free_station", "most_alone", "most_tasks", "factor", "are_never_bad", "later_by", "suits", "head_start", "_law_purl", "_law_dig", "_law_words", "_law_tie", "_law_post", "_law_chained", "_law_plan", "_law_line"] : List Str) ++ (["_law_onset", "_law_settled", "_law_played", "_law_ended", "_law_times", "_law_loosened", "_law_kept", "_law_step_right", "_law_right", "law", "Station", "Link", "Line", "Lags", "FormedLags", "Walk", "Orders", "Exchange", "Search"] : List Str)
def freeL : List Str := (["isinstance", "int", "bool", "str", "tuple", "list", "len", "all", "any", "enumerate", "range", "max", "min", "sorted", "sum", "divmod", "abs"] : List Str)
def intL : List (Str × Int) := [("MOST_STATIONS", 6), ("MOST_LINKS", 12), ("MOST_HANDS", 4), ("MOST_STOCK", 5), ("MOST_SIGNS", 8), ("MOST_MEMBER", 1000), ("MOST_PERIOD", 60)]
def strL : List (Str × Str) := [("LETTERS", "abcdefghijklmnopqrstuvwxyz"), ("DIGITS", "0123456789")]
def clsL : List Str := (["Station", "Link", "Line", "Lags", "FormedLags", "Walk", "Orders", "Exchange", "Search"] : List Str)
def noatL : List (Str × Str) := [("Station", "sides"), ("Link", "sides"), ("Line", "sides"), ("Lags", "form"), ("FormedLags", "form"), ("Walk", "rows"), ("Walk", "begin_row"), ("Walk", "end_row"), ("Orders", "known"), ("Orders", "outlets"), ("Orders", "found"), ("Orders", "none"), ("Exchange", "chosen"), ("Exchange", "firsts"), ("Exchange", "cost"), ("Exchange", "mates"), ("Search", "orders"), ("Search", "others"), ("Search", "counted"), ("Search", "left"), ("Search", "far"), ("Search", "most"), ("Search", "best")]
def methL : List (Str × Str) := [("Lags", "__contains__"), ("Lags", "within"), ("FormedLags", "__contains__"), ("FormedLags", "within"), ("Line", "__len__"), ("Walk", "lags_at"), ("Walk", "ends"), ("Walk", "begins"), ("Orders", "to_outlet"), ("Orders", "between"), ("Orders", "is_before"), ("Orders", "are_in_sequence"), ("Exchange", "cheapest"), ("Search", "is_done"), ("Search", "is_free"), ("Search", "next_tasks"), ("Search", "go")]
def propL : List (Str × Str) := [("Station", "name"), ("Station", "hands"), ("Station", "timed"), ("Link", "source"), ("Link", "target"), ("Link", "stock"), ("Link", "early"), ("Line", "stations"), ("Line", "links"), ("Line", "outlet"), ("Line", "names"), ("Line", "timed"), ("Lags", "start"), ("Lags", "period"), ("Lags", "members"), ("Lags", "first"), ("FormedLags", "start"), ("FormedLags", "period"), ("FormedLags", "members"), ("FormedLags", "first")]
def insL : List (Str × Str) := [("Station", "Station"), ("Link", "Link"), ("Line", "Line"), ("Lags", "Lags"), ("FormedLags", "Lags")]
def sameL : List (Str × Str × Str) := [("Lags", "__contains__", "FormedLags"), ("Lags", "within", "FormedLags")]
def samePL : List (Str × Str × Str) := [("Lags", "start", "FormedLags"), ("Lags", "period", "FormedLags"), ("Lags", "members", "FormedLags"), ("Lags", "first", "FormedLags")]
def dfl0 (K : PySem.W.Frag) : Addr := He.dflAt ("Lags", some "__init__") 0 K
def dfl1 (K : PySem.W.Frag) : Addr := He.dflAt ("Lags", some "__init__") 1 K
def chk : List (PySem.W.Frag → Bool) := [
  fun K => gloL.all fun x => (Fa.glo x).ok K,
  fun K => freeL.all fun x => (Fa.free x).ok K,
  fun K => intL.all fun x => (Fa.int x.1 x.2).ok K,
  fun K => strL.all fun x => (Fa.str x.1 x.2).ok K,
  fun K => clsL.all fun x => (Fa.cls x).ok K,
  fun K => noatL.all fun x => (Fa.noat x.1 x.2).ok K,
  fun K => methL.all fun x => (Fa.meth x.1 x.2).ok K,
  fun K => propL.all fun x => propB K (ga K x.1) x.2 (pa K (ga K x.1) x.2),
  fun K => clsL.all fun x => (Fa.mkr x).ok K,
  fun K => insL.all fun x => insB K (ga K x.1) (ga K x.2),
  fun K => sameL.all fun x => decide (ma K (ga K x.1) x.2.1 = ma K (ga K x.2.2) x.2.1),
  fun K => samePL.all fun x => decide (pa K (ga K x.1) x.2.1 = pa K (ga K x.2.2) x.2.1),
  fun K => tupA K (dfl0 K) [] && tupA K (dfl1 K) [],
  fun K => fnL.all fun d => d.ok K]
/-! ### the Hook -/
def obsM (K : PySem.W.Frag) : List Bool × List FnW := (chk.map fun f => f K, fnL.map fun d => fnM K (d.ad K))
def valM : List Bool × List FnW := (chk.map fun _ => true, fnL.map DefM.val)
def SaysM (K : PySem.W.Frag) : Prop := obsM K = valM
def obsMG (n : Nat) (g : Addr → Option Obj) : List Bool × List FnW := obsM (frG g (asD g n))
def hookM (n : Nat) : PySem.W.Hook where
  α := List Bool × List FnW
  obs := fun s => obsMG n s.heap.get?
  val := fun _ => valM
  says := fun _ h => ∃ K : PySem.W.Frag, K.In h ∧ SaysM K
  of := fun _ _ e => ⟨_, frG_in, e⟩
  keeps := fun _ _ _ ⟨K, hK, c⟩ k => ⟨K, PySem.W.Frag.In.keeps hK k, c⟩
theorem obsMG_eq {n : Nat} {g : Addr → Option Obj} {s : Shared} (h : ∀ a, g a = s.heap.get? a) : obsMG n g = (hookM n).obs s := by
  have e : g = s.heap.get? := funext h
  rw [e] <;> rfl
theorem SaysM.chk {K : PySem.W.Frag} (c : SaysM K) (i : Nat) {f : PySem.W.Frag → Bool} (h : Own.chk[i]? = some f := by rfl) : f K = true := by
  have e : Own.chk.map (fun f => f K) = Own.chk.map fun _ => true := congrArg (fun z : List Bool × List FnW => z.1) c
  have e2 : (Own.chk.map (fun f => f K))[i]? = (Own.chk.map fun _ => true)[i]? := by rw [e]
  rw [List.getElem?_map, List.getElem?_map, h] at e2
  exact Option.some.inj e2
theorem SaysM.def_ {K : PySem.W.Frag} (c : SaysM K) (i : Nat) {d : DefM} (h : fnL[i]? = some d := by rfl) : FunD K d.name d.qual d.params d.body d.scope (d.dvs K) (d.kws K) (d.ad K) (fdAt K (d.ad K)) := by
  have c2 : (fnL.all fun d => d.ok K) = true := c.chk 13
  have e : fnL.map (fun d => fnM K (d.ad K)) = fnL.map DefM.val := congrArg (fun z : List Bool × List FnW => z.2) c
  have e2 : (fnL.map fun d => fnM K (d.ad K))[i]? = (fnL.map DefM.val)[i]? := by rw [e]
  rw [List.getElem?_map, List.getElem?_map, h] at e2
  exact DefM.funD (Option.some.inj e2) (List.all_eq_true.mp c2 d (List.mem_of_getElem? h))
theorem all_at {α : Type} {l : List α} {p : α → Bool} (h : l.all p = true) (i : Nat) {x : α} (hx : l[i]? = some x := by rfl) : p x = true := List.all_eq_true.mp h x (List.mem_of_getElem? hx)
end Own
set_option Elab.async false
set_option linter.all false
set_option maxRecDepth 100000
set_option maxHeartbeats 0
/-! the head: the top's run, looked at in parts -/
namespace Own
open PySem PySem.Spec PyProof.Rows L2 He
abbrev RR : PySem.W.OpenRow := PySem.W.OpenLaw.row PySem.Challenge.rw_owntimes_k86_whole_loosened_lines
abbrev qv : Program := PySem.W.view RR.prog [142]
def adL : List Nat := mainGlobals :: ([389, 390, 394, 395, 406, 407, 411, 412, 418, 419, 425, 426, 432, 433, 458, 459, 460, 466, 467, 476, 483, 484, 485, 491, 492, 493, 497, 498, 499, 505, 506, 507, 513, 514, 515, 521, 522, 528, 529, 535] ++ [536, 542, 543, 549, 550, 554, 555, 559, 560, 566, 567, 573, 574, 580, 581, 587, 588, 594, 595, 596, 597, 598, 599, 600, 608, 609, 622, 623, 624, 625, 626, 634, 635, 648, 649, 655, 656, 660, 661, 686] ++ [687, 693, 694, 700, 701, 707, 708, 716, 717, 723, 724, 730, 731, 732, 738, 739, 740, 746, 747, 748, 754, 755, 761, 762, 763, 764, 765, 766, 767, 777, 778, 784, 785, 791, 792, 793, 799, 800, 801, 807] ++ [808, 809, 815, 816, 817, 823, 824, 830, 831, 832, 833, 834, 835, 836, 844, 845, 851, 852, 896, 897, 906, 913, 914, 915, 921, 922, 923, 929, 930, 931, 935, 936, 937, 941, 942, 943, 949, 950, 956, 957] ++ [963, 964, 970, 971, 977, 978, 984, 985, 991, 992, 998, 999, 1005, 1006, 1012, 1013, 1019, 1020, 1026, 1027, 1033, 1034, 1035, 1036, 1037, 1038, 1039, 1066, 1067, 1073, 1074, 1085, 1086, 1092, 1093, 1099, 1100, 1104, 1105, 1111] ++ [1112, 1116, 1117, 1123, 1124, 1130, 1131, 1135, 1136, 1149, 1150, 1154, 1155, 1161, 1162, 1168, 1169, 1170, 1171, 1172, 1173, 1174, 1182, 1183, 1196, 1197, 1203, 1204, 1210, 1211, 1217, 1218, 1224, 1225, 1226, 1227, 1228, 1229, 1230, 1238] ++ [1239, 1245, 1246, 1252, 1253, 1259, 1260, 1278, 1279, 1283, 1284, 1290, 1291, 1297, 1298, 1299, 1305, 1306, 1307, 1313, 1314, 1325, 1326, 1332, 1333, 1339, 1340, 1346, 1347, 1348, 1349, 1350, 1351, 1352, 1360, 1361, 1365, 1366, 1370, 1371] ++ [1377, 1378, 1384, 1385, 1396, 1397, 1403, 1404, 1408, 1409, 1413, 1414, 1418, 1419, 1420, 1421, 1422, 1423, 1424, 1432, 1433, 1437, 1438, 1444, 1445, 1451, 1452, 1456, 1457, 1461, 1462, 1466, 1467, 1473, 1474, 1480, 1481, 1485, 1486, 1492] ++ [1493, 1499, 1500, 1504, 1505, 1509, 1510, 1514, 1515, 1521, 1522, 1526, 1527, 1531, 1532, 1536, 1537, 1543, 1544, 1550, 1551, 1557, 1558, 1564, 1565, 1571, 1572, 1576, 1577])
def loose : List PySem.Str := (["_wall", "WrongValue", "InvalidPeriod", "InvalidText", "InvalidName", "InvalidHands", "InvalidStock", "InvalidFlag", "InvalidOutlet", "InvalidIndex", "NotLags", "NotALine", "InvalidNumbers", "InvalidStations", "InvalidLinks", "WrongName", "UnknownName", "Taken", "NoAnswer", "TooMany", "Stuck", "MOST_STATIONS", "MOST_LINKS", "MOST_HANDS", "MOST_STOCK", "MOST_LAGS", "LETTERS", "DIGITS", "MOST_SIGNS", "is_integer"] : List PySem.Str) ++ (["is_name", "numeral_of", "MOST_MEMBER", "MOST_PERIOD", "MOST_READ", "check_numbers", "least_period", "least_form", "flags_of", "flag_at", "text_of", "text_of_lagsets", "period_in", "form_in", "Lags", "check_lags", "FormedLags", "lags_with", "bounded", "common_multiple", "both_ends", "form_left", "mask_of", "mask_of_sums", "form_of_sums", "lags_of", "left_of", "check_name", "check_flag", "Station"] : List PySem.Str) ++ (["Link", "check_stations", "check_links", "hands_in", "station_in", "link_in", "line_with", "line_in", "Line", "text_of_lines", "place_of", "with_link_at", "check_line", "check_station", "check_link", "ends_of", "rings_from", "rings", "stuck", "check_free", "width_of", "entries_of", "is_begun", "next_row", "Walk", "walked", "Orders", "order_lags", "outlet_lags", "check_pair"] : List PySem.Str) ++ (["check_whole", "ordered", "rank_of", "bad_lags", "single_cases", "pair_cases", "least_case", "later_case", "never_later", "Exchange", "common_period", "far_of", "counting", "lost_station", "free_station", "Search", "most_alone", "most_tasks", "factor", "are_never_bad", "later_by", "suits", "head_start", "_law_purl", "_law_dig", "_law_words", "_law_tie", "_law_post", "_law_chained", "_law_plan"] : List PySem.Str) ++ (["_law_line", "_law_onset", "_law_settled", "_law_played", "_law_ended", "_law_times", "_law_loosened", "_law_kept", "_law_step_right", "_law_right"] : List PySem.Str)
noncomputable def Kf (s : PySem.W.SharedT) : PySem.W.Frag := frG (HandSHeadRun.getT s) adL
noncomputable def endS (w : World) (os : OsState) : Option PySem.W.SharedT := HandSHeadRun.endF (HandSHeadRun.stepQ (HandSHeadRun.denQ HandSHeadRun.tabQ) RR.prog w) 20000 RR.prog w os
def fnA : List Nat := [390, 395, 407, 412, 419, 426, 433, 467, 484, 492, 498, 506, 522, 581, 609, 623, 635, 649, 656, 661, 687, 694, 701, 708, 724, 731, 739, 747, 785, 792, 800, 808, 816, 845, 852, 897, 914, 922, 930, 936] ++ [942, 950, 1067, 1074, 1086, 1093, 1100, 1105, 1112, 1117, 1124, 1131, 1136, 1150, 1155, 1162, 1169, 1183, 1197, 1204, 1211, 1218, 1225, 1239, 1246, 1253, 1260, 1279, 1284, 1291, 1298, 1306, 1314, 1326, 1333, 1361, 1366, 1371, 1378, 1385] ++ [1397, 1404, 1409, 1414, 1419, 1433, 1438, 1445, 1452, 1457, 1462, 1467, 1474, 1481, 1486, 1493, 1500, 1505, 1510, 1515, 1522, 1527, 1532, 1537, 1544, 1551, 1558, 1565, 1572, 1577]
def fnC : List Nat := [389, 394, 406, 411, 418, 425, 432, 466, 483, 491, 497, 505, 521, 580, 608, 622, 634, 648, 655, 660, 686, 693, 700, 707, 723, 730, 738, 746, 784, 791, 799, 807, 815, 844, 851, 896, 913, 921, 929, 935] ++ [941, 949, 1066, 1073, 1085, 1092, 1099, 1104, 1111, 1116, 1123, 1130, 1135, 1149, 1154, 1161, 1168, 1182, 1196, 1203, 1210, 1217, 1224, 1238, 1245, 1252, 1259, 1278, 1283, 1290, 1297, 1305, 1313, 1325, 1332, 1360, 1365, 1370, 1377, 1384] ++ [1396, 1403, 1408, 1413, 1418, 1432, 1437, 1444, 1451, 1456, 1461, 1466, 1473, 1480, 1485, 1492, 1499, 1504, 1509, 1514, 1521, 1526, 1531, 1536, 1543, 1550, 1557, 1564, 1571, 1576]
/-- a def, looked at without the addresses' list: a where it stands, c its code -/
def DefM.okG (g : Addr → Option Obj) (K : PySem.W.Frag) (d : DefM) (a c : Addr) : Bool := match g a with
  | some ⟨_, _, .func fd, _⟩ => decide (fd.code = .ref c) && ((match g c with
    | some ⟨_, _, .fields vs, _⟩ => (match vs.toList with
      | _ :: .str n _ :: _ => n == d.qual
      | _ => false)
    | _ => false) && (dflB K fd.defaults (d.dvs K) && kwdB K fd.kwdefaults (d.kws K)))
  | _ => false
def fnG (g : Addr → Option Obj) (a : Addr) : FnW := match g a with
  | some ⟨_, _, .func fd, _⟩ => some (fd.name, fd.qualname, fd.params, fd.body, fd.scope, fd.globals, fd.closure, fd.builtins)
  | _ => none
noncomputable def seenS (s : PySem.W.SharedT) := HandSHeadRun.seenQ qv loose (importedModules RR.prog.main.body) (fun s => PySem.W.xlAt qv [] s && PySem.W.recOk RR.toRowW.records s) s.abs
theorem h_s1 (w : World) (os : OsState) : (endS w os).map (fun s => ((seenS s).1, (seenS s).2.1, (seenS s).2.2.2)) = some ((PySem.W.openGood qv loose).1, (PySem.W.openGood qv loose).2.1, (PySem.W.openGood qv loose).2.2.2) := by
  kernel_rfl
theorem h_ad1 (w : World) (os : OsState) : (endS w os).map (fun s => ((fnL.take 72).map (fun d => d.ad (Kf s)), (gloL.take 60).all fun x => (Fa.glo x).ok (Kf s))) = some (fnA.take 72, true) := by
  kernel_rfl
theorem h_ad2 (w : World) (os : OsState) : (endS w os).map (fun s => (PySem.W.staticsOk (importedModules RR.prog.main.body) (PySem.W.boot_heap w.params) s.abs.heap && (PySem.W.gensDone s.abs && PySem.W.laidKept (PySem.W.boot_heap w.params) s.abs.heap), (fnL.drop 72).map (fun d => d.ad (Kf s)), (gloL.drop 60).all fun x => (Fa.glo x).ok (Kf s))) = some (true, fnA.drop 72, true) := by
  kernel_rfl
theorem h_c1 (w : World) (os : OsState) : (endS w os).map (fun s => ((chk.drop 1).take 5).all fun f => f (Kf s)) = some true := by
  kernel_rfl
theorem h_c6 (w : World) (os : OsState) : (endS w os).map (fun s => ((chk.drop 6).take 7).all fun f => f (Kf s)) = some true := by
  kernel_rfl
theorem h_f (w : World) (os : OsState) : (endS w os).map (fun s => ((fnL.zip (fnA.zip fnC)).all (fun p => p.1.okG (HandSHeadRun.getT s) (Kf s) p.2.1 p.2.2), fnA.map fun a => fnG (HandSHeadRun.getT s) a)) = some (true, fnL.map DefM.val) := by
  kernel_rfl
theorem h_na (w : World) (os : OsState) : (endS w os).map (fun s => s.abs.heap.isNs mainGlobals && ((s.abs.heap.nsKeys mainGlobals).take 75).all fun k => startupNames.contains k || RR.prog.boundNames.contains k) = some true := by
  kernel_rfl
theorem h_nb (w : World) (os : OsState) : (endS w os).map (fun s => ((s.abs.heap.nsKeys mainGlobals).drop 75).all fun k => startupNames.contains k || RR.prog.boundNames.contains k) = some true := by
  kernel_rfl
theorem h_s2 (w : World) (os : OsState) : (endS w os).map (fun s => (seenS s).2.2.1) = some true := by
  kernel_rfl
end Own
set_option maxHeartbeats 4000000
namespace Own
open PySem PySem.Spec PyProof.Rows L2 He
/-- what the walks lean on -/
structure Env (K : PySem.W.Frag) (mg : Str → Option Value) (base : Heap) : Prop where
  c : SaysM K
  X : K.In base
  G : base.Ns mainGlobals mg
section
variable {K : PySem.W.Frag} {mg : Str → Option Value} {base : Heap}
theorem g_is_integer (E : Env K mg base) : mg "is_integer" = some (.ref (ga K "is_integer")) := glo_ok E.X E.G (all_at (l := gloL) (p := fun x => (Fa.glo x).ok K) (E.c.chk 0) 0)
theorem g_is_name (E : Env K mg base) : mg "is_name" = some (.ref (ga K "is_name")) := glo_ok E.X E.G (all_at (l := gloL) (p := fun x => (Fa.glo x).ok K) (E.c.chk 0) 1)
theorem g_check_numbers (E : Env K mg base) : mg "check_numbers" = some (.ref (ga K "check_numbers")) := glo_ok E.X E.G (all_at (l := gloL) (p := fun x => (Fa.glo x).ok K) (E.c.chk 0) 2)
theorem g_least_period (E : Env K mg base) : mg "least_period" = some (.ref (ga K "least_period")) := glo_ok E.X E.G (all_at (l := gloL) (p := fun x => (Fa.glo x).ok K) (E.c.chk 0) 3)
theorem g_least_form (E : Env K mg base) : mg "least_form" = some (.ref (ga K "least_form")) := glo_ok E.X E.G (all_at (l := gloL) (p := fun x => (Fa.glo x).ok K) (E.c.chk 0) 4)
theorem g_flags_of (E : Env K mg base) : mg "flags_of" = some (.ref (ga K "flags_of")) := glo_ok E.X E.G (all_at (l := gloL) (p := fun x => (Fa.glo x).ok K) (E.c.chk 0) 5)
theorem g_flag_at (E : Env K mg base) : mg "flag_at" = some (.ref (ga K "flag_at")) := glo_ok E.X E.G (all_at (l := gloL) (p := fun x => (Fa.glo x).ok K) (E.c.chk 0) 6)
theorem g_check_lags (E : Env K mg base) : mg "check_lags" = some (.ref (ga K "check_lags")) := glo_ok E.X E.G (all_at (l := gloL) (p := fun x => (Fa.glo x).ok K) (E.c.chk 0) 7)
theorem g_lags_with (E : Env K mg base) : mg "lags_with" = some (.ref (ga K "lags_with")) := glo_ok E.X E.G (all_at (l := gloL) (p := fun x => (Fa.glo x).ok K) (E.c.chk 0) 8)
theorem g_common_multiple (E : Env K mg base) : mg "common_multiple" = some (.ref (ga K "common_multiple")) := glo_ok E.X E.G (all_at (l := gloL) (p := fun x => (Fa.glo x).ok K) (E.c.chk 0) 9)
theorem g_both_ends (E : Env K mg base) : mg "both_ends" = some (.ref (ga K "both_ends")) := glo_ok E.X E.G (all_at (l := gloL) (p := fun x => (Fa.glo x).ok K) (E.c.chk 0) 10)
theorem g_form_left (E : Env K mg base) : mg "form_left" = some (.ref (ga K "form_left")) := glo_ok E.X E.G (all_at (l := gloL) (p := fun x => (Fa.glo x).ok K) (E.c.chk 0) 11)
theorem g_lags_of (E : Env K mg base) : mg "lags_of" = some (.ref (ga K "lags_of")) := glo_ok E.X E.G (all_at (l := gloL) (p := fun x => (Fa.glo x).ok K) (E.c.chk 0) 12)
theorem g_left_of (E : Env K mg base) : mg "left_of" = some (.ref (ga K "left_of")) := glo_ok E.X E.G (all_at (l := gloL) (p := fun x => (Fa.glo x).ok K) (E.c.chk 0) 13)
theorem g_check_name (E : Env K mg base) : mg "check_name" = some (.ref (ga K "check_name")) := glo_ok E.X E.G (all_at (l := gloL) (p := fun x => (Fa.glo x).ok K) (E.c.chk 0) 14)
theorem g_check_flag (E : Env K mg base) : mg "check_flag" = some (.ref (ga K "check_flag")) := glo_ok E.X E.G (all_at (l := gloL) (p := fun x => (Fa.glo x).ok K) (E.c.chk 0) 15)
theorem g_check_stations (E : Env K mg base) : mg "check_stations" = some (.ref (ga K "check_stations")) := glo_ok E.X E.G (all_at (l := gloL) (p := fun x => (Fa.glo x).ok K) (E.c.chk 0) 16)
theorem g_check_links (E : Env K mg base) : mg "check_links" = some (.ref (ga K "check_links")) := glo_ok E.X E.G (all_at (l := gloL) (p := fun x => (Fa.glo x).ok K) (E.c.chk 0) 17)
theorem g_check_line (E : Env K mg base) : mg "check_line" = some (.ref (ga K "check_line")) := glo_ok E.X E.G (all_at (l := gloL) (p := fun x => (Fa.glo x).ok K) (E.c.chk 0) 18)
theorem g_check_station (E : Env K mg base) : mg "check_station" = some (.ref (ga K "check_station")) := glo_ok E.X E.G (all_at (l := gloL) (p := fun x => (Fa.glo x).ok K) (E.c.chk 0) 19)
theorem g_ends_of (E : Env K mg base) : mg "ends_of" = some (.ref (ga K "ends_of")) := glo_ok E.X E.G (all_at (l := gloL) (p := fun x => (Fa.glo x).ok K) (E.c.chk 0) 20)
theorem g_rings_from (E : Env K mg base) : mg "rings_from" = some (.ref (ga K "rings_from")) := glo_ok E.X E.G (all_at (l := gloL) (p := fun x => (Fa.glo x).ok K) (E.c.chk 0) 21)
theorem g_rings (E : Env K mg base) : mg "rings" = some (.ref (ga K "rings")) := glo_ok E.X E.G (all_at (l := gloL) (p := fun x => (Fa.glo x).ok K) (E.c.chk 0) 22)
theorem g_stuck (E : Env K mg base) : mg "stuck" = some (.ref (ga K "stuck")) := glo_ok E.X E.G (all_at (l := gloL) (p := fun x => (Fa.glo x).ok K) (E.c.chk 0) 23)
theorem g_check_free (E : Env K mg base) : mg "check_free" = some (.ref (ga K "check_free")) := glo_ok E.X E.G (all_at (l := gloL) (p := fun x => (Fa.glo x).ok K) (E.c.chk 0) 24)
theorem g_width_of (E : Env K mg base) : mg "width_of" = some (.ref (ga K "width_of")) := glo_ok E.X E.G (all_at (l := gloL) (p := fun x => (Fa.glo x).ok K) (E.c.chk 0) 25)
theorem g_entries_of (E : Env K mg base) : mg "entries_of" = some (.ref (ga K "entries_of")) := glo_ok E.X E.G (all_at (l := gloL) (p := fun x => (Fa.glo x).ok K) (E.c.chk 0) 26)
theorem g_is_begun (E : Env K mg base) : mg "is_begun" = some (.ref (ga K "is_begun")) := glo_ok E.X E.G (all_at (l := gloL) (p := fun x => (Fa.glo x).ok K) (E.c.chk 0) 27)
theorem g_next_row (E : Env K mg base) : mg "next_row" = some (.ref (ga K "next_row")) := glo_ok E.X E.G (all_at (l := gloL) (p := fun x => (Fa.glo x).ok K) (E.c.chk 0) 28)
theorem g_walked (E : Env K mg base) : mg "walked" = some (.ref (ga K "walked")) := glo_ok E.X E.G (all_at (l := gloL) (p := fun x => (Fa.glo x).ok K) (E.c.chk 0) 29)
theorem g_order_lags (E : Env K mg base) : mg "order_lags" = some (.ref (ga K "order_lags")) := glo_ok E.X E.G (all_at (l := gloL) (p := fun x => (Fa.glo x).ok K) (E.c.chk 0) 30)
theorem g_outlet_lags (E : Env K mg base) : mg "outlet_lags" = some (.ref (ga K "outlet_lags")) := glo_ok E.X E.G (all_at (l := gloL) (p := fun x => (Fa.glo x).ok K) (E.c.chk 0) 31)
theorem g_check_pair (E : Env K mg base) : mg "check_pair" = some (.ref (ga K "check_pair")) := glo_ok E.X E.G (all_at (l := gloL) (p := fun x => (Fa.glo x).ok K) (E.c.chk 0) 32)
theorem g_check_whole (E : Env K mg base) : mg "check_whole" = some (.ref (ga K "check_whole")) := glo_ok E.X E.G (all_at (l := gloL) (p := fun x => (Fa.glo x).ok K) (E.c.chk 0) 33)
theorem g_bad_lags (E : Env K mg base) : mg "bad_lags" = some (.ref (ga K "bad_lags")) := glo_ok E.X E.G (all_at (l := gloL) (p := fun x => (Fa.glo x).ok K) (E.c.chk 0) 34)
theorem g_single_cases (E : Env K mg base) : mg "single_cases" = some (.ref (ga K "single_cases")) := glo_ok E.X E.G (all_at (l := gloL) (p := fun x => (Fa.glo x).ok K) (E.c.chk 0) 35)
theorem g_pair_cases (E : Env K mg base) : mg "pair_cases" = some (.ref (ga K "pair_cases")) := glo_ok E.X E.G (all_at (l := gloL) (p := fun x => (Fa.glo x).ok K) (E.c.chk 0) 36)
theorem g_least_case (E : Env K mg base) : mg "least_case" = some (.ref (ga K "least_case")) := glo_ok E.X E.G (all_at (l := gloL) (p := fun x => (Fa.glo x).ok K) (E.c.chk 0) 37)
theorem g_later_case (E : Env K mg base) : mg "later_case" = some (.ref (ga K "later_case")) := glo_ok E.X E.G (all_at (l := gloL) (p := fun x => (Fa.glo x).ok K) (E.c.chk 0) 38)
theorem g_never_later (E : Env K mg base) : mg "never_later" = some (.ref (ga K "never_later")) := glo_ok E.X E.G (all_at (l := gloL) (p := fun x => (Fa.glo x).ok K) (E.c.chk 0) 39)
theorem g_common_period (E : Env K mg base) : mg "common_period" = some (.ref (ga K "common_period")) := glo_ok E.X E.G (all_at (l := gloL) (p := fun x => (Fa.glo x).ok K) (E.c.chk 0) 40)
theorem g_far_of (E : Env K mg base) : mg "far_of" = some (.ref (ga K "far_of")) := glo_ok E.X E.G (all_at (l := gloL) (p := fun x => (Fa.glo x).ok K) (E.c.chk 0) 41)
theorem g_counting (E : Env K mg base) : mg "counting" = some (.ref (ga K "counting")) := glo_ok E.X E.G (all_at (l := gloL) (p := fun x => (Fa.glo x).ok K) (E.c.chk 0) 42)
theorem g_lost_station (E : Env K mg base) : mg "lost_station" = some (.ref (ga K "lost_station")) := glo_ok E.X E.G (all_at (l := gloL) (p := fun x => (Fa.glo x).ok K) (E.c.chk 0) 43)
theorem g_free_station (E : Env K mg base) : mg "free_station" = some (.ref (ga K "free_station")) := glo_ok E.X E.G (all_at (l := gloL) (p := fun x => (Fa.glo x).ok K) (E.c.chk 0) 44)
theorem g_most_alone (E : Env K mg base) : mg "most_alone" = some (.ref (ga K "most_alone")) := glo_ok E.X E.G (all_at (l := gloL) (p := fun x => (Fa.glo x).ok K) (E.c.chk 0) 45)
theorem g_most_tasks (E : Env K mg base) : mg "most_tasks" = some (.ref (ga K "most_tasks")) := glo_ok E.X E.G (all_at (l := gloL) (p := fun x => (Fa.glo x).ok K) (E.c.chk 0) 46)
theorem g_factor (E : Env K mg base) : mg "factor" = some (.ref (ga K "factor")) := glo_ok E.X E.G (all_at (l := gloL) (p := fun x => (Fa.glo x).ok K) (E.c.chk 0) 47)
theorem g_are_never_bad (E : Env K mg base) : mg "are_never_bad" = some (.ref (ga K "are_never_bad")) := glo_ok E.X E.G (all_at (l := gloL) (p := fun x => (Fa.glo x).ok K) (E.c.chk 0) 48)
theorem g_later_by (E : Env K mg base) : mg "later_by" = some (.ref (ga K "later_by")) := glo_ok E.X E.G (all_at (l := gloL) (p := fun x => (Fa.glo x).ok K) (E.c.chk 0) 49)
theorem g_suits (E : Env K mg base) : mg "suits" = some (.ref (ga K "suits")) := glo_ok E.X E.G (all_at (l := gloL) (p := fun x => (Fa.glo x).ok K) (E.c.chk 0) 50)
theorem g_head_start (E : Env K mg base) : mg "head_start" = some (.ref (ga K "head_start")) := glo_ok E.X E.G (all_at (l := gloL) (p := fun x => (Fa.glo x).ok K) (E.c.chk 0) 51)
theorem g_law_purl (E : Env K mg base) : mg "_law_purl" = some (.ref (ga K "_law_purl")) := glo_ok E.X E.G (all_at (l := gloL) (p := fun x => (Fa.glo x).ok K) (E.c.chk 0) 52)
theorem g_law_dig (E : Env K mg base) : mg "_law_dig" = some (.ref (ga K "_law_dig")) := glo_ok E.X E.G (all_at (l := gloL) (p := fun x => (Fa.glo x).ok K) (E.c.chk 0) 53)
theorem g_law_words (E : Env K mg base) : mg "_law_words" = some (.ref (ga K "_law_words")) := glo_ok E.X E.G (all_at (l := gloL) (p := fun x => (Fa.glo x).ok K) (E.c.chk 0) 54)
theorem g_law_tie (E : Env K mg base) : mg "_law_tie" = some (.ref (ga K "_law_tie")) := glo_ok E.X E.G (all_at (l := gloL) (p := fun x => (Fa.glo x).ok K) (E.c.chk 0) 55)
theorem g_law_post (E : Env K mg base) : mg "_law_post" = some (.ref (ga K "_law_post")) := glo_ok E.X E.G (all_at (l := gloL) (p := fun x => (Fa.glo x).ok K) (E.c.chk 0) 56)
theorem g_law_chained (E : Env K mg base) : mg "_law_chained" = some (.ref (ga K "_law_chained")) := glo_ok E.X E.G (all_at (l := gloL) (p := fun x => (Fa.glo x).ok K) (E.c.chk 0) 57)
theorem g_law_plan (E : Env K mg base) : mg "_law_plan" = some (.ref (ga K "_law_plan")) := glo_ok E.X E.G (all_at (l := gloL) (p := fun x => (Fa.glo x).ok K) (E.c.chk 0) 58)
theorem g_law_line (E : Env K mg base) : mg "_law_line" = some (.ref (ga K "_law_line")) := glo_ok E.X E.G (all_at (l := gloL) (p := fun x => (Fa.glo x).ok K) (E.c.chk 0) 59)
theorem g_law_onset (E : Env K mg base) : mg "_law_onset" = some (.ref (ga K "_law_onset")) := glo_ok E.X E.G (all_at (l := gloL) (p := fun x => (Fa.glo x).ok K) (E.c.chk 0) 60)
theorem g_law_settled (E : Env K mg base) : mg "_law_settled" = some (.ref (ga K "_law_settled")) := glo_ok E.X E.G (all_at (l := gloL) (p := fun x => (Fa.glo x).ok K) (E.c.chk 0) 61)
theorem g_law_played (E : Env K mg base) : mg "_law_played" = some (.ref (ga K "_law_played")) := glo_ok E.X E.G (all_at (l := gloL) (p := fun x => (Fa.glo x).ok K) (E.c.chk 0) 62)
theorem g_law_ended (E : Env K mg base) : mg "_law_ended" = some (.ref (ga K "_law_ended")) := glo_ok E.X E.G (all_at (l := gloL) (p := fun x => (Fa.glo x).ok K) (E.c.chk 0) 63)
theorem g_law_times (E : Env K mg base) : mg "_law_times" = some (.ref (ga K "_law_times")) := glo_ok E.X E.G (all_at (l := gloL) (p := fun x => (Fa.glo x).ok K) (E.c.chk 0) 64)
theorem g_law_loosened (E : Env K mg base) : mg "_law_loosened" = some (.ref (ga K "_law_loosened")) := glo_ok E.X E.G (all_at (l := gloL) (p := fun x => (Fa.glo x).ok K) (E.c.chk 0) 65)
theorem g_law_kept (E : Env K mg base) : mg "_law_kept" = some (.ref (ga K "_law_kept")) := glo_ok E.X E.G (all_at (l := gloL) (p := fun x => (Fa.glo x).ok K) (E.c.chk 0) 66)
theorem g_law_step_right (E : Env K mg base) : mg "_law_step_right" = some (.ref (ga K "_law_step_right")) := glo_ok E.X E.G (all_at (l := gloL) (p := fun x => (Fa.glo x).ok K) (E.c.chk 0) 67)
theorem g_law_right (E : Env K mg base) : mg "_law_right" = some (.ref (ga K "_law_right")) := glo_ok E.X E.G (all_at (l := gloL) (p := fun x => (Fa.glo x).ok K) (E.c.chk 0) 68)
theorem g_law (E : Env K mg base) : mg "law" = some (.ref (ga K "law")) := glo_ok E.X E.G (all_at (l := gloL) (p := fun x => (Fa.glo x).ok K) (E.c.chk 0) 69)
theorem g_Station (E : Env K mg base) : mg "Station" = some (.ref (ga K "Station")) := glo_ok E.X E.G (all_at (l := gloL) (p := fun x => (Fa.glo x).ok K) (E.c.chk 0) 70)
theorem g_Link (E : Env K mg base) : mg "Link" = some (.ref (ga K "Link")) := glo_ok E.X E.G (all_at (l := gloL) (p := fun x => (Fa.glo x).ok K) (E.c.chk 0) 71)
theorem g_Line (E : Env K mg base) : mg "Line" = some (.ref (ga K "Line")) := glo_ok E.X E.G (all_at (l := gloL) (p := fun x => (Fa.glo x).ok K) (E.c.chk 0) 72)
theorem g_Lags (E : Env K mg base) : mg "Lags" = some (.ref (ga K "Lags")) := glo_ok E.X E.G (all_at (l := gloL) (p := fun x => (Fa.glo x).ok K) (E.c.chk 0) 73)
theorem g_FormedLags (E : Env K mg base) : mg "FormedLags" = some (.ref (ga K "FormedLags")) := glo_ok E.X E.G (all_at (l := gloL) (p := fun x => (Fa.glo x).ok K) (E.c.chk 0) 74)
theorem g_Walk (E : Env K mg base) : mg "Walk" = some (.ref (ga K "Walk")) := glo_ok E.X E.G (all_at (l := gloL) (p := fun x => (Fa.glo x).ok K) (E.c.chk 0) 75)
theorem g_Orders (E : Env K mg base) : mg "Orders" = some (.ref (ga K "Orders")) := glo_ok E.X E.G (all_at (l := gloL) (p := fun x => (Fa.glo x).ok K) (E.c.chk 0) 76)
theorem g_Exchange (E : Env K mg base) : mg "Exchange" = some (.ref (ga K "Exchange")) := glo_ok E.X E.G (all_at (l := gloL) (p := fun x => (Fa.glo x).ok K) (E.c.chk 0) 77)
theorem g_Search (E : Env K mg base) : mg "Search" = some (.ref (ga K "Search")) := glo_ok E.X E.G (all_at (l := gloL) (p := fun x => (Fa.glo x).ok K) (E.c.chk 0) 78)
theorem n_isinstance (E : Env K mg base) : mg "isinstance" = none := free_ok E.X E.G (all_at (l := freeL) (p := fun x => (Fa.free x).ok K) (E.c.chk 1) 0)
theorem n_int (E : Env K mg base) : mg "int" = none := free_ok E.X E.G (all_at (l := freeL) (p := fun x => (Fa.free x).ok K) (E.c.chk 1) 1)
theorem n_bool (E : Env K mg base) : mg "bool" = none := free_ok E.X E.G (all_at (l := freeL) (p := fun x => (Fa.free x).ok K) (E.c.chk 1) 2)
theorem n_str (E : Env K mg base) : mg "str" = none := free_ok E.X E.G (all_at (l := freeL) (p := fun x => (Fa.free x).ok K) (E.c.chk 1) 3)
theorem n_tuple (E : Env K mg base) : mg "tuple" = none := free_ok E.X E.G (all_at (l := freeL) (p := fun x => (Fa.free x).ok K) (E.c.chk 1) 4)
theorem n_list (E : Env K mg base) : mg "list" = none := free_ok E.X E.G (all_at (l := freeL) (p := fun x => (Fa.free x).ok K) (E.c.chk 1) 5)
theorem n_len (E : Env K mg base) : mg "len" = none := free_ok E.X E.G (all_at (l := freeL) (p := fun x => (Fa.free x).ok K) (E.c.chk 1) 6)
theorem n_all (E : Env K mg base) : mg "all" = none := free_ok E.X E.G (all_at (l := freeL) (p := fun x => (Fa.free x).ok K) (E.c.chk 1) 7)
theorem n_any (E : Env K mg base) : mg "any" = none := free_ok E.X E.G (all_at (l := freeL) (p := fun x => (Fa.free x).ok K) (E.c.chk 1) 8)
theorem n_enumerate (E : Env K mg base) : mg "enumerate" = none := free_ok E.X E.G (all_at (l := freeL) (p := fun x => (Fa.free x).ok K) (E.c.chk 1) 9)
theorem n_range (E : Env K mg base) : mg "range" = none := free_ok E.X E.G (all_at (l := freeL) (p := fun x => (Fa.free x).ok K) (E.c.chk 1) 10)
theorem n_max (E : Env K mg base) : mg "max" = none := free_ok E.X E.G (all_at (l := freeL) (p := fun x => (Fa.free x).ok K) (E.c.chk 1) 11)
theorem n_min (E : Env K mg base) : mg "min" = none := free_ok E.X E.G (all_at (l := freeL) (p := fun x => (Fa.free x).ok K) (E.c.chk 1) 12)
theorem n_sorted (E : Env K mg base) : mg "sorted" = none := free_ok E.X E.G (all_at (l := freeL) (p := fun x => (Fa.free x).ok K) (E.c.chk 1) 13)
theorem n_sum (E : Env K mg base) : mg "sum" = none := free_ok E.X E.G (all_at (l := freeL) (p := fun x => (Fa.free x).ok K) (E.c.chk 1) 14)
theorem n_divmod (E : Env K mg base) : mg "divmod" = none := free_ok E.X E.G (all_at (l := freeL) (p := fun x => (Fa.free x).ok K) (E.c.chk 1) 15)
theorem n_abs (E : Env K mg base) : mg "abs" = none := free_ok E.X E.G (all_at (l := freeL) (p := fun x => (Fa.free x).ok K) (E.c.chk 1) 16)
theorem i_MOST_STATIONS (E : Env K mg base) : ∃ t, mg "MOST_STATIONS" = some (.int 6 t) := int_ok E.X E.G (all_at (l := intL) (p := fun x => (Fa.int x.1 x.2).ok K) (E.c.chk 2) 0 (x := ("MOST_STATIONS", 6)))
theorem i_MOST_LINKS (E : Env K mg base) : ∃ t, mg "MOST_LINKS" = some (.int 12 t) := int_ok E.X E.G (all_at (l := intL) (p := fun x => (Fa.int x.1 x.2).ok K) (E.c.chk 2) 1 (x := ("MOST_LINKS", 12)))
theorem i_MOST_HANDS (E : Env K mg base) : ∃ t, mg "MOST_HANDS" = some (.int 4 t) := int_ok E.X E.G (all_at (l := intL) (p := fun x => (Fa.int x.1 x.2).ok K) (E.c.chk 2) 2 (x := ("MOST_HANDS", 4)))
theorem i_MOST_STOCK (E : Env K mg base) : ∃ t, mg "MOST_STOCK" = some (.int 5 t) := int_ok E.X E.G (all_at (l := intL) (p := fun x => (Fa.int x.1 x.2).ok K) (E.c.chk 2) 3 (x := ("MOST_STOCK", 5)))
theorem i_MOST_SIGNS (E : Env K mg base) : ∃ t, mg "MOST_SIGNS" = some (.int 8 t) := int_ok E.X E.G (all_at (l := intL) (p := fun x => (Fa.int x.1 x.2).ok K) (E.c.chk 2) 4 (x := ("MOST_SIGNS", 8)))
theorem i_MOST_MEMBER (E : Env K mg base) : ∃ t, mg "MOST_MEMBER" = some (.int 1000 t) := int_ok E.X E.G (all_at (l := intL) (p := fun x => (Fa.int x.1 x.2).ok K) (E.c.chk 2) 5 (x := ("MOST_MEMBER", 1000)))
theorem i_MOST_PERIOD (E : Env K mg base) : ∃ t, mg "MOST_PERIOD" = some (.int 60 t) := int_ok E.X E.G (all_at (l := intL) (p := fun x => (Fa.int x.1 x.2).ok K) (E.c.chk 2) 6 (x := ("MOST_PERIOD", 60)))
theorem z_LETTERS (E : Env K mg base) : ∃ t, mg "LETTERS" = some (.str "abcdefghijklmnopqrstuvwxyz" t) := str_ok E.X E.G (all_at (l := strL) (p := fun x => (Fa.str x.1 x.2).ok K) (E.c.chk 3) 0 (x := ("LETTERS", "abcdefghijklmnopqrstuvwxyz")))
theorem z_DIGITS (E : Env K mg base) : ∃ t, mg "DIGITS" = some (.str "0123456789" t) := str_ok E.X E.G (all_at (l := strL) (p := fun x => (Fa.str x.1 x.2).ok K) (E.c.chk 3) 1 (x := ("DIGITS", "0123456789")))
theorem c_Station (E : Env K mg base) : Cls K (ga K "Station") := cls_ok (all_at (l := clsL) (p := fun x => (Fa.cls x).ok K) (E.c.chk 4) 0)
theorem c_Link (E : Env K mg base) : Cls K (ga K "Link") := cls_ok (all_at (l := clsL) (p := fun x => (Fa.cls x).ok K) (E.c.chk 4) 1)
theorem c_Line (E : Env K mg base) : Cls K (ga K "Line") := cls_ok (all_at (l := clsL) (p := fun x => (Fa.cls x).ok K) (E.c.chk 4) 2)
theorem c_Lags (E : Env K mg base) : Cls K (ga K "Lags") := cls_ok (all_at (l := clsL) (p := fun x => (Fa.cls x).ok K) (E.c.chk 4) 3)
theorem c_FormedLags (E : Env K mg base) : Cls K (ga K "FormedLags") := cls_ok (all_at (l := clsL) (p := fun x => (Fa.cls x).ok K) (E.c.chk 4) 4)
theorem c_Walk (E : Env K mg base) : Cls K (ga K "Walk") := cls_ok (all_at (l := clsL) (p := fun x => (Fa.cls x).ok K) (E.c.chk 4) 5)
theorem c_Orders (E : Env K mg base) : Cls K (ga K "Orders") := cls_ok (all_at (l := clsL) (p := fun x => (Fa.cls x).ok K) (E.c.chk 4) 6)
theorem c_Exchange (E : Env K mg base) : Cls K (ga K "Exchange") := cls_ok (all_at (l := clsL) (p := fun x => (Fa.cls x).ok K) (E.c.chk 4) 7)
theorem c_Search (E : Env K mg base) : Cls K (ga K "Search") := cls_ok (all_at (l := clsL) (p := fun x => (Fa.cls x).ok K) (E.c.chk 4) 8)
theorem a_Station_sides (E : Env K mg base) : NoAttr K (ga K "Station") "sides" := noat_ok (all_at (l := noatL) (p := fun x => (Fa.noat x.1 x.2).ok K) (E.c.chk 5) 0 (x := ("Station", "sides")))
theorem a_Link_sides (E : Env K mg base) : NoAttr K (ga K "Link") "sides" := noat_ok (all_at (l := noatL) (p := fun x => (Fa.noat x.1 x.2).ok K) (E.c.chk 5) 1 (x := ("Link", "sides")))
theorem a_Line_sides (E : Env K mg base) : NoAttr K (ga K "Line") "sides" := noat_ok (all_at (l := noatL) (p := fun x => (Fa.noat x.1 x.2).ok K) (E.c.chk 5) 2 (x := ("Line", "sides")))
theorem a_Lags_form (E : Env K mg base) : NoAttr K (ga K "Lags") "form" := noat_ok (all_at (l := noatL) (p := fun x => (Fa.noat x.1 x.2).ok K) (E.c.chk 5) 3 (x := ("Lags", "form")))
theorem a_FormedLags_form (E : Env K mg base) : NoAttr K (ga K "FormedLags") "form" := noat_ok (all_at (l := noatL) (p := fun x => (Fa.noat x.1 x.2).ok K) (E.c.chk 5) 4 (x := ("FormedLags", "form")))
theorem a_Walk_rows (E : Env K mg base) : NoAttr K (ga K "Walk") "rows" := noat_ok (all_at (l := noatL) (p := fun x => (Fa.noat x.1 x.2).ok K) (E.c.chk 5) 5 (x := ("Walk", "rows")))
theorem a_Walk_begin_row (E : Env K mg base) : NoAttr K (ga K "Walk") "begin_row" := noat_ok (all_at (l := noatL) (p := fun x => (Fa.noat x.1 x.2).ok K) (E.c.chk 5) 6 (x := ("Walk", "begin_row")))
theorem a_Walk_end_row (E : Env K mg base) : NoAttr K (ga K "Walk") "end_row" := noat_ok (all_at (l := noatL) (p := fun x => (Fa.noat x.1 x.2).ok K) (E.c.chk 5) 7 (x := ("Walk", "end_row")))
theorem a_Orders_known (E : Env K mg base) : NoAttr K (ga K "Orders") "known" := noat_ok (all_at (l := noatL) (p := fun x => (Fa.noat x.1 x.2).ok K) (E.c.chk 5) 8 (x := ("Orders", "known")))
theorem a_Orders_outlets (E : Env K mg base) : NoAttr K (ga K "Orders") "outlets" := noat_ok (all_at (l := noatL) (p := fun x => (Fa.noat x.1 x.2).ok K) (E.c.chk 5) 9 (x := ("Orders", "outlets")))
theorem a_Orders_found (E : Env K mg base) : NoAttr K (ga K "Orders") "found" := noat_ok (all_at (l := noatL) (p := fun x => (Fa.noat x.1 x.2).ok K) (E.c.chk 5) 10 (x := ("Orders", "found")))
theorem a_Orders_none (E : Env K mg base) : NoAttr K (ga K "Orders") "none" := noat_ok (all_at (l := noatL) (p := fun x => (Fa.noat x.1 x.2).ok K) (E.c.chk 5) 11 (x := ("Orders", "none")))
theorem a_Exchange_chosen (E : Env K mg base) : NoAttr K (ga K "Exchange") "chosen" := noat_ok (all_at (l := noatL) (p := fun x => (Fa.noat x.1 x.2).ok K) (E.c.chk 5) 12 (x := ("Exchange", "chosen")))
theorem a_Exchange_firsts (E : Env K mg base) : NoAttr K (ga K "Exchange") "firsts" := noat_ok (all_at (l := noatL) (p := fun x => (Fa.noat x.1 x.2).ok K) (E.c.chk 5) 13 (x := ("Exchange", "firsts")))
theorem a_Exchange_cost (E : Env K mg base) : NoAttr K (ga K "Exchange") "cost" := noat_ok (all_at (l := noatL) (p := fun x => (Fa.noat x.1 x.2).ok K) (E.c.chk 5) 14 (x := ("Exchange", "cost")))
theorem a_Exchange_mates (E : Env K mg base) : NoAttr K (ga K "Exchange") "mates" := noat_ok (all_at (l := noatL) (p := fun x => (Fa.noat x.1 x.2).ok K) (E.c.chk 5) 15 (x := ("Exchange", "mates")))
theorem a_Search_orders (E : Env K mg base) : NoAttr K (ga K "Search") "orders" := noat_ok (all_at (l := noatL) (p := fun x => (Fa.noat x.1 x.2).ok K) (E.c.chk 5) 16 (x := ("Search", "orders")))
theorem a_Search_others (E : Env K mg base) : NoAttr K (ga K "Search") "others" := noat_ok (all_at (l := noatL) (p := fun x => (Fa.noat x.1 x.2).ok K) (E.c.chk 5) 17 (x := ("Search", "others")))
theorem a_Search_counted (E : Env K mg base) : NoAttr K (ga K "Search") "counted" := noat_ok (all_at (l := noatL) (p := fun x => (Fa.noat x.1 x.2).ok K) (E.c.chk 5) 18 (x := ("Search", "counted")))
theorem a_Search_left (E : Env K mg base) : NoAttr K (ga K "Search") "left" := noat_ok (all_at (l := noatL) (p := fun x => (Fa.noat x.1 x.2).ok K) (E.c.chk 5) 19 (x := ("Search", "left")))
theorem a_Search_far (E : Env K mg base) : NoAttr K (ga K "Search") "far" := noat_ok (all_at (l := noatL) (p := fun x => (Fa.noat x.1 x.2).ok K) (E.c.chk 5) 20 (x := ("Search", "far")))
theorem a_Search_most (E : Env K mg base) : NoAttr K (ga K "Search") "most" := noat_ok (all_at (l := noatL) (p := fun x => (Fa.noat x.1 x.2).ok K) (E.c.chk 5) 21 (x := ("Search", "most")))
theorem a_Search_best (E : Env K mg base) : NoAttr K (ga K "Search") "best" := noat_ok (all_at (l := noatL) (p := fun x => (Fa.noat x.1 x.2).ok K) (E.c.chk 5) 22 (x := ("Search", "best")))
theorem m_Lags_contains (E : Env K mg base) : Meth K (ga K "Lags") "__contains__" (ma K (ga K "Lags") "__contains__") := meth_ok (all_at (l := methL) (p := fun x => (Fa.meth x.1 x.2).ok K) (E.c.chk 6) 0 (x := ("Lags", "__contains__")))
theorem m_Lags_within (E : Env K mg base) : Meth K (ga K "Lags") "within" (ma K (ga K "Lags") "within") := meth_ok (all_at (l := methL) (p := fun x => (Fa.meth x.1 x.2).ok K) (E.c.chk 6) 1 (x := ("Lags", "within")))
theorem m_FormedLags_contains (E : Env K mg base) : Meth K (ga K "FormedLags") "__contains__" (ma K (ga K "FormedLags") "__contains__") := meth_ok (all_at (l := methL) (p := fun x => (Fa.meth x.1 x.2).ok K) (E.c.chk 6) 2 (x := ("FormedLags", "__contains__")))
theorem m_FormedLags_within (E : Env K mg base) : Meth K (ga K "FormedLags") "within" (ma K (ga K "FormedLags") "within") := meth_ok (all_at (l := methL) (p := fun x => (Fa.meth x.1 x.2).ok K) (E.c.chk 6) 3 (x := ("FormedLags", "within")))
theorem m_Line_len (E : Env K mg base) : Meth K (ga K "Line") "__len__" (ma K (ga K "Line") "__len__") := meth_ok (all_at (l := methL) (p := fun x => (Fa.meth x.1 x.2).ok K) (E.c.chk 6) 4 (x := ("Line", "__len__")))
theorem m_Walk_lags_at (E : Env K mg base) : Meth K (ga K "Walk") "lags_at" (ma K (ga K "Walk") "lags_at") := meth_ok (all_at (l := methL) (p := fun x => (Fa.meth x.1 x.2).ok K) (E.c.chk 6) 5 (x := ("Walk", "lags_at")))
theorem m_Walk_ends (E : Env K mg base) : Meth K (ga K "Walk") "ends" (ma K (ga K "Walk") "ends") := meth_ok (all_at (l := methL) (p := fun x => (Fa.meth x.1 x.2).ok K) (E.c.chk 6) 6 (x := ("Walk", "ends")))
theorem m_Walk_begins (E : Env K mg base) : Meth K (ga K "Walk") "begins" (ma K (ga K "Walk") "begins") := meth_ok (all_at (l := methL) (p := fun x => (Fa.meth x.1 x.2).ok K) (E.c.chk 6) 7 (x := ("Walk", "begins")))
theorem m_Orders_to_outlet (E : Env K mg base) : Meth K (ga K "Orders") "to_outlet" (ma K (ga K "Orders") "to_outlet") := meth_ok (all_at (l := methL) (p := fun x => (Fa.meth x.1 x.2).ok K) (E.c.chk 6) 8 (x := ("Orders", "to_outlet")))
theorem m_Orders_between (E : Env K mg base) : Meth K (ga K "Orders") "between" (ma K (ga K "Orders") "between") := meth_ok (all_at (l := methL) (p := fun x => (Fa.meth x.1 x.2).ok K) (E.c.chk 6) 9 (x := ("Orders", "between")))
theorem m_Orders_is_before (E : Env K mg base) : Meth K (ga K "Orders") "is_before" (ma K (ga K "Orders") "is_before") := meth_ok (all_at (l := methL) (p := fun x => (Fa.meth x.1 x.2).ok K) (E.c.chk 6) 10 (x := ("Orders", "is_before")))
theorem m_Orders_are_in_sequence (E : Env K mg base) : Meth K (ga K "Orders") "are_in_sequence" (ma K (ga K "Orders") "are_in_sequence") := meth_ok (all_at (l := methL) (p := fun x => (Fa.meth x.1 x.2).ok K) (E.c.chk 6) 11 (x := ("Orders", "are_in_sequence")))
theorem m_Exchange_cheapest (E : Env K mg base) : Meth K (ga K "Exchange") "cheapest" (ma K (ga K "Exchange") "cheapest") := meth_ok (all_at (l := methL) (p := fun x => (Fa.meth x.1 x.2).ok K) (E.c.chk 6) 12 (x := ("Exchange", "cheapest")))
theorem m_Search_is_done (E : Env K mg base) : Meth K (ga K "Search") "is_done" (ma K (ga K "Search") "is_done") := meth_ok (all_at (l := methL) (p := fun x => (Fa.meth x.1 x.2).ok K) (E.c.chk 6) 13 (x := ("Search", "is_done")))
theorem m_Search_is_free (E : Env K mg base) : Meth K (ga K "Search") "is_free" (ma K (ga K "Search") "is_free") := meth_ok (all_at (l := methL) (p := fun x => (Fa.meth x.1 x.2).ok K) (E.c.chk 6) 14 (x := ("Search", "is_free")))
theorem m_Search_next_tasks (E : Env K mg base) : Meth K (ga K "Search") "next_tasks" (ma K (ga K "Search") "next_tasks") := meth_ok (all_at (l := methL) (p := fun x => (Fa.meth x.1 x.2).ok K) (E.c.chk 6) 15 (x := ("Search", "next_tasks")))
theorem m_Search_go (E : Env K mg base) : Meth K (ga K "Search") "go" (ma K (ga K "Search") "go") := meth_ok (all_at (l := methL) (p := fun x => (Fa.meth x.1 x.2).ok K) (E.c.chk 6) 16 (x := ("Search", "go")))
theorem p_Station_name (E : Env K mg base) : ∃ p, PropOf K (ga K "Station") "name" p (pa K (ga K "Station") "name") := propB_ok (all_at (l := propL) (p := fun x => propB K (ga K x.1) x.2 (pa K (ga K x.1) x.2)) (E.c.chk 7) 0 (x := ("Station", "name")))
theorem p_Station_hands (E : Env K mg base) : ∃ p, PropOf K (ga K "Station") "hands" p (pa K (ga K "Station") "hands") := propB_ok (all_at (l := propL) (p := fun x => propB K (ga K x.1) x.2 (pa K (ga K x.1) x.2)) (E.c.chk 7) 1 (x := ("Station", "hands")))
theorem p_Station_timed (E : Env K mg base) : ∃ p, PropOf K (ga K "Station") "timed" p (pa K (ga K "Station") "timed") := propB_ok (all_at (l := propL) (p := fun x => propB K (ga K x.1) x.2 (pa K (ga K x.1) x.2)) (E.c.chk 7) 2 (x := ("Station", "timed")))
theorem p_Link_source (E : Env K mg base) : ∃ p, PropOf K (ga K "Link") "source" p (pa K (ga K "Link") "source") := propB_ok (all_at (l := propL) (p := fun x => propB K (ga K x.1) x.2 (pa K (ga K x.1) x.2)) (E.c.chk 7) 3 (x := ("Link", "source")))
theorem p_Link_target (E : Env K mg base) : ∃ p, PropOf K (ga K "Link") "target" p (pa K (ga K "Link") "target") := propB_ok (all_at (l := propL) (p := fun x => propB K (ga K x.1) x.2 (pa K (ga K x.1) x.2)) (E.c.chk 7) 4 (x := ("Link", "target")))
theorem p_Link_stock (E : Env K mg base) : ∃ p, PropOf K (ga K "Link") "stock" p (pa K (ga K "Link") "stock") := propB_ok (all_at (l := propL) (p := fun x => propB K (ga K x.1) x.2 (pa K (ga K x.1) x.2)) (E.c.chk 7) 5 (x := ("Link", "stock")))
theorem p_Link_early (E : Env K mg base) : ∃ p, PropOf K (ga K "Link") "early" p (pa K (ga K "Link") "early") := propB_ok (all_at (l := propL) (p := fun x => propB K (ga K x.1) x.2 (pa K (ga K x.1) x.2)) (E.c.chk 7) 6 (x := ("Link", "early")))
theorem p_Line_stations (E : Env K mg base) : ∃ p, PropOf K (ga K "Line") "stations" p (pa K (ga K "Line") "stations") := propB_ok (all_at (l := propL) (p := fun x => propB K (ga K x.1) x.2 (pa K (ga K x.1) x.2)) (E.c.chk 7) 7 (x := ("Line", "stations")))
theorem p_Line_links (E : Env K mg base) : ∃ p, PropOf K (ga K "Line") "links" p (pa K (ga K "Line") "links") := propB_ok (all_at (l := propL) (p := fun x => propB K (ga K x.1) x.2 (pa K (ga K x.1) x.2)) (E.c.chk 7) 8 (x := ("Line", "links")))
theorem p_Line_outlet (E : Env K mg base) : ∃ p, PropOf K (ga K "Line") "outlet" p (pa K (ga K "Line") "outlet") := propB_ok (all_at (l := propL) (p := fun x => propB K (ga K x.1) x.2 (pa K (ga K x.1) x.2)) (E.c.chk 7) 9 (x := ("Line", "outlet")))
theorem p_Line_names (E : Env K mg base) : ∃ p, PropOf K (ga K "Line") "names" p (pa K (ga K "Line") "names") := propB_ok (all_at (l := propL) (p := fun x => propB K (ga K x.1) x.2 (pa K (ga K x.1) x.2)) (E.c.chk 7) 10 (x := ("Line", "names")))
theorem p_Line_timed (E : Env K mg base) : ∃ p, PropOf K (ga K "Line") "timed" p (pa K (ga K "Line") "timed") := propB_ok (all_at (l := propL) (p := fun x => propB K (ga K x.1) x.2 (pa K (ga K x.1) x.2)) (E.c.chk 7) 11 (x := ("Line", "timed")))
theorem p_Lags_start (E : Env K mg base) : ∃ p, PropOf K (ga K "Lags") "start" p (pa K (ga K "Lags") "start") := propB_ok (all_at (l := propL) (p := fun x => propB K (ga K x.1) x.2 (pa K (ga K x.1) x.2)) (E.c.chk 7) 12 (x := ("Lags", "start")))
theorem p_Lags_period (E : Env K mg base) : ∃ p, PropOf K (ga K "Lags") "period" p (pa K (ga K "Lags") "period") := propB_ok (all_at (l := propL) (p := fun x => propB K (ga K x.1) x.2 (pa K (ga K x.1) x.2)) (E.c.chk 7) 13 (x := ("Lags", "period")))
theorem p_Lags_members (E : Env K mg base) : ∃ p, PropOf K (ga K "Lags") "members" p (pa K (ga K "Lags") "members") := propB_ok (all_at (l := propL) (p := fun x => propB K (ga K x.1) x.2 (pa K (ga K x.1) x.2)) (E.c.chk 7) 14 (x := ("Lags", "members")))
theorem p_Lags_first (E : Env K mg base) : ∃ p, PropOf K (ga K "Lags") "first" p (pa K (ga K "Lags") "first") := propB_ok (all_at (l := propL) (p := fun x => propB K (ga K x.1) x.2 (pa K (ga K x.1) x.2)) (E.c.chk 7) 15 (x := ("Lags", "first")))
theorem p_FormedLags_start (E : Env K mg base) : ∃ p, PropOf K (ga K "FormedLags") "start" p (pa K (ga K "FormedLags") "start") := propB_ok (all_at (l := propL) (p := fun x => propB K (ga K x.1) x.2 (pa K (ga K x.1) x.2)) (E.c.chk 7) 16 (x := ("FormedLags", "start")))
theorem p_FormedLags_period (E : Env K mg base) : ∃ p, PropOf K (ga K "FormedLags") "period" p (pa K (ga K "FormedLags") "period") := propB_ok (all_at (l := propL) (p := fun x => propB K (ga K x.1) x.2 (pa K (ga K x.1) x.2)) (E.c.chk 7) 17 (x := ("FormedLags", "period")))
theorem p_FormedLags_members (E : Env K mg base) : ∃ p, PropOf K (ga K "FormedLags") "members" p (pa K (ga K "FormedLags") "members") := propB_ok (all_at (l := propL) (p := fun x => propB K (ga K x.1) x.2 (pa K (ga K x.1) x.2)) (E.c.chk 7) 18 (x := ("FormedLags", "members")))
theorem p_FormedLags_first (E : Env K mg base) : ∃ p, PropOf K (ga K "FormedLags") "first" p (pa K (ga K "FormedLags") "first") := propB_ok (all_at (l := propL) (p := fun x => propB K (ga K x.1) x.2 (pa K (ga K x.1) x.2)) (E.c.chk 7) 19 (x := ("FormedLags", "first")))
theorem k_Station (E : Env K mg base) : Mk K (ga K "Station") (ma K (ga K "Station") "__init__") := mkr_ok (all_at (l := clsL) (p := fun x => (Fa.mkr x).ok K) (E.c.chk 8) 0)
theorem k_Link (E : Env K mg base) : Mk K (ga K "Link") (ma K (ga K "Link") "__init__") := mkr_ok (all_at (l := clsL) (p := fun x => (Fa.mkr x).ok K) (E.c.chk 8) 1)
theorem k_Line (E : Env K mg base) : Mk K (ga K "Line") (ma K (ga K "Line") "__init__") := mkr_ok (all_at (l := clsL) (p := fun x => (Fa.mkr x).ok K) (E.c.chk 8) 2)
theorem k_Lags (E : Env K mg base) : Mk K (ga K "Lags") (ma K (ga K "Lags") "__init__") := mkr_ok (all_at (l := clsL) (p := fun x => (Fa.mkr x).ok K) (E.c.chk 8) 3)
theorem k_FormedLags (E : Env K mg base) : Mk K (ga K "FormedLags") (ma K (ga K "FormedLags") "__init__") := mkr_ok (all_at (l := clsL) (p := fun x => (Fa.mkr x).ok K) (E.c.chk 8) 4)
theorem k_Walk (E : Env K mg base) : Mk K (ga K "Walk") (ma K (ga K "Walk") "__init__") := mkr_ok (all_at (l := clsL) (p := fun x => (Fa.mkr x).ok K) (E.c.chk 8) 5)
theorem k_Orders (E : Env K mg base) : Mk K (ga K "Orders") (ma K (ga K "Orders") "__init__") := mkr_ok (all_at (l := clsL) (p := fun x => (Fa.mkr x).ok K) (E.c.chk 8) 6)
theorem k_Exchange (E : Env K mg base) : Mk K (ga K "Exchange") (ma K (ga K "Exchange") "__init__") := mkr_ok (all_at (l := clsL) (p := fun x => (Fa.mkr x).ok K) (E.c.chk 8) 7)
theorem k_Search (E : Env K mg base) : Mk K (ga K "Search") (ma K (ga K "Search") "__init__") := mkr_ok (all_at (l := clsL) (p := fun x => (Fa.mkr x).ok K) (E.c.chk 8) 8)
theorem t_Station_Station (E : Env K mg base) : InsT K (ga K "Station") (ga K "Station") := insB_ok (c_Station E) (all_at (l := insL) (p := fun x => insB K (ga K x.1) (ga K x.2)) (E.c.chk 9) 0 (x := ("Station", "Station")))
theorem t_Link_Link (E : Env K mg base) : InsT K (ga K "Link") (ga K "Link") := insB_ok (c_Link E) (all_at (l := insL) (p := fun x => insB K (ga K x.1) (ga K x.2)) (E.c.chk 9) 1 (x := ("Link", "Link")))
theorem t_Line_Line (E : Env K mg base) : InsT K (ga K "Line") (ga K "Line") := insB_ok (c_Line E) (all_at (l := insL) (p := fun x => insB K (ga K x.1) (ga K x.2)) (E.c.chk 9) 2 (x := ("Line", "Line")))
theorem t_Lags_Lags (E : Env K mg base) : InsT K (ga K "Lags") (ga K "Lags") := insB_ok (c_Lags E) (all_at (l := insL) (p := fun x => insB K (ga K x.1) (ga K x.2)) (E.c.chk 9) 3 (x := ("Lags", "Lags")))
theorem t_FormedLags_Lags (E : Env K mg base) : InsT K (ga K "FormedLags") (ga K "Lags") := insB_ok (c_FormedLags E) (all_at (l := insL) (p := fun x => insB K (ga K x.1) (ga K x.2)) (E.c.chk 9) 4 (x := ("FormedLags", "Lags")))
theorem e_contains (E : Env K mg base) : ma K (ga K "Lags") "__contains__" = ma K (ga K "FormedLags") "__contains__" := of_decide_eq_true (all_at (l := sameL) (p := fun x => decide (ma K (ga K x.1) x.2.1 = ma K (ga K x.2.2) x.2.1)) (E.c.chk 10) 0 (x := ("Lags", "__contains__", "FormedLags")))
theorem e_within (E : Env K mg base) : ma K (ga K "Lags") "within" = ma K (ga K "FormedLags") "within" := of_decide_eq_true (all_at (l := sameL) (p := fun x => decide (ma K (ga K x.1) x.2.1 = ma K (ga K x.2.2) x.2.1)) (E.c.chk 10) 1 (x := ("Lags", "within", "FormedLags")))
theorem ep_start (E : Env K mg base) : pa K (ga K "Lags") "start" = pa K (ga K "FormedLags") "start" := of_decide_eq_true (all_at (l := samePL) (p := fun x => decide (pa K (ga K x.1) x.2.1 = pa K (ga K x.2.2) x.2.1)) (E.c.chk 11) 0 (x := ("Lags", "start", "FormedLags")))
theorem ep_period (E : Env K mg base) : pa K (ga K "Lags") "period" = pa K (ga K "FormedLags") "period" := of_decide_eq_true (all_at (l := samePL) (p := fun x => decide (pa K (ga K x.1) x.2.1 = pa K (ga K x.2.2) x.2.1)) (E.c.chk 11) 1 (x := ("Lags", "period", "FormedLags")))
theorem ep_members (E : Env K mg base) : pa K (ga K "Lags") "members" = pa K (ga K "FormedLags") "members" := of_decide_eq_true (all_at (l := samePL) (p := fun x => decide (pa K (ga K x.1) x.2.1 = pa K (ga K x.2.2) x.2.1)) (E.c.chk 11) 2 (x := ("Lags", "members", "FormedLags")))
theorem ep_first (E : Env K mg base) : pa K (ga K "Lags") "first" = pa K (ga K "FormedLags") "first" := of_decide_eq_true (all_at (l := samePL) (p := fun x => decide (pa K (ga K x.1) x.2.1 = pa K (ga K x.2.2) x.2.1)) (E.c.chk 11) 3 (x := ("Lags", "first", "FormedLags")))
theorem dfl0_ok (E : Env K mg base) (H : Hp) : SqT K H (dfl0 K) [] := tupA_ok (ba (E.c.chk 12)).1 H
theorem dfl1_ok (E : Env K mg base) (H : Hp) : SqT K H (dfl1 K) [] := tupA_ok (ba (E.c.chk 12)).2 H
theorem f_is_integer (E : Env K mg base) : FunD K "is_integer" "is_integer" (defArgs s_is_integer) (defBody s_is_integer) (defScope s_is_integer) [] [] (ga K "is_integer") (fdAt K (ga K "is_integer")) := E.c.def_ 0
theorem f_is_name (E : Env K mg base) : FunD K "is_name" "is_name" (defArgs s_is_name) (defBody s_is_name) (defScope s_is_name) [] [] (ga K "is_name") (fdAt K (ga K "is_name")) := E.c.def_ 1
theorem f_check_numbers (E : Env K mg base) : FunD K "check_numbers" "check_numbers" (defArgs s_check_numbers) (defBody s_check_numbers) (defScope s_check_numbers) [] [] (ga K "check_numbers") (fdAt K (ga K "check_numbers")) := E.c.def_ 2
theorem f_least_period (E : Env K mg base) : FunD K "least_period" "least_period" (defArgs s_least_period) (defBody s_least_period) (defScope s_least_period) [] [] (ga K "least_period") (fdAt K (ga K "least_period")) := E.c.def_ 3
theorem f_least_form (E : Env K mg base) : FunD K "least_form" "least_form" (defArgs s_least_form) (defBody s_least_form) (defScope s_least_form) [] [] (ga K "least_form") (fdAt K (ga K "least_form")) := E.c.def_ 4
theorem f_flags_of (E : Env K mg base) : FunD K "flags_of" "flags_of" (defArgs s_flags_of) (defBody s_flags_of) (defScope s_flags_of) [] [] (ga K "flags_of") (fdAt K (ga K "flags_of")) := E.c.def_ 5
theorem f_flag_at (E : Env K mg base) : FunD K "flag_at" "flag_at" (defArgs s_flag_at) (defBody s_flag_at) (defScope s_flag_at) [] [] (ga K "flag_at") (fdAt K (ga K "flag_at")) := E.c.def_ 6
theorem f_Lags_init (E : Env K mg base) : FunD K "__init__" "Lags.__init__" (defArgs s_Lags_init) (defBody s_Lags_init) (defScope s_Lags_init) [.ref (dfl0 K), .ref (dfl1 K), .int 1] [] (ma K (ga K "Lags") "__init__") (fdAt K (ma K (ga K "Lags") "__init__")) := E.c.def_ 7
theorem f_Lags_start (E : Env K mg base) : FunD K "start" "Lags.start" (defArgs s_Lags_start) (defBody s_Lags_start) (defScope s_Lags_start) [] [] (pa K (ga K "Lags") "start") (fdAt K (pa K (ga K "Lags") "start")) := E.c.def_ 8
theorem f_Lags_period (E : Env K mg base) : FunD K "period" "Lags.period" (defArgs s_Lags_period) (defBody s_Lags_period) (defScope s_Lags_period) [] [] (pa K (ga K "Lags") "period") (fdAt K (pa K (ga K "Lags") "period")) := E.c.def_ 9
theorem f_Lags_members (E : Env K mg base) : FunD K "members" "Lags.members" (defArgs s_Lags_members) (defBody s_Lags_members) (defScope s_Lags_members) [] [] (pa K (ga K "Lags") "members") (fdAt K (pa K (ga K "Lags") "members")) := E.c.def_ 10
theorem f_Lags_first (E : Env K mg base) : FunD K "first" "Lags.first" (defArgs s_Lags_first) (defBody s_Lags_first) (defScope s_Lags_first) [] [] (pa K (ga K "Lags") "first") (fdAt K (pa K (ga K "Lags") "first")) := E.c.def_ 11
theorem f_Lags_contains (E : Env K mg base) : FunD K "__contains__" "Lags.__contains__" (defArgs s_Lags_contains) (defBody s_Lags_contains) (defScope s_Lags_contains) [] [] (ma K (ga K "Lags") "__contains__") (fdAt K (ma K (ga K "Lags") "__contains__")) := E.c.def_ 12
theorem f_Lags_within (E : Env K mg base) : FunD K "within" "Lags.within" (defArgs s_Lags_within) (defBody s_Lags_within) (defScope s_Lags_within) [] [] (ma K (ga K "Lags") "within") (fdAt K (ma K (ga K "Lags") "within")) := E.c.def_ 13
theorem f_check_lags (E : Env K mg base) : FunD K "check_lags" "check_lags" (defArgs s_check_lags) (defBody s_check_lags) (defScope s_check_lags) [] [] (ga K "check_lags") (fdAt K (ga K "check_lags")) := E.c.def_ 14
theorem f_FormedLags_init (E : Env K mg base) : FunD K "__init__" "FormedLags.__init__" (defArgs s_FormedLags_init) (defBody s_FormedLags_init) (defScope s_FormedLags_init) [] [] (ma K (ga K "FormedLags") "__init__") (fdAt K (ma K (ga K "FormedLags") "__init__")) := E.c.def_ 15
theorem f_lags_with (E : Env K mg base) : FunD K "lags_with" "lags_with" (defArgs s_lags_with) (defBody s_lags_with) (defScope s_lags_with) [] [] (ga K "lags_with") (fdAt K (ga K "lags_with")) := E.c.def_ 16
theorem f_common_multiple (E : Env K mg base) : FunD K "common_multiple" "common_multiple" (defArgs s_common_multiple) (defBody s_common_multiple) (defScope s_common_multiple) [] [] (ga K "common_multiple") (fdAt K (ga K "common_multiple")) := E.c.def_ 17
theorem f_both_ends (E : Env K mg base) : FunD K "both_ends" "both_ends" (defArgs s_both_ends) (defBody s_both_ends) (defScope s_both_ends) [] [] (ga K "both_ends") (fdAt K (ga K "both_ends")) := E.c.def_ 18
theorem f_form_left (E : Env K mg base) : FunD K "form_left" "form_left" (defArgs s_form_left) (defBody s_form_left) (defScope s_form_left) [] [] (ga K "form_left") (fdAt K (ga K "form_left")) := E.c.def_ 19
theorem f_lags_of (E : Env K mg base) : FunD K "lags_of" "lags_of" (defArgs s_lags_of) (defBody s_lags_of) (defScope s_lags_of) [] [] (ga K "lags_of") (fdAt K (ga K "lags_of")) := E.c.def_ 20
theorem f_left_of (E : Env K mg base) : FunD K "left_of" "left_of" (defArgs s_left_of) (defBody s_left_of) (defScope s_left_of) [] [] (ga K "left_of") (fdAt K (ga K "left_of")) := E.c.def_ 21
theorem f_check_name (E : Env K mg base) : FunD K "check_name" "check_name" (defArgs s_check_name) (defBody s_check_name) (defScope s_check_name) [] [] (ga K "check_name") (fdAt K (ga K "check_name")) := E.c.def_ 22
theorem f_check_flag (E : Env K mg base) : FunD K "check_flag" "check_flag" (defArgs s_check_flag) (defBody s_check_flag) (defScope s_check_flag) [] [] (ga K "check_flag") (fdAt K (ga K "check_flag")) := E.c.def_ 23
theorem f_Station_init (E : Env K mg base) : FunD K "__init__" "Station.__init__" (defArgs s_Station_init) (defBody s_Station_init) (defScope s_Station_init) [.int 1] [("timed", .bl true)] (ma K (ga K "Station") "__init__") (fdAt K (ma K (ga K "Station") "__init__")) := E.c.def_ 24
theorem f_Station_name (E : Env K mg base) : FunD K "name" "Station.name" (defArgs s_Station_name) (defBody s_Station_name) (defScope s_Station_name) [] [] (pa K (ga K "Station") "name") (fdAt K (pa K (ga K "Station") "name")) := E.c.def_ 25
theorem f_Station_hands (E : Env K mg base) : FunD K "hands" "Station.hands" (defArgs s_Station_hands) (defBody s_Station_hands) (defScope s_Station_hands) [] [] (pa K (ga K "Station") "hands") (fdAt K (pa K (ga K "Station") "hands")) := E.c.def_ 26
theorem f_Station_timed (E : Env K mg base) : FunD K "timed" "Station.timed" (defArgs s_Station_timed) (defBody s_Station_timed) (defScope s_Station_timed) [] [] (pa K (ga K "Station") "timed") (fdAt K (pa K (ga K "Station") "timed")) := E.c.def_ 27
theorem f_Link_init (E : Env K mg base) : FunD K "__init__" "Link.__init__" (defArgs s_Link_init) (defBody s_Link_init) (defScope s_Link_init) [.int 0] [("early", .bl false)] (ma K (ga K "Link") "__init__") (fdAt K (ma K (ga K "Link") "__init__")) := E.c.def_ 28
theorem f_Link_source (E : Env K mg base) : FunD K "source" "Link.source" (defArgs s_Link_source) (defBody s_Link_source) (defScope s_Link_source) [] [] (pa K (ga K "Link") "source") (fdAt K (pa K (ga K "Link") "source")) := E.c.def_ 29
theorem f_Link_target (E : Env K mg base) : FunD K "target" "Link.target" (defArgs s_Link_target) (defBody s_Link_target) (defScope s_Link_target) [] [] (pa K (ga K "Link") "target") (fdAt K (pa K (ga K "Link") "target")) := E.c.def_ 30
theorem f_Link_stock (E : Env K mg base) : FunD K "stock" "Link.stock" (defArgs s_Link_stock) (defBody s_Link_stock) (defScope s_Link_stock) [] [] (pa K (ga K "Link") "stock") (fdAt K (pa K (ga K "Link") "stock")) := E.c.def_ 31
theorem f_Link_early (E : Env K mg base) : FunD K "early" "Link.early" (defArgs s_Link_early) (defBody s_Link_early) (defScope s_Link_early) [] [] (pa K (ga K "Link") "early") (fdAt K (pa K (ga K "Link") "early")) := E.c.def_ 32
theorem f_check_stations (E : Env K mg base) : FunD K "check_stations" "check_stations" (defArgs s_check_stations) (defBody s_check_stations) (defScope s_check_stations) [] [] (ga K "check_stations") (fdAt K (ga K "check_stations")) := E.c.def_ 33
theorem f_check_links (E : Env K mg base) : FunD K "check_links" "check_links" (defArgs s_check_links) (defBody s_check_links) (defScope s_check_links) [] [] (ga K "check_links") (fdAt K (ga K "check_links")) := E.c.def_ 34
theorem f_Line_init (E : Env K mg base) : FunD K "__init__" "Line.__init__" (defArgs s_Line_init) (defBody s_Line_init) (defScope s_Line_init) [] [] (ma K (ga K "Line") "__init__") (fdAt K (ma K (ga K "Line") "__init__")) := E.c.def_ 35
theorem f_Line_stations (E : Env K mg base) : FunD K "stations" "Line.stations" (defArgs s_Line_stations) (defBody s_Line_stations) (defScope s_Line_stations) [] [] (pa K (ga K "Line") "stations") (fdAt K (pa K (ga K "Line") "stations")) := E.c.def_ 36
theorem f_Line_links (E : Env K mg base) : FunD K "links" "Line.links" (defArgs s_Line_links) (defBody s_Line_links) (defScope s_Line_links) [] [] (pa K (ga K "Line") "links") (fdAt K (pa K (ga K "Line") "links")) := E.c.def_ 37
theorem f_Line_outlet (E : Env K mg base) : FunD K "outlet" "Line.outlet" (defArgs s_Line_outlet) (defBody s_Line_outlet) (defScope s_Line_outlet) [] [] (pa K (ga K "Line") "outlet") (fdAt K (pa K (ga K "Line") "outlet")) := E.c.def_ 38
theorem f_Line_names (E : Env K mg base) : FunD K "names" "Line.names" (defArgs s_Line_names) (defBody s_Line_names) (defScope s_Line_names) [] [] (pa K (ga K "Line") "names") (fdAt K (pa K (ga K "Line") "names")) := E.c.def_ 39
theorem f_Line_timed (E : Env K mg base) : FunD K "timed" "Line.timed" (defArgs s_Line_timed) (defBody s_Line_timed) (defScope s_Line_timed) [] [] (pa K (ga K "Line") "timed") (fdAt K (pa K (ga K "Line") "timed")) := E.c.def_ 40
theorem f_Line_len (E : Env K mg base) : FunD K "__len__" "Line.__len__" (defArgs s_Line_len) (defBody s_Line_len) (defScope s_Line_len) [] [] (ma K (ga K "Line") "__len__") (fdAt K (ma K (ga K "Line") "__len__")) := E.c.def_ 41
theorem f_check_line (E : Env K mg base) : FunD K "check_line" "check_line" (defArgs s_check_line) (defBody s_check_line) (defScope s_check_line) [] [] (ga K "check_line") (fdAt K (ga K "check_line")) := E.c.def_ 42
theorem f_check_station (E : Env K mg base) : FunD K "check_station" "check_station" (defArgs s_check_station) (defBody s_check_station) (defScope s_check_station) [] [] (ga K "check_station") (fdAt K (ga K "check_station")) := E.c.def_ 43
theorem f_ends_of (E : Env K mg base) : FunD K "ends_of" "ends_of" (defArgs s_ends_of) (defBody s_ends_of) (defScope s_ends_of) [] [] (ga K "ends_of") (fdAt K (ga K "ends_of")) := E.c.def_ 44
theorem f_rings_from (E : Env K mg base) : FunD K "rings_from" "rings_from" (defArgs s_rings_from) (defBody s_rings_from) (defScope s_rings_from) [] [] (ga K "rings_from") (fdAt K (ga K "rings_from")) := E.c.def_ 45
theorem f_rings (E : Env K mg base) : FunD K "rings" "rings" (defArgs s_rings) (defBody s_rings) (defScope s_rings) [] [] (ga K "rings") (fdAt K (ga K "rings")) := E.c.def_ 46
theorem f_stuck (E : Env K mg base) : FunD K "stuck" "stuck" (defArgs s_stuck) (defBody s_stuck) (defScope s_stuck) [] [] (ga K "stuck") (fdAt K (ga K "stuck")) := E.c.def_ 47
theorem f_check_free (E : Env K mg base) : FunD K "check_free" "check_free" (defArgs s_check_free) (defBody s_check_free) (defScope s_check_free) [] [] (ga K "check_free") (fdAt K (ga K "check_free")) := E.c.def_ 48
theorem f_width_of (E : Env K mg base) : FunD K "width_of" "width_of" (defArgs s_width_of) (defBody s_width_of) (defScope s_width_of) [] [] (ga K "width_of") (fdAt K (ga K "width_of")) := E.c.def_ 49
theorem f_entries_of (E : Env K mg base) : FunD K "entries_of" "entries_of" (defArgs s_entries_of) (defBody s_entries_of) (defScope s_entries_of) [] [] (ga K "entries_of") (fdAt K (ga K "entries_of")) := E.c.def_ 50
theorem f_is_begun (E : Env K mg base) : FunD K "is_begun" "is_begun" (defArgs s_is_begun) (defBody s_is_begun) (defScope s_is_begun) [] [] (ga K "is_begun") (fdAt K (ga K "is_begun")) := E.c.def_ 51
theorem f_next_row (E : Env K mg base) : FunD K "next_row" "next_row" (defArgs s_next_row) (defBody s_next_row) (defScope s_next_row) [] [] (ga K "next_row") (fdAt K (ga K "next_row")) := E.c.def_ 52
theorem f_Walk_init (E : Env K mg base) : FunD K "__init__" "Walk.__init__" (defArgs s_Walk_init) (defBody s_Walk_init) (defScope s_Walk_init) [] [] (ma K (ga K "Walk") "__init__") (fdAt K (ma K (ga K "Walk") "__init__")) := E.c.def_ 53
theorem f_Walk_lags_at (E : Env K mg base) : FunD K "lags_at" "Walk.lags_at" (defArgs s_Walk_lags_at) (defBody s_Walk_lags_at) (defScope s_Walk_lags_at) [] [] (ma K (ga K "Walk") "lags_at") (fdAt K (ma K (ga K "Walk") "lags_at")) := E.c.def_ 54
theorem f_Walk_ends (E : Env K mg base) : FunD K "ends" "Walk.ends" (defArgs s_Walk_ends) (defBody s_Walk_ends) (defScope s_Walk_ends) [] [] (ma K (ga K "Walk") "ends") (fdAt K (ma K (ga K "Walk") "ends")) := E.c.def_ 55
theorem f_Walk_begins (E : Env K mg base) : FunD K "begins" "Walk.begins" (defArgs s_Walk_begins) (defBody s_Walk_begins) (defScope s_Walk_begins) [] [] (ma K (ga K "Walk") "begins") (fdAt K (ma K (ga K "Walk") "begins")) := E.c.def_ 56
theorem f_walked (E : Env K mg base) : FunD K "walked" "walked" (defArgs s_walked) (defBody s_walked) (defScope s_walked) [] [] (ga K "walked") (fdAt K (ga K "walked")) := E.c.def_ 57
theorem f_Orders_init (E : Env K mg base) : FunD K "__init__" "Orders.__init__" (defArgs s_Orders_init) (defBody s_Orders_init) (defScope s_Orders_init) [] [] (ma K (ga K "Orders") "__init__") (fdAt K (ma K (ga K "Orders") "__init__")) := E.c.def_ 58
theorem f_Orders_to_outlet (E : Env K mg base) : FunD K "to_outlet" "Orders.to_outlet" (defArgs s_Orders_to_outlet) (defBody s_Orders_to_outlet) (defScope s_Orders_to_outlet) [] [] (ma K (ga K "Orders") "to_outlet") (fdAt K (ma K (ga K "Orders") "to_outlet")) := E.c.def_ 59
theorem f_Orders_between (E : Env K mg base) : FunD K "between" "Orders.between" (defArgs s_Orders_between) (defBody s_Orders_between) (defScope s_Orders_between) [] [] (ma K (ga K "Orders") "between") (fdAt K (ma K (ga K "Orders") "between")) := E.c.def_ 60
theorem f_Orders_is_before (E : Env K mg base) : FunD K "is_before" "Orders.is_before" (defArgs s_Orders_is_before) (defBody s_Orders_is_before) (defScope s_Orders_is_before) [] [] (ma K (ga K "Orders") "is_before") (fdAt K (ma K (ga K "Orders") "is_before")) := E.c.def_ 61
theorem f_Orders_are_in_sequence (E : Env K mg base) : FunD K "are_in_sequence" "Orders.are_in_sequence" (defArgs s_Orders_are_in_sequence) (defBody s_Orders_are_in_sequence) (defScope s_Orders_are_in_sequence) [] [] (ma K (ga K "Orders") "are_in_sequence") (fdAt K (ma K (ga K "Orders") "are_in_sequence")) := E.c.def_ 62
theorem f_order_lags (E : Env K mg base) : FunD K "order_lags" "order_lags" (defArgs s_order_lags) (defBody s_order_lags) (defScope s_order_lags) [] [] (ga K "order_lags") (fdAt K (ga K "order_lags")) := E.c.def_ 63
theorem f_outlet_lags (E : Env K mg base) : FunD K "outlet_lags" "outlet_lags" (defArgs s_outlet_lags) (defBody s_outlet_lags) (defScope s_outlet_lags) [] [] (ga K "outlet_lags") (fdAt K (ga K "outlet_lags")) := E.c.def_ 64
theorem f_check_pair (E : Env K mg base) : FunD K "check_pair" "check_pair" (defArgs s_check_pair) (defBody s_check_pair) (defScope s_check_pair) [] [] (ga K "check_pair") (fdAt K (ga K "check_pair")) := E.c.def_ 65
theorem f_check_whole (E : Env K mg base) : FunD K "check_whole" "check_whole" (defArgs s_check_whole) (defBody s_check_whole) (defScope s_check_whole) [] [] (ga K "check_whole") (fdAt K (ga K "check_whole")) := E.c.def_ 66
theorem f_bad_lags (E : Env K mg base) : FunD K "bad_lags" "bad_lags" (defArgs s_bad_lags) (defBody s_bad_lags) (defScope s_bad_lags) [] [] (ga K "bad_lags") (fdAt K (ga K "bad_lags")) := E.c.def_ 67
theorem f_single_cases (E : Env K mg base) : FunD K "single_cases" "single_cases" (defArgs s_single_cases) (defBody s_single_cases) (defScope s_single_cases) [] [] (ga K "single_cases") (fdAt K (ga K "single_cases")) := E.c.def_ 68
theorem f_pair_cases (E : Env K mg base) : FunD K "pair_cases" "pair_cases" (defArgs s_pair_cases) (defBody s_pair_cases) (defScope s_pair_cases) [] [] (ga K "pair_cases") (fdAt K (ga K "pair_cases")) := E.c.def_ 69
theorem f_least_case (E : Env K mg base) : FunD K "least_case" "least_case" (defArgs s_least_case) (defBody s_least_case) (defScope s_least_case) [] [] (ga K "least_case") (fdAt K (ga K "least_case")) := E.c.def_ 70
theorem f_later_case (E : Env K mg base) : FunD K "later_case" "later_case" (defArgs s_later_case) (defBody s_later_case) (defScope s_later_case) [] [("whole", .bl false)] (ga K "later_case") (fdAt K (ga K "later_case")) := E.c.def_ 71
theorem f_never_later (E : Env K mg base) : FunD K "never_later" "never_later" (defArgs s_never_later) (defBody s_never_later) (defScope s_never_later) [] [("whole", .bl false)] (ga K "never_later") (fdAt K (ga K "never_later")) := E.c.def_ 72
theorem f_Exchange_init (E : Env K mg base) : FunD K "__init__" "Exchange.__init__" (defArgs s_Exchange_init) (defBody s_Exchange_init) (defScope s_Exchange_init) [] [] (ma K (ga K "Exchange") "__init__") (fdAt K (ma K (ga K "Exchange") "__init__")) := E.c.def_ 73
theorem f_Exchange_cheapest (E : Env K mg base) : FunD K "cheapest" "Exchange.cheapest" (defArgs s_Exchange_cheapest) (defBody s_Exchange_cheapest) (defScope s_Exchange_cheapest) [] [] (ma K (ga K "Exchange") "cheapest") (fdAt K (ma K (ga K "Exchange") "cheapest")) := E.c.def_ 74
theorem f_common_period (E : Env K mg base) : FunD K "common_period" "common_period" (defArgs s_common_period) (defBody s_common_period) (defScope s_common_period) [] [] (ga K "common_period") (fdAt K (ga K "common_period")) := E.c.def_ 75
theorem f_far_of (E : Env K mg base) : FunD K "far_of" "far_of" (defArgs s_far_of) (defBody s_far_of) (defScope s_far_of) [] [] (ga K "far_of") (fdAt K (ga K "far_of")) := E.c.def_ 76
theorem f_counting (E : Env K mg base) : FunD K "counting" "counting" (defArgs s_counting) (defBody s_counting) (defScope s_counting) [] [] (ga K "counting") (fdAt K (ga K "counting")) := E.c.def_ 77
theorem f_lost_station (E : Env K mg base) : FunD K "lost_station" "lost_station" (defArgs s_lost_station) (defBody s_lost_station) (defScope s_lost_station) [] [] (ga K "lost_station") (fdAt K (ga K "lost_station")) := E.c.def_ 78
theorem f_free_station (E : Env K mg base) : FunD K "free_station" "free_station" (defArgs s_free_station) (defBody s_free_station) (defScope s_free_station) [] [] (ga K "free_station") (fdAt K (ga K "free_station")) := E.c.def_ 79
theorem f_Search_init (E : Env K mg base) : FunD K "__init__" "Search.__init__" (defArgs s_Search_init) (defBody s_Search_init) (defScope s_Search_init) [] [] (ma K (ga K "Search") "__init__") (fdAt K (ma K (ga K "Search") "__init__")) := E.c.def_ 80
theorem f_Search_is_done (E : Env K mg base) : FunD K "is_done" "Search.is_done" (defArgs s_Search_is_done) (defBody s_Search_is_done) (defScope s_Search_is_done) [] [] (ma K (ga K "Search") "is_done") (fdAt K (ma K (ga K "Search") "is_done")) := E.c.def_ 81
theorem f_Search_is_free (E : Env K mg base) : FunD K "is_free" "Search.is_free" (defArgs s_Search_is_free) (defBody s_Search_is_free) (defScope s_Search_is_free) [] [] (ma K (ga K "Search") "is_free") (fdAt K (ma K (ga K "Search") "is_free")) := E.c.def_ 82
theorem f_Search_next_tasks (E : Env K mg base) : FunD K "next_tasks" "Search.next_tasks" (defArgs s_Search_next_tasks) (defBody s_Search_next_tasks) (defScope s_Search_next_tasks) [] [] (ma K (ga K "Search") "next_tasks") (fdAt K (ma K (ga K "Search") "next_tasks")) := E.c.def_ 83
theorem f_Search_go (E : Env K mg base) : FunD K "go" "Search.go" (defArgs s_Search_go) (defBody s_Search_go) (defScope s_Search_go) [] [] (ma K (ga K "Search") "go") (fdAt K (ma K (ga K "Search") "go")) := E.c.def_ 84
theorem f_most_alone (E : Env K mg base) : FunD K "most_alone" "most_alone" (defArgs s_most_alone) (defBody s_most_alone) (defScope s_most_alone) [] [] (ga K "most_alone") (fdAt K (ga K "most_alone")) := E.c.def_ 85
theorem f_most_tasks (E : Env K mg base) : FunD K "most_tasks" "most_tasks" (defArgs s_most_tasks) (defBody s_most_tasks) (defScope s_most_tasks) [] [] (ga K "most_tasks") (fdAt K (ga K "most_tasks")) := E.c.def_ 86
theorem f_factor (E : Env K mg base) : FunD K "factor" "factor" (defArgs s_factor) (defBody s_factor) (defScope s_factor) [] [] (ga K "factor") (fdAt K (ga K "factor")) := E.c.def_ 87
theorem f_are_never_bad (E : Env K mg base) : FunD K "are_never_bad" "are_never_bad" (defArgs s_are_never_bad) (defBody s_are_never_bad) (defScope s_are_never_bad) [] [] (ga K "are_never_bad") (fdAt K (ga K "are_never_bad")) := E.c.def_ 88
theorem f_later_by (E : Env K mg base) : FunD K "later_by" "later_by" (defArgs s_later_by) (defBody s_later_by) (defScope s_later_by) [] [] (ga K "later_by") (fdAt K (ga K "later_by")) := E.c.def_ 89
theorem f_suits (E : Env K mg base) : FunD K "suits" "suits" (defArgs s_suits) (defBody s_suits) (defScope s_suits) [] [] (ga K "suits") (fdAt K (ga K "suits")) := E.c.def_ 90
theorem f_head_start (E : Env K mg base) : FunD K "head_start" "head_start" (defArgs s_head_start) (defBody s_head_start) (defScope s_head_start) [] [] (ga K "head_start") (fdAt K (ga K "head_start")) := E.c.def_ 91
theorem f_law_purl (E : Env K mg base) : FunD K "_law_purl" "_law_purl" (defArgs s_law_purl) (defBody s_law_purl) (defScope s_law_purl) [] [] (ga K "_law_purl") (fdAt K (ga K "_law_purl")) := E.c.def_ 92
theorem f_law_dig (E : Env K mg base) : FunD K "_law_dig" "_law_dig" (defArgs s_law_dig) (defBody s_law_dig) (defScope s_law_dig) [] [] (ga K "_law_dig") (fdAt K (ga K "_law_dig")) := E.c.def_ 93
theorem f_law_words (E : Env K mg base) : FunD K "_law_words" "_law_words" (defArgs s_law_words) (defBody s_law_words) (defScope s_law_words) [] [] (ga K "_law_words") (fdAt K (ga K "_law_words")) := E.c.def_ 94
theorem f_law_tie (E : Env K mg base) : FunD K "_law_tie" "_law_tie" (defArgs s_law_tie) (defBody s_law_tie) (defScope s_law_tie) [] [] (ga K "_law_tie") (fdAt K (ga K "_law_tie")) := E.c.def_ 95
theorem f_law_post (E : Env K mg base) : FunD K "_law_post" "_law_post" (defArgs s_law_post) (defBody s_law_post) (defScope s_law_post) [] [] (ga K "_law_post") (fdAt K (ga K "_law_post")) := E.c.def_ 96
theorem f_law_chained (E : Env K mg base) : FunD K "_law_chained" "_law_chained" (defArgs s_law_chained) (defBody s_law_chained) (defScope s_law_chained) [] [] (ga K "_law_chained") (fdAt K (ga K "_law_chained")) := E.c.def_ 97
theorem f_law_plan (E : Env K mg base) : FunD K "_law_plan" "_law_plan" (defArgs s_law_plan) (defBody s_law_plan) (defScope s_law_plan) [] [] (ga K "_law_plan") (fdAt K (ga K "_law_plan")) := E.c.def_ 98
theorem f_law_line (E : Env K mg base) : FunD K "_law_line" "_law_line" (defArgs s_law_line) (defBody s_law_line) (defScope s_law_line) [] [] (ga K "_law_line") (fdAt K (ga K "_law_line")) := E.c.def_ 99
theorem f_law_onset (E : Env K mg base) : FunD K "_law_onset" "_law_onset" (defArgs s_law_onset) (defBody s_law_onset) (defScope s_law_onset) [] [] (ga K "_law_onset") (fdAt K (ga K "_law_onset")) := E.c.def_ 100
theorem f_law_settled (E : Env K mg base) : FunD K "_law_settled" "_law_settled" (defArgs s_law_settled) (defBody s_law_settled) (defScope s_law_settled) [] [] (ga K "_law_settled") (fdAt K (ga K "_law_settled")) := E.c.def_ 101
theorem f_law_played (E : Env K mg base) : FunD K "_law_played" "_law_played" (defArgs s_law_played) (defBody s_law_played) (defScope s_law_played) [] [] (ga K "_law_played") (fdAt K (ga K "_law_played")) := E.c.def_ 102
theorem f_law_ended (E : Env K mg base) : FunD K "_law_ended" "_law_ended" (defArgs s_law_ended) (defBody s_law_ended) (defScope s_law_ended) [] [] (ga K "_law_ended") (fdAt K (ga K "_law_ended")) := E.c.def_ 103
theorem f_law_times (E : Env K mg base) : FunD K "_law_times" "_law_times" (defArgs s_law_times) (defBody s_law_times) (defScope s_law_times) [] [] (ga K "_law_times") (fdAt K (ga K "_law_times")) := E.c.def_ 104
theorem f_law_loosened (E : Env K mg base) : FunD K "_law_loosened" "_law_loosened" (defArgs s_law_loosened) (defBody s_law_loosened) (defScope s_law_loosened) [] [] (ga K "_law_loosened") (fdAt K (ga K "_law_loosened")) := E.c.def_ 105
theorem f_law_kept (E : Env K mg base) : FunD K "_law_kept" "_law_kept" (defArgs s_law_kept) (defBody s_law_kept) (defScope s_law_kept) [] [] (ga K "_law_kept") (fdAt K (ga K "_law_kept")) := E.c.def_ 106
theorem f_law_step_right (E : Env K mg base) : FunD K "_law_step_right" "_law_step_right" (defArgs s_law_step_right) (defBody s_law_step_right) (defScope s_law_step_right) [] [] (ga K "_law_step_right") (fdAt K (ga K "_law_step_right")) := E.c.def_ 107
theorem f_law_right (E : Env K mg base) : FunD K "_law_right" "_law_right" (defArgs s_law_right) (defBody s_law_right) (defScope s_law_right) [] [] (ga K "_law_right") (fdAt K (ga K "_law_right")) := E.c.def_ 108
theorem f_law (E : Env K mg base) : FunD K "law" "law" (defArgs s_law) (defBody s_law) (defScope s_law) [] [] (ga K "law") (fdAt K (ga K "law")) := E.c.def_ 109
end
end Own
set_option Elab.async false
set_option linter.all false
set_option maxRecDepth 100000
set_option maxHeartbeats 4000000
/-! enumerate over a tuple -/
namespace OwnR
open PySem PySem.Spec PyProof.Rows L2
open AutoSeq1 (wpAny_loadPart')
section
variable {prog : Program} {w : World} {A : Around} {E : Value → Shared → Prop} {s : Shared}
theorem nextOf_tuple_item {it l : Addr} {i : Nat} {items} {x : Value} {Q : Value → Shared → Prop} (hit : s.heap.IsTupleIter it l i)
    (hl : s.heap.IsTuple l items) (hx : items[i]? = some x)
    (hQ : ∀ h', h'.IsTupleIter it l (i + 1) → Heap.SameBut it s.heap h' → Q x { s with heap := h' }) :
    wpAny (model prog w) A (Builtin.SmallTypes.nextOf (.ref it)) Q E s := by
  obtain ⟨o, ho, hc, hd⟩ := id hit
  obtain ⟨ol, hol, _, nl, hdl⟩ := hl
  unfold Builtin.SmallTypes.nextOf
  refine wpAny_bind (wpAny_callSpecial?_slot (name := Str.ofString "__next__") hit.typeIs F.slot_tuple_iterator_next
    (wpAny_call_entry F.slot_tuple_iterator_next hit.typeIs F.entry_tuple_iterator_next ?_ (F.args_tuple_iterator_next_1 _)))
  show wpAny _ _ (field (.ref it) 0 >>= _) _ _ s
  refine wpAny_bind (wpAny_field ho hd (x := .ref l) rfl ?_)
  show wpAny _ _ (if (Value.ref l == Value.none) = true then _ else _) _ _ s
  rw [if_neg (show ¬ ((Value.ref l == Value.none) = true) from Bool.false_ne_true)]
  show wpAny _ _ (field (.ref it) 1 >>= _) _ _ s
  refine wpAny_bind (wpAny_field ho hd (x := .int i 0) rfl ?_)
  show wpAny _ _ (seqItems? (.ref l) >>= _) _ _ s
  refine wpAny_bind (wpAny_seqItems hol hdl ?_)
  simp only [Int.toNat_natCast, hx]
  refine wpAny_bind (wpAny_setField ho hd (by simp) (wpAny_pure ⟨x, rfl, wpAny_pure (hQ _ ?_ (Heap.SameBut.update ..))⟩))
  exact ⟨_, Heap.get?_update_self _ ho (Obj.isFreed_of_fields (Obj.data_mapFields hd _)), (Obj.cls_mapFields ..).trans hc, by
    rw [Obj.data_mapFields hd]; simp [rawInt]⟩
theorem nextOf_tuple_end {it l : Addr} {i : Nat} {items} {Q : Value → Shared → Prop} (hh : A.handled = none)
    (hit : s.heap.IsTupleIter it l i) (hl : s.heap.IsTuple l items) (hx : items[i]? = none)
    (hE : ∀ h' e, Heap.ExtBut it s.heap h' → (∃ o, h'.get? e = some o ∧ o.cls = .type "StopIteration") → E (.ref e) { s with heap := h' }) :
    wpAny (model prog w) A (Builtin.SmallTypes.nextOf (.ref it)) Q E s := by
  obtain ⟨o, ho, hc, hd⟩ := id hit
  obtain ⟨ol, hol, _, nl, hdl⟩ := hl
  unfold Builtin.SmallTypes.nextOf
  refine wpAny_bind (wpAny_callSpecial?_slot (name := Str.ofString "__next__") hit.typeIs F.slot_tuple_iterator_next
    (wpAny_call_entry F.slot_tuple_iterator_next hit.typeIs F.entry_tuple_iterator_next ?_ (F.args_tuple_iterator_next_1 _)))
  show wpAny _ _ (field (.ref it) 0 >>= _) _ _ s
  refine wpAny_bind (wpAny_field ho hd (x := .ref l) rfl ?_)
  show wpAny _ _ (if (Value.ref l == Value.none) = true then _ else _) _ _ s
  rw [if_neg (show ¬ ((Value.ref l == Value.none) = true) from Bool.false_ne_true)]
  show wpAny _ _ (field (.ref it) 1 >>= _) _ _ s
  refine wpAny_bind (wpAny_field ho hd (x := .int i 0) rfl ?_)
  show wpAny _ _ (seqItems? (.ref l) >>= _) _ _ s
  refine wpAny_bind (wpAny_seqItems hol hdl ?_)
  simp only [Int.toNat_natCast, hx]
  refine wpAny_bind (wpAny_rule (wpAny_bind (wpAny_setField ho hd (by simp) ?_)))
  show wpAny _ _ (newExc (.type "StopIteration") [] >>= _) _ _ _
  refine wpAny_bind ?_
  simp only [newExc, newTuple]
  refine wpAny_bind (wpAny_newObj_type ?_ (by size_fits))
  refine wpAny_bind (m := firstArgMember _ _) (wpAny_of_eq (a := Value.none) (by first | rfl | (simp only [firstArgMember]; rfl)) ?_)
  refine wpAny_newObj_type ?_ (by size_fits)
  simp only [raiseNew]
  refine wpAny_bind (wpAny_handled ?_)
  first | rw [show A.in1.handled = none from hh] | rw [hh]
  refine wpAny_bind (wpAny_pure (wpAny_throw ?_))
  exact hE _ _ (((Heap.SameBut.update ..).extBut.push _).push _) ⟨_, Heap.get?_push_size _ rfl, rfl⟩
end
theorem tupIter_at {h h' : Heap} {it t : Addr} {i : Nat} (x : h.IsTupleIter it t i) (k : ∀ o, h.get? it = some o → h'.get? it = some o) : h'.IsTupleIter it t i :=
  let ⟨o, ho, r⟩ := x; ⟨o, k o ho, r⟩
theorem tup_at {h h' : Heap} {t : Addr} {its : Array Value} (x : h.IsTuple t its) (k : ∀ o, h.get? t = some o → h'.get? t = some o) : h'.IsTuple t its :=
  let ⟨o, ho, r⟩ := x; ⟨o, k o ho, r⟩
theorem draws_tuple {prog : Program} {w : World} {A : Around} (hh : A.handled = none) (it l : Addr) (hne : l ≠ it) (items : Array Value) :
    Draws prog w A it [it, l] items.size (fun i v => items[i]? = some v) (fun i h => h.IsTupleIter it l i ∧ h.IsTuple l items) where
  live := fun _ _ st => let ⟨o, ho, _⟩ := st.1; ⟨o, ho⟩
  frame := fun _ _ _ st hk => ⟨tupIter_at st.1 fun o e => hk it (by simp) o e, tup_at st.2 fun o e => hk l (by simp) o e⟩
  item := fun i s Q E hi st hQ => by
    refine nextOf_tuple_item st.1 st.2 (x := items[i]) (by simp [hi]) fun h' hit' hs' => ?_
    exact hQ _ h' s.toks (by simp [hi]) ⟨hit', st.2.extBut hs'.extBut hne⟩ hs'
  done := fun s Q E st hE => nextOf_tuple_end hh st.1 st.2 (by simp) hE
theorem meets_enumerate_newT (l : Addr) (items : Array Value) (n : Nat) (dct : Option Addr) (sl : Array (Option Value)) :
    Meets (Builtin.«enumerate.__new__» ⟨[.type "enumerate", .ref l], []⟩) (fun _ R s => s.heap.get? l = some { cls := .type "tuple", dict := dct, data := .seq items n, slots := sl } ∧
      R (.ok (.ret (.ref (s.heap.push { cls := .type "tuple_iterator", data := .fields #[.ref l, .int 0 0] }).objs.size)))
        { s with heap := (s.heap.push { cls := .type "tuple_iterator", data := .fields #[.ref l, .int 0 0] }).push { cls := .type "enumerate", data := .fields #[.none, .bool false, .ref s.heap.objs.size, rawInt 0, .none, .none] } }) :=
  .of_wp fun prog w A R s h => by
    obtain ⟨hp, g, d, tk, os⟩ := s; obtain ⟨hl, h⟩ := h
    have hsub := sub_enumerate
    have hL : Heap.IsTuple (Shared.heap ⟨hp, g, d, tk, os⟩) l items := ⟨_, hl, rfl, n, rfl⟩
    wp_walk using wpAny_loadPart' hl
    refine wpAny_stack_any fun st => wpAny_pure ?_
    split
    · rename_i c _ _ _ _ _
      cases (c == Value.type "enumerate")
      · wp_walk using wpAny_loadPart' hl, wpAny_pyIter_tuple hL
        exact ⟨_, rfl, h⟩
      · wp_walk using wpAny_loadPart' hl, wpAny_pyIter_tuple hL
        exact ⟨_, rfl, h⟩
    · wp_walk using wpAny_loadPart' hl, wpAny_pyIter_tuple hL
      exact ⟨_, rfl, h⟩
section
variable {prog : Program} {w : World} {A : Around} {E : Value → Shared → Prop} {s : Shared}
theorem call_enumerate_tuple {l : Addr} {items : Array Value} {Q : Value → Shared → Prop} (hL : s.heap.IsTuple l items)
    (h : ∀ h', IsEnum h' (s.heap.objs.size + 1) s.heap.objs.size 0 .none → h'.IsTupleIter s.heap.objs.size l 0 → h'.objs.size = s.heap.objs.size + 2 →
      (∀ b o, s.heap.get? b = some o → h'.get? b = some o) → Q (.ref (s.heap.objs.size + 1)) { s with heap := h' }) :
    wpAny (model prog w) A (call (.type "enumerate") [.ref l]) Q E s := by
  obtain ⟨⟨c, dct, dt, sl⟩, hl, hc, n, hd⟩ := hL
  replace hc : c = .type "tuple" := hc
  replace hd : dt = .seq items n := hd
  subst hc hd
  refine callType_new F.called_enumerate (by decide) (F.typeCall_enumerate_1 _) (F.newCall_enumerate_1 _) (fun obj => F.args_object_init_2 obj _) F.entry_enumerate_new
    (meets_enumerate_newT l items n dct sl) ⟨hl, ?_⟩
  have hz : (s.heap.push { cls := .type "tuple_iterator", data := .fields #[.ref l, .int 0 0] }).objs.size = s.heap.objs.size + 1 := Heap.size_push ..
  show _ ∧ _
  rw [hz]
  have he : IsEnum ((s.heap.push { cls := .type "tuple_iterator", data := .fields #[.ref l, .int 0 0] }).push
      { cls := .type "enumerate", data := .fields #[.none, .bool false, .ref s.heap.objs.size, rawInt 0, .none, .none] }) (s.heap.objs.size + 1) s.heap.objs.size 0 .none := by
    have := Heap.get?_push_size (s.heap.push { cls := .type "tuple_iterator", data := .fields #[.ref l, .int 0 0] })
      (o := { cls := .type "enumerate", data := .fields #[.none, .bool false, .ref s.heap.objs.size, rawInt 0, .none, .none] }) rfl
    rw [hz] at this; exact this
  refine ⟨⟨_, he, rfl⟩, h _ he ⟨_, Heap.get?_push_of_some _ (Heap.get?_push_size _ rfl), rfl, rfl⟩ (by rw [Heap.size_push, hz]) fun b o x => Heap.get?_push_of_some _ (Heap.get?_push_of_some _ x)⟩
end
/-- the tuple at a, each item in a new pair -/
def Iet (K : PySem.W.Frag) (a : Addr) : It :=
  ⟨fun i H => ∃ (xs : List V) (x : V), SqT K H a xs ∧ xs[i]? = some x, fun i H v H' => ∃ T x, v = .ref T ∧ H T = none ∧ H' = upd H T (.tup [.int (i : Nat), x]) ∧ ∀ xs, SqT K H a xs → xs[i]? = some x, fun i H => ∃ xs : List V, SqT K H a xs ∧ xs.length ≤ i⟩
theorem tup_inj {X : Cx} {pins : List (Addr × Obj)} {σ : L2.St} {H : Hp} {s : Shared} {a : Addr} {xs ys : List V} (I : Inv X pins σ H s) (h : SqT X.K H a xs) (h' : SqT X.K H a ys) : xs = ys := by
  obtain ⟨its, r, p, _⟩ := I.tuple h
  obtain ⟨its', r', p', _⟩ := I.tuple h'
  obtain ⟨o, e, c, n, d⟩ := p
  obtain ⟨o', e', c', n', d'⟩ := p'
  rw [e] at e'; cases e'
  rw [d] at d'
  injection d' with d1 _
  have q : its = its' := by simpa using congrArg Array.toList d1
  subst q
  exact r.inj r'
theorem turn_enumT {P : Program} {w : World} {K : PySem.W.Frag} {elts : List Expr} {kk : Nat} {tpos : Pos} (a e it : Addr) :
    Turn P w K (.Tuple elts kk tpos) (Iet K a) [e, it] e (fun i h => (∃ old, IsEnum h e it ((i : Nat) : Int) old) ∧ h.IsTupleIter it a i ∧ e ≠ it ∧ a ≠ it ∧ a ≠ e) where
  mem := by simp
  obj := fun i h st b hb => by
    obtain ⟨⟨old, he⟩, ⟨o, ho, hc, hd⟩, _⟩ := st
    have e' : b = e ∨ b = it := by simpa using hb
    rcases e' with z | z
    · rw [z]; exact ⟨_, he, fun v q => nomatch q⟩
    · rw [z]; exact ⟨o, ho, fun v q => by rw [hd] at q; cases q⟩
  keep := fun i h h' st k => let ⟨⟨old, he⟩, hi, hne⟩ := st; ⟨⟨old, k e (by simp) _ he⟩, tupIter_at hi fun o q => k it (by simp) o q, hne⟩
  item := by
    intro X hP hw hK hc i pins s σ H E I hf st hg
    subst hP hw hK
    obtain ⟨⟨old, he⟩, hit, hne, hai, hae⟩ := st
    obtain ⟨xs, x, hq, hx⟩ := hg
    obtain ⟨its, rv, p, hz⟩ := I.tuple hq
    obtain ⟨u, hu, ru⟩ := rv.get hx
    have hel : e < s.heap.objs.size := Heap.lt_size he
    have hil : it < s.heap.objs.size := by obtain ⟨_, q, _⟩ := hit; exact Heap.lt_size q
    have hsz' : its.toArray.size = xs.length := by rw [List.size_toArray]; exact rv.length.symm
    refine wpAny_pyNext_enum_itemD (draws_tuple (A := X.A.in1) (I.ok.hd hc) it a hai its.toArray) he ⟨hit, p⟩ (by rw [hsz']; exact (List.getElem?_eq_some_iff.mp hx).1) hne (by simp [hne, Ne.symm hae]) fun y h' tk hy ho st' hT hsz hk => ?_
    have ey : y = u := by
      have e1 : its.toArray[i]? = some u := by simpa using hu
      rw [e1] at hy
      exact (Option.some.inj hy).symm
    subst ey
    refine ⟨_, rfl, wpAny_letOwnedTupleGo_enum (s := { s with heap := h', toks := tk + 1 }) ho fun h'' he' sb => ?_⟩
    have hT2 : h''.get? s.heap.objs.size = some { cls := .type "tuple", data := .seq #[.int i tk, y] } := (sb.2 _ (Nat.ne_of_gt hel)).trans hT
    have new : ObjOk X.prog X.w (upd H s.heap.objs.size (.tup [.int (i : Nat), x])) h'' s.heap.objs.size (.tup [.int (i : Nat), x]) :=
      ⟨by show 2 ≤ sizeLine; decide, [.int i tk, y], .cons ⟨_, rfl⟩ (.cons ru .nil), ⟨_, hT2, rfl, _, rfl⟩⟩
    have I1 : Inv X pins σ (upd H s.heap.objs.size (.tup [.int (i : Nat), x])) { s with heap := h'', toks := tk + 1 } :=
      I.turnedNew (ch := [e, it]) (fun b ob hb q => (sb.2 b (fun z => hb (by simp [z]))).trans (hk b ob (fun z => hb (by simp [z])) (fun z => hb (by simp [z])) q)) hf (Nat.le_refl _) new
    refine ⟨.ref s.heap.objs.size, _, I1, rfl, ⟨_, x, rfl, I.hok.fresh (Nat.le_refl _), rfl, fun ys hy => by rw [tup_inj I hy hq]; exact hx⟩, ⟨⟨y, ?_⟩, tupIter_at st'.1 fun o q => (sb.2 it (Ne.symm hne)).trans q, hne, hai, hae⟩, fun b hb => ?_⟩
    · have e1 : ((i + 1 : Nat) : Int) = (i : Int) + 1 := by omega
      rw [e1]; exact he'
    · have hb' : b < s.heap.objs.size := by
        have e' : b = e ∨ b = it := by simpa using hb
        rcases e' with z | z
        · rw [z]; exact hel
        · rw [z]; exact hil
      rw [upd_ne (Nat.ne_of_lt hb')]
      exact (hf b hb).1
  done := by
    intro X hP hw hK hc i pins s σ H E I hf st hg
    subst hP hw hK
    obtain ⟨⟨old, he⟩, hit, hne, hai, hae⟩ := st
    obtain ⟨xs, hq, hx⟩ := hg
    obtain ⟨its, rv, p, hz⟩ := I.tuple hq
    obtain ⟨f0, f1, f2, f3, f4, f5⟩ := hf it (by simp)
    have hl := rv.length
    have hT : s.TypeIs (.ref e) "enumerate" := ⟨_, he, rfl⟩
    unfold pyNext
    refine wpAny_bind (wpAny_attempt (wpAny_callSpecial?_slot (name := Str.ofString "__next__") hT F.slot_enumerate_next
      (wpAny_call_entry F.slot_enumerate_next hT F.entry_enumerate_next ?_ (F.args_enumerate_next_1 _))))
    show wpAny _ _ (field (.ref e) 2 >>= _) _ _ _
    refine wpAny_bind (wpAny_field he rfl (x := .ref it) rfl ?_)
    refine wpAny_bind (nextOf_tuple_end (A := X.A.in1) (I.ok.hd hc) hit p (by simp; omega) fun h' x he' hx' => ?_)
    obtain ⟨o, ho, hc'⟩ := hx'
    refine wpAny_bind (wpAny_isInstance (T := "StopIteration") (b := true) ⟨o, ho, hc'⟩ isSubtype_stop ?_)
    exact wpAny_pure ⟨rfl, I.turned (t' := s.toks) (fun b o hb q => he' b o hb q) f0 f1 f3 f4 f5⟩
  self := fun A i s Q E st h => let ⟨⟨_, he⟩, _⟩ := st; wpAny_pyIter_enum he h
def iEnumT (K : PySem.W.Frag) (ta : TA) : TI := fun σ H R => ta σ H fun vs H1 => ∃ a xs, vs = [.ref a] ∧ SqT K H1 a xs ∧ R (Iet K a) H1
theorem pi_enumT {X : Cx} {e : Expr} {ta : TA} {p pos tpos : Pos} {elts : List Expr} {kk : Nat} (hg : Gl X "enumerate") (hm : X.mg "enumerate" = none) (ha : PA X [e] ta) (hs : starEach [e] X.env = [(false, eval e X.env)] := by rfl) :
    PI X (.Tuple elts kk tpos) (.Call (.Name "enumerate" p) [e] [] pos) (iEnumT X.K ta) := by
  refine ⟨fun pins s σ H R I h => ?_⟩
  refine Call_ (ld_blt I hg hm boot_enumerate (PyProof.Rows.callWith_type1 (thn (ha.run pos pins s σ H _ I h) fun us s1 ⟨vs, H1, I1, r1, q1⟩ => ?_) hs rfl))
  obtain ⟨a, xs, ex, hq, q⟩ := q1
  subst ex
  cases r1 with
  | cons r rr =>
    cases rr
    cases r
    obtain ⟨its, rv, p', hz⟩ := I1.tuple hq
    have hal : a < s1.heap.objs.size := by obtain ⟨o, e, _⟩ := p'; exact Heap.lt_size e
    refine call_enumerate_tuple p' fun h' he hit hsz hk => wpAny_pyIter_enum he ?_
    have I2 : Inv X pins σ H1 { s1 with heap := h' } := I1.kept (t' := s1.toks) hk
    refine ⟨s1.heap.objs.size + 1, [s1.heap.objs.size + 1, s1.heap.objs.size], _, _, H1, rfl, I2, turn_enumT a (s1.heap.objs.size + 1) s1.heap.objs.size, ⟨⟨.none, he⟩, hit, Nat.succ_ne_self _, Nat.ne_of_lt hal, Nat.ne_of_lt (Nat.lt_succ_of_lt hal)⟩, fun b hb => ?_, q⟩
    have e' : b = s1.heap.objs.size + 1 ∨ b = s1.heap.objs.size := by simpa using hb
    have hle : s1.heap.objs.size ≤ b := by
      rcases e' with z | z
      · rw [z]; exact Nat.le_add_right _ _
      · rw [z]; exact Nat.le_refl _
    exact I1.fpOk hle (I1.hok.fresh hle)
/-- the walk's structure, for loops and comprehensions -/
theorem walk_enumT {K : PySem.W.Frag} {a : Addr} {xs : List V} : Walk (Iet K a) xs.length (fun H => SqT K H a xs) (YPair (fun i => some (.int (i : Nat))) (fun i => xs[i]?)) where
  goes := fun i H hi hG => ⟨xs, xs[i], hG, List.getElem?_eq_getElem hi⟩
  stops := fun H hG => ⟨xs, hG, Nat.le_refl _⟩
  yields := fun i H x H' hi hG hy => by
    obtain ⟨T, y, e, hn, eH, hall⟩ := hy
    exact ⟨T, _, y, e, hn, eH, rfl, hall xs hG⟩
end OwnR
set_option Elab.async false
set_option linter.all false
set_option maxRecDepth 100000
set_option maxHeartbeats 4000000
/-! own classes: two classes with one method, in, len, isinstance; any over a tuple -/
namespace OwnR
open PySem PySem.Spec PyProof.Rows L2
section
variable {prog : Program} {w : World} {A : Around} {E : Value → Shared → Prop} {s : Shared} {K : PySem.W.Frag} {x C f : Addr} {ox : Obj} {od : Option Obj} {v : Value}
theorem in_own {Q : Value → Shared → Prop} (X : K.In s.heap) (I : PySem.W.InstAt s.heap x ox C od) (hs : PySem.W.findIn K (.ref C) "__contains__" = some (some (.ref f))) (hf : PySem.W.isFn K (.ref f) = true)
    (h : wpAny (model prog w) A (call (.ref f) [.ref x, v]) (fun r s' => wpAny (model prog w) A (truthy r) (fun b => Q (.bool b)) E s') E s) : wpAny (model prog w) A (compareOp .In v (.ref x)) Q E s := by
  refine wpAny_bind (m := contains (.ref x) v) ?_
  unfold contains
  refine wpAny_holding (wpAny_bind (wpAny_bind (I.type.here ((PySem.W.looks_findIn X hs).here ?_))))
  rw [if_neg (by simp)]
  refine wpAny_bind (PySem.W.unlessNone_K X I hs hf ?_)
  exact wpAny_mono h (fun _ _ z => wpAny_mono z (fun _ _ z => wpAny_pure z) fun _ _ z => z) fun _ _ z => z
theorem len_own {Q : Value → Shared → Prop} (X : K.In s.heap) (I : PySem.W.InstAt s.heap x ox C od) (hs : PySem.W.findIn K (.ref C) "__len__" = some (some (.ref f))) (hf : PySem.W.isFn K (.ref f) = true)
    (h : wpAny (model prog w) A.in1 (call (.ref f) [.ref x]) (PySem.W.LenBack Q) E s) : wpAny (model prog w) A (call (.builtin "len") [.ref x]) Q E s := by
  refine Calls.call_function_entry kind_len plain_len entry_len (args_len1 _) ?_
  unfold Builtin.«len»
  refine wpAny_bind (m := oneArg "len" _) (wpAny_pure ?_)
  refine wpAny_bind (m := callSpecial? (.ref x) (Str.ofString "__len__")) (PySem.W.special_fn X I hs (beq_iff_eq.mp hf) (wpAny_mono h (fun r s' hr => ?_) fun _ _ y => y))
  cases r <;> first | exact hr.elim | skip
  rename_i n u
  obtain ⟨⟨h0, h1⟩, hq⟩ := hr
  refine wpAny_bind (wpAny_holding (wpAny_pure ?_))
  refine wpAny_bind (wpAny_letGo ?_)
  show wpAny _ _ (if n < 0 then _ else _) _ _ _
  rw [if_neg (by omega)]
  show wpAny _ _ (if n ≥ 2 ^ 63 then _ else _) _ _ _
  rw [if_neg (by omega)]
  exact wpAny_bind (wpAny_mkInt (wpAny_pure ⟨_, rfl, hq⟩))
end
theorem instAt {X : Cx} {pins : List (Addr × Obj)} {σ : L2.St} {H : Hp} {s : Shared} {a C dx : Addr} {fs : List (Str × V)} (I : Inv X pins σ H s) (ea : H a = some (.ins C dx fs)) : ∃ ox od, PySem.W.InstAt s.heap a ox C od := by
  obtain ⟨mA, O, _, _, _, _⟩ := ins_get I.hok ea
  obtain ⟨od, J, _⟩ := O.look
  exact ⟨_, _, J⟩
section
variable {X : Cx} {k : Nat} {p g : Addr} {CP : Addr → Prop} {f m : Str} {fd : FuncData} {ps : List Str} {sp : Sp} {e o b : Expr} {pos apos : Pos} {ta tb : TE}
/-- a value that gives what the wish asks -/
def isBl (Q : VK) : VK := fun v H => ∃ c, v = .bl c ∧ Q (.bl c) H
/-- x in o, o's class has an own __contains__ (which hands back a bool) -/
theorem op_inOwn (hc : ∀ C, CP C → Meth X.K C "__contains__" g) (F : FnOk X.prog X.w X.K X.mg X.base CX0 k g fd ["self", "value"] sp) (hr : Room k X.A) (hb : Binds X.K fd ["self", "value"] []) (hx : Passes CX0 X E0 := by exact pass0) :
    OpR X (compareOp .In) (fun x y H Q => ∃ a C dx fs, y = .ref a ∧ CP C ∧ H a = some (.ins C dx fs) ∧ sp [.ref a, x] H (isBl Q) E0) := by
  intro pins s σ H x y v u Q I rx ry h
  obtain ⟨a, C, dx, fs, rfl, hC, ea, q⟩ := h
  obtain rfl : u = Value.ref a := ry
  obtain ⟨ox, od, J⟩ := instAt I ea
  have h1 : wpAny (model X.prog X.w) X.A (call (.ref g) [.ref a, v]) (EP X pins σ (isBl Q)) X.xe s := run_fn (us := [.ref a, v]) (vs := [.ref a, x]) (dvs := []) (ds := []) F hr hb .nil hx I (.cons rfl (.cons rx .nil)) (by exact q)
  refine in_own I.kIn J (hc C hC).at_ (hc C hC).fn (thn h1 fun r s1 hh => ?_)
  obtain ⟨z, H1, I1, rz, c, ez, q1⟩ := hh
  subst ez
  obtain rfl : r = Value.bool c := rz
  exact wpAny_pure ⟨.bl c, H1, I1, rfl, q1⟩
/-- len(o) by an own __len__ -/
theorem call_lenOwn (hc : ∀ C, CP C → Meth X.K C "__len__" g) (F : FnOk X.prog X.w X.K X.mg X.base CX0 k g fd ["self"] sp) (hr : Room (k + 1) X.A) (hb : Binds X.K fd ["self"] []) (hx : Passes CX0 X.nox E0 := by exact pass0) :
    CallR X (.builtin "len") (fun xs H Q => ∃ a C dx fs, xs = [.ref a] ∧ CP C ∧ H a = some (.ins C dx fs) ∧ sp [.ref a] H (fun v H' => ∃ n : Nat, v = .int n ∧ n < 1000 ∧ Q (.int n) H') E0) := by
  intro pins s σ H xs us Q I r h
  obtain ⟨a, C, dx, fs, rfl, hC, ea, q⟩ := h
  cases r with
  | cons r0 r1 =>
    cases r1
    cases r0
    obtain ⟨ox, od, J⟩ := instAt I ea
    refine len_own I.kIn J (hc C hC).at_ (hc C hC).fn (wpAny_call ?_)
    have hlen := F.len _ _ _ _ q
    refine codeAny_mono (F.run X.A.in1 X.stack s H ⟨[.ref a], []⟩ [.ref a] [.ref a] _ E0 hr.in1 I.env0.in1 (hb s [.ref a] I.kIn rfl) (.cons rfl .nil) q) fun rr s' hq => ?_
    cases rr with
    | error er => exact False.elim (hx pins σ H s er s' (I.wish _) hq)
    | ok fl =>
      cases fl with
      | ret u =>
        obtain ⟨v, H', I3, rv, n, rfl, hn, q3⟩ := I.after hq
        obtain ⟨t, rfl⟩ := rv
        show (0 ≤ ((n : Nat) : Int) ∧ ((n : Nat) : Int) < 2 ^ 63) ∧ _
        exact ⟨⟨by omega, by omega⟩, ⟨.int n, H', I3.tok _, ⟨_, rfl⟩, q3⟩⟩
      | next => exact False.elim hq
      | brk => exact False.elim hq
      | cont => exact False.elim hq
/-- e.f, a property of one of some classes -/
def tPropP (CP : Addr → Prop) (sp : Sp) (ta : TE) : TE := fun σ H Q => ta σ H fun x H1 => ∃ a C dx fs, x = .ref a ∧ CP C ∧ H1 a = some (.ins C dx fs) ∧ sp [.ref a] H1 Q E0
theorem pe_prL (he : PE X e ta) (hp : ∀ C, CP C → Cls X.K C ∧ ∃ p, PropOf X.K C f p g) (F : FnOk X.prog X.w X.K X.mg X.base CX0 k g fd ["self"] sp) (hr : Room (k + 1) X.A) (hb : Binds X.K fd ["self"] [])
    (hab : attributeBase e f X.env (eval e X.env) = eval e X.env) (hx : Passes CX0 X.nox E0 := by exact pass0) : PE X (.Attribute e f pos) (tPropP CP sp ta) := by
  refine ⟨fun pins s σ H Q I h => ?_⟩
  refine attr_of hab (thn (he.run pins s σ H _ I h) fun u s1 ⟨x, H1, I1, rx, a, C, dx, fs, ex, hC, ea, q⟩ => ?_)
  subst ex
  obtain rfl : u = Value.ref a := rx
  obtain ⟨c, p, hpp⟩ := hp C hC
  exact getprop_ok (dvs := []) (ds := []) I1 ea c hpp F hr hb .nil hx q
theorem pe_pr {C : Addr} (he : PE X e ta) (c : Cls X.K C) (hp : ∃ p, PropOf X.K C f p g) (F : FnOk X.prog X.w X.K X.mg X.base CX0 k g fd ["self"] sp) (hr : Room (k + 1) X.A) (hb : Binds X.K fd ["self"] [])
    (hab : attributeBase e f X.env (eval e X.env) = eval e X.env) (hx : Passes CX0 X.nox E0 := by exact pass0) : PE X (.Attribute e f pos) (tProp C sp [] E0 ta) := by
  obtain ⟨p, hpp⟩ := hp
  exact pe_prop he c hpp F hr hb .nil hx hab
/-- o.m(..), a method of one of some classes -/
def tMethP (CP : Addr → Prop) (m : Str) (sp : Sp) (ta : TE) (t : TA) : TE := fun σ H Q => ta σ H fun x H1 => ∃ a C dx fs, x = .ref a ∧ CP C ∧ H1 a = some (.ins C dx fs) ∧ fs.lookup m = none ∧ t σ H1 fun vs H2 => sp (.ref a :: vs) H2 Q E0
theorem pe_mtL {es : List Expr} {t : TA} {pl : Sem Bool} (he : PE X o ta) (hm : ∀ C, CP C → Cls X.K C ∧ Meth X.K C m g) (F : FnOk X.prog X.w X.K X.mg X.base CX0 k g fd ps sp) (hr : Room k X.A) (hb : Binds X.K fd ps []) (ha : PA X (e :: es) t) (hx : Passes CX0 X E0 := by exact pass0)
    (hst : starEach (e :: es) X.env = (false, eval e X.env) :: starEach es X.env := by rfl) (hpl : (backTo pos (starEach es X.env)).any (·.1) = false := by rfl)
    (ht : eval (.Call (.Attribute o m apos) (e :: es) [] pos) X.env = (do
      let ov ← eval o X.env
      standAt apos.atName
      let (f, first) ← holding [ov] (getMethod ov m pl)
      callWith pos f first (backTo pos (starEach (e :: es) X.env)) (backToKw pos (keywordEach [] X.env))) := by rfl) :
    PE X (.Call (.Attribute o m apos) (e :: es) [] pos) (tMethP CP m sp ta t) := by
  refine ⟨fun pins s σ H Q I h => ?_⟩
  refine PySem.W.methodCall_KW (pl := pl) (thn (he.run pins s σ H _ I h) fun u s1 ⟨x, H1, I1, rx, a, C, dx, fs, ex, hC, ea, l, q⟩ => ?_) ht
  subst ex
  obtain rfl : u = Value.ref a := rx
  obtain ⟨c, hmm⟩ := hm C hC
  refine getmeth_ok I1 ea c hmm l ?_
  refine PySem.W.callWith_K (first := [.ref a]) (h₀ := X.base) I.ok.mod.kin hmm.kp (thn (ha.run pos pins s1 σ H1 _ I1 q) fun us s2 ⟨vs, H2, I2, r, q2⟩ => ⟨I2.kIn, ?_⟩) hst hpl
  exact run_fn (us := .ref a :: us) (vs := .ref a :: vs) F hr hb .nil hx I2 (.cons rfl r) (by rw [List.append_nil]; exact q2)
/-- isinstance(o, T), o's class C, the answer True -/
theorem call_isOwn {T : Addr} (hc : ∀ C, CP C → Own.InsT X.K C T) : CallR X (.builtin "isinstance") (fun xs H Q => ∃ a C dx fs, xs = [.ref a, .ref T] ∧ CP C ∧ H a = some (.ins C dx fs) ∧ Q (.bl true) H) := by
  intro pins s σ H xs us Q I r h
  obtain ⟨a, C, dx, fs, rfl, hC, ha, q⟩ := h
  have c := hc C hC
  obtain ⟨u, w', rfl, ru, rw'⟩ := vals2 r
  cases rw'
  exact isinst_ok I ru (TyOf.ins ha c.cl c.ha c.hn c.htk c.hm) c.me fun tk => ⟨.bl true, H, I.tok _, rfl, q⟩
end
/-! ### any over a tuple -/
theorem iter_anyT {prog : Program} {w : World} {A : Around} {E : Value → Shared → Prop} {s : Shared} {l : Addr} {items : Array Value} {Q : Value → Shared → Prop} (hl : s.heap.IsTuple l items)
    (h : ∀ s₂ : Shared, s₂ = { s with heap := s.heap.push { cls := .type "tuple_iterator", data := .fields #[.ref l, .int 0 0] } } → s₂.heap.IsTupleIter s.heap.objs.size l 0 ∧ s₂.heap.IsTuple l items → l ≠ s.heap.objs.size → Q (.ref s.heap.objs.size) s₂) : wpAny (model prog w) A (pyIter (.ref l)) Q E s := by
  obtain ⟨o, ho, hc, n, hd⟩ := id hl
  have ne : l ≠ s.heap.objs.size := Nat.ne_of_lt (Heap.lt_size ho)
  exact wpAny_pyIter_tuple hl (h _ rfl ⟨⟨_, Heap.get?_push_size _ rfl, rfl, rfl⟩, ⟨o, Heap.get?_push_of_some _ ho, hc, n, hd⟩⟩ ne)
def rAnyT (K : PySem.W.Frag) : List V → Hp → VK → Prop := fun vs H Q => ∃ (a : Addr) (bs : List Bool), vs = [V.ref a] ∧ SqT K H a (bs.map V.bl) ∧ Q (.bl (bs.any id)) H
theorem cr_anyT {X : Cx} (hc : X.calm = true) : CallR X (.builtin "any") (rAnyT X.K) := by
  intro pins s σ H vs us Q I r h
  obtain ⟨a, bs, rfl, hs, q⟩ := h
  obtain ⟨its, rv, hl, _⟩ := I.tuple hs
  rw [Vals.ref1 r]
  have hb := rv.bls
  refine call_any_walk (iter_anyT (show s.heap.IsTuple a its.toArray from hl) fun s₂ e2 st hne => ?_)
  subst e2
  refine ⟨_, _, _, _, _, _, _, rfl, Walks.tuple (A := X.A.in1) (I.ok.hd hc) _ a hne its.toArray, st, truth_bools hb, fun h' tk hk => ?_⟩
  refine ⟨.bl _, H, I.kept fun b o eo => hk b o (fun hmem => ?_) (Heap.get?_push_of_some _ eo), ?_, q⟩
  · rcases List.mem_cons.mp hmem with e1 | hmem
    · exact absurd (e1 ▸ Heap.lt_size eo) (Nat.lt_irrefl _)
    · cases hmem
  · show Value.bool _ = Value.bool _
    rw [← L2.any_range, hb, List.size_toArray, List.length_map]
/-! ### constants of the module -/
theorem pe_gi {X : Cx} {x : Str} {i : Int} {pos : Pos} (h : ∃ t, X.mg x = some (.int i t)) (hg : Gl X x := by rfl) (hd : (x == ("__debug__" : Str)) = false := by decide) : PE X (.Name x pos) (tC (.int i)) := by
  obtain ⟨t, e⟩ := h
  exact pe_glob hg e ⟨t, rfl⟩ hd
theorem pe_gs {X : Cx} {x z : Str} {pos : Pos} (h : ∃ t, X.mg x = some (.str z t)) (hg : Gl X x := by rfl) (hd : (x == ("__debug__" : Str)) = false := by decide) : PE X (.Name x pos) (tC (.str z)) := by
  obtain ⟨t, e⟩ := h
  exact pe_glob hg e ⟨t, rfl⟩ hd
end OwnR
set_option Elab.async false
set_option linter.all false
set_option maxRecDepth 100000
set_option maxHeartbeats 4000000
/-! lag sets, in plain Lean: a set is told by a start, a period and its first members -/
namespace Own
/-- f from s on comes again with p -/
def Per (f : Nat → Bool) (s p : Nat) : Prop := ∀ k, s ≤ k → f (k + p) = f k
theorem Per.mul {f : Nat → Bool} {s p : Nat} (h : Per f s p) : ∀ n, Per f s (n * p)
  | 0 => fun k _ => by rw [Nat.zero_mul, Nat.add_zero]
  | n + 1 => fun k hk => by
    rw [Nat.add_mul, Nat.one_mul, ← Nat.add_assoc, h _ (by omega), Per.mul h n k hk]
theorem Per.dvd {f : Nat → Bool} {s p q : Nat} (h : Per f s p) (d : p ∣ q) : Per f s q := by
  obtain ⟨n, rfl⟩ := d
  rw [Nat.mul_comm]
  exact h.mul n
theorem Per.later {f : Nat → Bool} {s t p : Nat} (h : Per f s p) (l : s ≤ t) : Per f t p := fun k hk => h k (by omega)
/-- a period from a later place on is one from s on, where another one is from s on -/
theorem Per.back {f : Nat → Bool} {s t p q : Nat} (h : Per f s p) (hp : 0 < p) (g : Per f t q) : Per f s q := fun k hk => by
  have e1 := h.mul t (k + q) (by omega)
  have e2 := h.mul t k hk
  have le : t ≤ k + t * p := by
    have : t * 1 ≤ t * p := Nat.mul_le_mul_left t hp
    omega
  have e3 := g (k + t * p) le
  rw [show k + t * p + q = k + q + t * p by omega] at e3
  rw [← e1, e3, e2]
theorem Per.sub {f : Nat → Bool} {s p q : Nat} (h : Per f s p) (g : Per f s q) (l : q ≤ p) : Per f s (p - q) := fun k hk => by
  have e := g (k + (p - q)) (by omega)
  rw [show k + (p - q) + q = k + p by omega, h k hk] at e
  exact e.symm
theorem Per.gcd {f : Nat → Bool} {s : Nat} : ∀ {p q : Nat}, Per f s p → Per f s q → Per f s (Nat.gcd p q) := by
  intro p
  induction p using Nat.strongRecOn with
  | _ p ih =>
    intro q h g
    by_cases h0 : p = 0
    · subst h0
      rw [Nat.gcd_zero_left]
      exact g
    · rw [Nat.gcd_rec]
      have lt : q % p < p := Nat.mod_lt _ (Nat.pos_of_ne_zero h0)
      refine ih (q % p) lt ?_ h
      have e : q % p = q - (q / p) * p := by
        have := Nat.div_add_mod q p
        rw [Nat.mul_comm] at this
        omega
      rw [e]
      exact g.sub (h.mul _) (Nat.div_mul_le_self _ _)
/-- the list tells f below s + p, and f comes again from s on with p -/
structure Rep (f : Nat → Bool) (s p : Nat) (fl : List Bool) : Prop where
  len : fl.length = s + p
  pos : 0 < p
  at_ : ∀ k, k < s + p → fl[k]? = some (f k)
  per : Per f s p
def mem (s p : Nat) (fl : List Bool) (k : Nat) : Bool := if k < s + p then fl.getD k false else fl.getD (s + (k - s) % p) false
theorem Per.mod {f : Nat → Bool} {s p : Nat} (h : Per f s p) (k : Nat) (hk : s ≤ k) : f (s + (k - s) % p) = f k := by
  have e := h.mul ((k - s) / p) (s + (k - s) % p) (by omega)
  rw [← e]
  congr 1
  have := Nat.div_add_mod (k - s) p
  rw [Nat.mul_comm] at this
  omega
theorem Rep.get {f : Nat → Bool} {s p : Nat} {fl : List Bool} (r : Rep f s p fl) {k : Nat} (h : k < s + p) : fl.getD k false = f k := by
  rw [List.getD_eq_getElem?_getD, r.at_ k h]
  rfl
theorem Rep.mem {f : Nat → Bool} {s p : Nat} {fl : List Bool} (r : Rep f s p fl) (k : Nat) : Own.mem s p fl k = f k := by
  unfold Own.mem
  by_cases h : k < s + p
  · rw [if_pos h, r.get h]
  · rw [if_neg h, r.get (by have := Nat.mod_lt (k - s) r.pos; omega)]
    exact r.per.mod k (by omega)
/-- the set of a list -/
theorem rep_mem {s p : Nat} {fl : List Bool} (h : fl.length = s + p) (hp : 0 < p) : Rep (Own.mem s p fl) s p fl where
  len := h
  pos := hp
  at_ := fun k hk => by
    unfold Own.mem
    rw [if_pos hk, List.getD_eq_getElem?_getD, List.getElem?_eq_getElem (by omega)]
    rfl
  per := fun k hk => by
    unfold Own.mem
    rw [if_neg (by omega)]
    have e : (k + p - s) % p = (k - s) % p := by
      rw [show k + p - s = (k - s) + p by omega, Nat.add_mod_right]
    rw [e]
    by_cases c : k < s + p
    · rw [if_pos c, Nat.mod_eq_of_lt (by omega)]
      congr 1
      omega
    · rw [if_neg c]
/-- a lesser period -/
theorem Rep.lesser {f : Nat → Bool} {s p q : Nat} {fl : List Bool} (r : Rep f s p fl) (hq : 0 < q) (l : q ≤ p) (g : Per f s q) : Rep f s q (fl.take (s + q)) where
  len := by rw [List.length_take, r.len]; omega
  pos := hq
  at_ := fun k hk => by rw [List.getElem?_take_of_lt hk]; exact r.at_ k (by omega)
  per := g
/-- a lesser start -/
theorem Per.down {f : Nat → Bool} {s p : Nat} (h : Per f (s + 1) p) (e : f s = f (s + p)) : Per f s p := fun k hk => by
  rcases Nat.lt_or_eq_of_le hk with l | l
  · exact h k l
  · subst l
    exact e.symm
/-- what a test of one size tells -/
theorem per_of_test {f : Nat → Bool} {s p q : Nat} (h : Per f s p) (hp : 0 < p) (t : ∀ k, k < p → f (s + (k + q) % p) = f (s + k)) : Per f s q := fun k hk => by
  have e1 := h.mod k hk
  have e2 := h.mod (k + q) (by omega)
  have e3 := t ((k - s) % p) (Nat.mod_lt _ hp)
  rw [← e2, ← e1, ← e3]
  congr 2
  rw [show k + q - s = (k - s) + q by omega, Nat.mod_add_mod]
theorem test_of_per {f : Nat → Bool} {s p q : Nat} (h : Per f s p) (g : Per f s q) (k : Nat) : f (s + (k + q) % p) = f (s + k) := by
  have e := h.mod (s + (k + q)) (by omega)
  rw [show s + (k + q) - s = k + q by omega] at e
  rw [e, ← Nat.add_assoc]
  exact g (s + k) (by omega)
/-- the least size that divides p divides each period -/
theorem least_dvd {f : Nat → Bool} {s p q m : Nat} (hp : 0 < p) (hq : Per f s q) (hd : q ∣ p) (hq0 : 0 < q) (least : ∀ r, 0 < r → r ∣ p → Per f s r → q ≤ r) (g : Per f s m) : q ∣ m := by
  have h1 : Per f s (Nat.gcd q m) := hq.gcd g
  have h2 : Nat.gcd q m ∣ p := Nat.dvd_trans (Nat.gcd_dvd_left _ _) hd
  have h3 := least _ (Nat.gcd_pos_of_pos_left _ hq0) h2 h1
  have h4 : Nat.gcd q m = q := Nat.le_antisymm (Nat.le_of_dvd hq0 (Nat.gcd_dvd_left _ _)) h3
  rw [← h4]
  exact Nat.gcd_dvd_right _ _
end Own
set_option Elab.async false
set_option linter.all false
set_option maxRecDepth 100000
set_option maxHeartbeats 4000000
/-! heaps that grow; comprehensions, whatever is walked -/
namespace OwnR
open PySem PySem.Spec PyProof.Rows L2
theorem sNew {H : Hp} {p : Addr} {o : HO} (h : H p = none) : Same H (upd H p o) := fun b u e => by rw [upd_ne (ne_of_none e h)]; exact e
theorem sMut {H H' : Hp} {p : Addr} {o : HO} (s : Same H H') (h : H p = none) : Same H (upd H' p o) := fun b u e => by rw [upd_ne (ne_of_none e h)]; exact s b u e
theorem Same.seqT {K : PySem.W.Frag} {H H' : Hp} {a : Addr} {xs : List V} (e : Same H H') (h : SqT K H a xs) : SqT K H' a xs := by
  rcases h with (h | ⟨o, h⟩) | h
  · exact .inl (.inl (e _ _ h))
  · exact .inl (.inr ⟨o, e _ _ h⟩)
  · exact .inr h
/-- what is no list (nor dict, set, instance that may change: only lists are told apart here) stays -/
def isL : HO → Bool
  | .lst _ => true
  | _ => false
def SameI (H H' : Hp) : Prop := ∀ a o, H a = some o → isL o = false → H' a = some o
theorem sameI {H H' : Hp} (s : Same H H') : SameI H H' := fun a o e _ => s a o e
theorem SameI.trans {H H1 H2 : Hp} (a : SameI H H1) (b : SameI H1 H2) : SameI H H2 := fun c o h z => b c o (a c o h z) z
theorem SameI.lst {H : Hp} {D : Addr} {xs ys : List V} (h : H D = some (.lst xs)) : SameI H (upd H D (.lst ys)) := fun a o e z => by
  by_cases q : a = D
  · subst q
    rw [h] at e
    cases e
    cases z
  · rw [upd_ne q]
    exact e
theorem SameI.seqT {K : PySem.W.Frag} {H H' : Hp} {a : Addr} {xs : List V} (e : SameI H H') (h : SqT K H a xs) : SqT K H' a xs := by
  rcases h with (h | ⟨o, h⟩) | h
  · exact .inl (.inl (e _ _ h rfl))
  · exact .inl (.inr ⟨o, e _ _ h rfl⟩)
  · exact .inr h
theorem len_filter {α : Type} (p : α → Bool) (l : List α) : (l.filter p).length ≤ l.length := List.length_filter_le ..
theorem range_keep (keep : Nat → Bool) (i : Nat) : (List.range (i + 1)).filter keep = (List.range i).filter keep ++ (if keep i then [i] else []) := by
  rw [List.range_succ, List.filter_append]
  congr 1
  cases h : keep i <;> simp [h]
theorem Paired.snoc {α β : Type} {F : α → β → Prop} : ∀ {l : List α} {m : List β} {a : α} {b : β}, Paired F l m → F a b → Paired F (l ++ [a]) (m ++ [b])
  | _, _, _, _, .nil, h => .cons h .nil
  | _, _, _, _, .cons r t, h => .cons r (Paired.snoc t h)
section
variable {J : It} {n : Nat} {G : Hp → Prop} {Y : Nat → Hp → V → Hp → Prop}
/-- a comprehension: the kept turns' values, by what is told of each (P), in a new list at D -/
theorem lc_gen (w : Walk J n G Y) {g : TG} {tt : TT} {te : TE} {vs : List Nat} {σ : L2.St} {H1 : Hp} {D : Addr} {Qd : Hp → Prop} (hD : H1 D = none) (P : Nat → V → Hp → Prop) (keep : Nat → Bool) (hn : n ≤ 1000000)
    (mono : ∀ i v H H', P i v H → SameI H H' → P i v H') (hG : ∀ H, Same H1 H → G H)
    (hs : ∀ i x H H' (Nk : VK) (Ns : Hp → Prop), i < n → Same H1 H → Y i H x H' → (keep i = true → ∀ v H4, Same H H4 → P i v H4 → Nk v H4) → (keep i = false → ∀ H4, Same H H4 → Ns H4) →
      g x (wipe σ vs) H' fun σ2 H2 => wipe σ2 vs = wipe σ vs ∧ tt σ2 H2 fun b H3 => if b = true then te σ2 H3 Nk else Ns H3)
    (hd : ∀ H us, Same H1 H → H D = some (.lst us) → Paired (fun i v => P i v H) ((List.range n).filter keep) us → Qd H) :
    ∃ W : Nat → Nat → Hp → Prop, (∃ m, W 0 m (upd H1 D (.lst []))) ∧ ∀ i m H, W i m H →
      (J.stop i H ∧ Qd H) ∨ (J.go i H ∧ ∃ Nx : Hp → Prop, (∀ H', Nx H' → ∃ m', m' < m ∧ W (i + 1) m' H') ∧ ∀ x H', J.yld i H x H' → g x (wipe σ vs) H' fun σ2 H2 => wipe σ2 vs = wipe σ vs ∧ tt σ2 H2 fun b H3 =>
        if b = true then te σ2 H3 fun y H4 => ∃ acc, H4 D = some (.lst acc) ∧ acc.length < sizeLine ∧ Nx (upd H4 D (.lst (acc ++ [y]))) else Nx H3) := by
  refine lc_it w (fun i H => i ≤ n ∧ Same H1 H ∧ ∃ acc, H D = some (.lst acc) ∧ Paired (fun i v => P i v H) ((List.range i).filter keep) acc) ⟨Nat.zero_le _, sNew hD, [], upd_same, .nil⟩ (fun i H _ h => hG H h.2.1) ?_ (fun H h => ?_)
  · rintro i x H H' hi ⟨_, hS, acc, hA, hP⟩ hY
    have hl : acc.length < sizeLine := by
      have e := Paired.length hP
      have e2 := len_filter keep (List.range i)
      rw [List.length_range] at e2
      have e3 : sizeLine = 16777216 := sizeLine_eq
      omega
    refine hs i x H H' _ _ hi hS hY (fun hk v H4 s4 hv => ?_) (fun hk H4 s4 => ?_)
    · refine ⟨acc, s4 _ _ hA, hl, by omega, sMut (hS.trans s4) hD, _, upd_same, ?_⟩
      have si : SameI H4 (upd H4 D (.lst (acc ++ [v]))) := SameI.lst (s4 _ _ hA)
      rw [range_keep, if_pos hk]
      exact Paired.snoc (Paired.mapP hP fun j u z => mono j u _ _ (mono j u _ _ z (sameI s4)) si) (mono i v _ _ hv si)
    · refine ⟨by omega, hS.trans s4, acc, s4 _ _ hA, ?_⟩
      rw [range_keep, if_neg (by rw [hk]; exact Bool.false_ne_true), List.append_nil]
      exact Paired.mapP hP fun j u z => mono j u _ _ z (sameI s4)
  · obtain ⟨_, hS, acc, hA, hP⟩ := h
    exact hd H acc hS hA hP
theorem paired_map {α β : Type} {f : α → β} : ∀ {l : List α} {m : List β}, Paired (fun a b => b = f a) l m → m = l.map f
  | _, _, .nil => rfl
  | _, _, .cons r t => by rw [List.map_cons, r, paired_map t]
/-- a comprehension of plain values -/
theorem lc_map (w : Walk J n G Y) {g : TG} {tt : TT} {te : TE} {vs : List Nat} {σ : L2.St} {H1 : Hp} {D : Addr} {Qd : Hp → Prop} (hD : H1 D = none) (f : Nat → V) (keep : Nat → Bool) (hn : n ≤ 1000000) (hG : ∀ H, Same H1 H → G H)
    (hs : ∀ i x H H' (Nk : VK) (Ns : Hp → Prop), i < n → Same H1 H → Y i H x H' → (keep i = true → ∀ H4, Same H H4 → Nk (f i) H4) → (keep i = false → ∀ H4, Same H H4 → Ns H4) →
      g x (wipe σ vs) H' fun σ2 H2 => wipe σ2 vs = wipe σ vs ∧ tt σ2 H2 fun b H3 => if b = true then te σ2 H3 Nk else Ns H3)
    (hd : ∀ H, Same H1 H → H D = some (.lst (((List.range n).filter keep).map f)) → Qd H) :
    ∃ W : Nat → Nat → Hp → Prop, (∃ m, W 0 m (upd H1 D (.lst []))) ∧ ∀ i m H, W i m H →
      (J.stop i H ∧ Qd H) ∨ (J.go i H ∧ ∃ Nx : Hp → Prop, (∀ H', Nx H' → ∃ m', m' < m ∧ W (i + 1) m' H') ∧ ∀ x H', J.yld i H x H' → g x (wipe σ vs) H' fun σ2 H2 => wipe σ2 vs = wipe σ vs ∧ tt σ2 H2 fun b H3 =>
        if b = true then te σ2 H3 fun y H4 => ∃ acc, H4 D = some (.lst acc) ∧ acc.length < sizeLine ∧ Nx (upd H4 D (.lst (acc ++ [y]))) else Nx H3) :=
  lc_gen w hD (fun i v _ => v = f i) keep hn (fun _ _ _ _ h _ => h) hG (fun i x H H' Nk Ns hi hS hY k1 k2 => hs i x H H' Nk Ns hi hS hY (fun hk H4 s4 => k1 hk _ H4 s4 rfl) k2) fun H us hS hA hP => hd H hS (by rw [hA, paired_map hP])
end
theorem filter_true {n : Nat} : (List.range n).filter (fun _ => true) = List.range n := List.filter_eq_self.mpr fun _ _ => rfl
theorem ite_t {A B : Prop} {b : Bool} (e : b = true) (h : A) : if b = true then A else B := by rw [if_pos e]; exact h
theorem ite_f {A B : Prop} {b : Bool} (e : b = false) (h : B) : if b = true then A else B := by rw [if_neg (by rw [e]; exact Bool.false_ne_true)]; exact h
end OwnR
set_option Elab.async false
set_option linter.all false
set_option maxRecDepth 100000
set_option maxHeartbeats 4000000
/-! rules whose reading names K itself (for blocks) -/
namespace OwnR
open PySem PySem.Spec PyProof.Rows L2
section
variable (K : PySem.W.Frag) {X : Cx}
theorem ixL (h : X.K = K := by rfl) : IxR X (rIxL K) := h ▸ ix_list
theorem ixT (h : X.K = K := by rfl) : IxR X (rIxT K) := h ▸ ix_tup
theorem slL (h : X.K = K := by rfl) : SlR X (rSlL K) := h ▸ sl_list
theorem slT (h : X.K = K := by rfl) : SlR X (rSlA K) := h ▸ sl_tupA
theorem pe_fldK {e : Expr} {f : Str} {pos : Pos} {ta : TE} (he : PE X e ta) (h : X.K = K := by rfl) (hb : attributeBase e f X.env (eval e X.env) = eval e X.env := by rfl) : PE X (.Attribute e f pos) (tFld K ta f) := h ▸ pe_fld he hb
theorem opInK (h : X.K = K := by rfl) : OpR X (compareOp .In) (rIn K false) := h ▸ op_in_seq
theorem opNotInK (h : X.K = K := by rfl) : OpR X (compareOp .NotIn) (rIn K true) := h ▸ op_notIn_seq
def rLenK : List V → Hp → VK → Prop := fun xs H Q => ∃ p ys, xs = [.ref p] ∧ (SqL K H p ys ∨ SqT K H p ys) ∧ Q (.int ys.length) H
theorem lenK (h : X.K = K := by rfl) : CallR X (.builtin "len") (rLenK K) := h ▸ call_len_seq
def rTupK : List V → Hp → VK → Prop := fun xs H Q => ∃ p ys, xs = [.ref p] ∧ ((SqL K H p ys ∧ ∀ l, H l = none → Q (.ref l) (upd H l (.tup ys))) ∨ (SqT K H p ys ∧ Q (.ref p) H))
theorem tupK (h : X.K = K := by rfl) : CallR X (.type "tuple") (rTupK K) := h ▸ call_tuple_of
def rLstK : List V → Hp → VK → Prop := fun xs H Q => ∃ p ys, xs = [.ref p] ∧ (SqL K H p ys ∨ SqT K H p ys) ∧ ∀ l, H l = none → Q (.ref l) (upd H l (.lst ys))
theorem lstK (h : X.K = K := by rfl) : CallR X (.type "list") (rLstK K) := h ▸ call_list_of
theorem anyK (hc : X.calm = true := by rfl) (h : X.K = K := by rfl) : CallR X (.builtin "any") (rAny K) := h ▸ cr_any hc
theorem anyTK (hc : X.calm = true := by rfl) (h : X.K = K := by rfl) : CallR X (.builtin "any") (rAnyT K) := h ▸ cr_anyT hc
theorem allK (hc : X.calm = true := by rfl) (h : X.K = K := by rfl) : CallR X (.builtin "all") (rAll K) := h ▸ cr_all hc
theorem sumK (hc : X.calm = true := by rfl) (h : X.K = K := by rfl) : CallR X (.builtin "sum") (rSum K) := h ▸ cr_sum hc
theorem maxK (hc : X.calm = true := by rfl) (h : X.K = K := by rfl) : CallR X (.builtin "max") (rMax K) := h ▸ cr_max hc
theorem eqDK (hu : X.A.units + 64 < cLine) (h : X.K = K := by rfl) : OpR X (compareOp .Eq) (rEqD K) := h ▸ op_eqD hu
theorem neDK (hu : X.A.units + 64 < cLine) (h : X.K = K := by rfl) : OpR X (compareOp .NotEq) (rNeD K) := h ▸ op_neD hu
theorem pt_truthK {a : Expr} {ta : TE} (ha : PE X a ta) (he : ∀ whole, isTrue a X.env whole = (do let v ← whole; standAt a.pos; holding [v] (truthy v)) := by intro _; rfl) (h : X.K = K := by rfl) : PT X a (fun σ H Q => ta σ H fun x H' => ∃ k, TruV K x H' k ∧ Q k H') := h ▸ pt_truth ha he
end
/-- a while by a word and a measure of the state; in the body's branch: wnext -/
theorem while_q {c : TT} {tb : TS} {D : Ends} {σ : L2.St} {H : Hp} (Pv : L2.St → Hp → Prop) (μ : L2.St → Hp → Nat) (h0 : Pv σ H)
    (hs : ∀ σ H, Pv σ H → c σ H fun b H1 => if b = true then ∃ N : L2.St → Hp → Prop, (∀ σ' H', N σ' H' → ∃ m', m' < μ σ H ∧ (m' = μ σ' H' ∧ Pv σ' H')) ∧ tb { D with nx := N, ct := N, bk := D.nx } σ H1 else D.nx σ H1) : tWhile c tb D σ H :=
  ⟨fun m σ H => m = μ σ H ∧ Pv σ H, ⟨_, rfl, h0⟩, fun m σ H ⟨e, p⟩ => by subst e; exact hs σ H p⟩
theorem wnext {tb : TS} {D : Ends} {σ : L2.St} {H1 : Hp} {Pv : L2.St → Hp → Prop} {μ : L2.St → Hp → Nat} {m : Nat} (h : tb { D with nx := fun σ' H' => Pv σ' H' ∧ μ σ' H' < m, ct := fun σ' H' => Pv σ' H' ∧ μ σ' H' < m, bk := D.nx } σ H1) :
    ∃ N : L2.St → Hp → Prop, (∀ σ' H', N σ' H' → ∃ m', m' < m ∧ (m' = μ σ' H' ∧ Pv σ' H')) ∧ tb { D with nx := N, ct := N, bk := D.nx } σ H1 :=
  ⟨_, fun _ _ h => ⟨_, h.2, rfl, h.1⟩, h⟩
theorem tyes_if {σ : L2.St} {H : Hp} {A B : Hp → Prop} (h : A H) : tYes σ H (fun b H3 => if b = true then A H3 else B H3) := by
  show (if true = true then A H else B H)
  rw [if_pos rfl]
  exact h
end OwnR
set_option Elab.async false
set_option linter.all false
set_option maxRecDepth 100000
set_option maxHeartbeats 4000000
/-! lag sets: the defs of the module, walked -/
namespace Own
open PySem PySem.Spec PyProof.Rows L2 He OwnR
theorem PI_or {X : Cx} {tg e : Expr} {w1 w2 : TI} (h1 : PI X tg e w1) (h2 : PI X tg e w2) : PI X tg e (fun σ H R => w1 σ H R ∨ w2 σ H R) :=
  ⟨fun pins s σ H R I h => h.elim (fun q => h1.run pins s σ H R I q) (fun q => h2.run pins s σ H R I q)⟩
/-- a def by its body's term and reading (nothing is raised) -/
theorem okD {P : Program} {w : World} {K : PySem.W.Frag} {mg : Str → Option Value} {base : Heap} {x qual : Str} {params : Arguments} {body : List Stmt} {scope : Scope} {dvs : List V} {kws : List (Str × V)} {f : Addr} {fd : FuncData} {N ps : List Str} {k : Nat} {sp : Sp} (F : FunD K x qual params body scope dvs kws f fd) (S : FnScope N ps scope)
    (hbody : ∀ (cdv : Value) (A : Around) (outer : List PySem.Env) (s : Shared) (H : Hp) (vs : List V) (Q : VK) (E : XK), Room k (A.deeper (envOfC qual scope s.heap.objs.size f cdv)) → sp vs H Q E →
      ∃ t, PSs (cxOf CX0 P w K mg base N qual scope f cdv A outer s H E).nox body t ∧ t { nx := fun _ H' => Q .non H', rt := Q } (start N vs) H) (len : ∀ vs H Q E, sp vs H Q E → vs.length = ps.length) : FnOk P w K mg base CX0 (k + 1) f fd ps sp := by
  refine FunD.ok F S len fun cdv A outer s H vs Q E hr hsp => ?_
  obtain ⟨t, h, q⟩ := hbody cdv A outer s H vs Q E hr hsp
  exact ⟨t, h.nox, q⟩
theorem atN {xs : List V} {n : Nat} {v : V} {i : Int} (e : i = (n : Int)) (h : xs[n]? = some v) : atI xs i = some v := at_of e h
theorem dpall_bl {K : PySem.W.Frag} {H : Hp} : ∀ bs : List Bool, DpAll K H (bs.map V.bl) (bs.map PyData.bool)
  | [] => .nil
  | b :: bs => .cons (.bl b) (dpall_bl bs)
theorem eqv_bool (a b : Bool) : PyData.eqv (.bool a) (.bool b) = (a == b) := by cases a <;> cases b <;> rfl
theorem eqv_bls : ∀ as bs : List Bool, PyData.eqv (.list (as.map PyData.bool)) (.list (bs.map PyData.bool)) = (as == bs) := by
  intro as bs
  have go : ∀ as bs : List Bool, PyData.eqvAll (as.map PyData.bool) (bs.map PyData.bool) = (as == bs) := by
    intro as
    induction as with
    | nil => intro bs; cases bs <;> rfl
    | cons a as ih =>
      intro bs
      cases bs with
      | nil => rfl
      | cons b bs =>
        show (PyData.eqv (.bool a) (.bool b) && PyData.eqvAll (as.map PyData.bool) (bs.map PyData.bool)) = _
        rw [eqv_bool, ih]
        rfl
  exact go as bs
theorem lay_bls : ∀ bs : List Bool, PyData.canLayAll0 (bs.map PyData.bool) = true
  | [] => by simp [PyData.canLayAll0]
  | b :: bs => by simp [PyData.canLayAll0, PyData.canLay0, lay_bls bs]
theorem depth_bls : ∀ bs : List Bool, PyData.depthAll (bs.map PyData.bool) = 0
  | [] => by simp [PyData.depthAll]
  | b :: bs => by simp [PyData.depthAll, PyData.depth, depth_bls bs]
theorem shaped_bls (bs : List Bool) : SeqAt.shaped (.list (bs.map PyData.bool)) = true := by
  simp [SeqAt.shaped, PyData.canLay0, PyData.depth, lay_bls, depth_bls]
section
variable {P : Program} {w : World} {K : PySem.W.Frag} {mg : Str → Option Value} {base : Heap}
theorem sc_common_multiple : FnScope ["one", "other", "greater", "lesser"] ["one", "other"] (defScope s_common_multiple) := ⟨rfl, rfl, rfl, by decide +kernel, rfl, by decide +kernel, by decide +kernel⟩
theorem b_common_multiple (E : Env K mg base) : Binds K (fdAt K (ga K "common_multiple")) ["one", "other"] [] := (f_common_multiple E).bindsN fun _ _ _ _ _ _ us hl => match us, hl with | [_, _], _ => rfl
def sp_cm : Sp := fun vs H Q _ => ∃ a b : Nat, vs = [.int a, .int b] ∧ 0 < a ∧ 0 < b ∧ a ≤ 1000000 ∧ b ≤ 1000000 ∧ Q (.int (Nat.lcm a b : Nat)) H
theorem ok_common_multiple (E : Env K mg base) : FnOk P w K mg base CX0 1 (ga K "common_multiple") (fdAt K (ga K "common_multiple")) ["one", "other"] (sp_cm) := by
  refine okD (f_common_multiple E) sc_common_multiple (fun cdv A outer s H vs Q X hr h => ?_) (fun vs H Q X h => by obtain ⟨_, _, rfl, _⟩ := h; rfl)
  obtain ⟨a, b, rfl, ha, hb, la, lb, q⟩ := h
  refine ⟨_, (pss_cons (ps_par (i := 2) (j := 3) rfl sc_common_multiple.nd rfl rfl (by decide) rfl rfl (pa_cons (pv 0) (pa_cons (pv 1) pa_nil)) (by rfl))
      (pss_cons (ps_while PassesOwn.never (pt_cmpR op_gt (pv 3) pe_int (nomark _)) (pss_one (ps_par (i := 2) (j := 3) rfl sc_common_multiple.nd rfl rfl (by decide) rfl rfl (pa_cons (pv 3) (pa_cons (pe_op op_mod (pv 2) (pv 3)) pa_nil)) (by rfl))))
      (pss_one (ps_ret (pe_op op_mul (pe_op op_fdivN (pv 0) (pv 2)) (pv 1)))))), ?_⟩
  refine ⟨_, rfl, _, rfl, _, _, rfl, while_q (fun σ H' => H' = H ∧ ∃ g l : Nat, σ = [some (.int a), some (.int b), some (.int g), some (.int l)] ∧ 0 < g ∧ Nat.gcd g l = Nat.gcd a b) (fun σ _ => match σ with | [_, _, _, some (.int l)] => l.toNat | _ => 0) ⟨rfl, a, b, rfl, ha, rfl⟩ ?_⟩
  · rintro σ H' ⟨rfl, g, l, rfl, hg, e⟩
    refine ⟨_, rfl, _, _, rfl, rfl, _, rfl, ?_⟩
    by_cases c : 0 < l
    · refine ite_t (decide_eq_true (by omega)) ?_
      refine wnext ⟨_, rfl, _, rfl, _, rfl, _, _, rfl, rfl, by omega, _, _, rfl, ⟨rfl, l, g % l, rfl, c, ?_⟩, ?_⟩
      · rw [← e, Nat.gcd_comm g l, Nat.gcd_rec l g, Nat.gcd_comm]
      · show ((g : Int) % (l : Int)).toNat < (l : Int).toNat
        have := Nat.mod_lt g c
        omega
    · refine ite_f (decide_eq_false (by omega)) ?_
      have hl : l = 0 := by omega
      subst hl
      rw [Nat.gcd_zero_right] at e
      subst e
      have hg2 : Nat.gcd a b ≤ a := Nat.gcd_le_left _ ha
      refine ⟨_, rfl, _, rfl, _, _, rfl, rfl, ⟨by omega, by omega⟩, _, rfl, _, _, rfl, rfl, ?_⟩
      have e2 : (a : Int).fdiv ((Nat.gcd a b : Nat) : Int) = ((a / Nat.gcd a b : Nat) : Int) := by
        rw [Int.fdiv_eq_ediv_of_nonneg _ (by omega)]
        rfl
      have e3 : a / Nat.gcd a b * b = Nat.lcm a b := by
        rw [Nat.lcm, Nat.mul_comm a b, Nat.mul_div_assoc _ (Nat.gcd_dvd_left a b), Nat.mul_comm]
      have le : a / Nat.gcd a b ≤ a := Nat.div_le_self _ _
      obtain ⟨m, hm⟩ : ∃ m, m = a / Nat.gcd a b := ⟨_, rfl⟩
      rw [← hm] at e2 e3 le
      refine ⟨.inl ⟨by rw [e2]; omega, by rw [e2]; omega⟩, ?_⟩
      have e4 : (a : Int).fdiv ((Nat.gcd a b : Nat) : Int) * (b : Int) = ((Nat.lcm a b : Nat) : Int) := by
        rw [e2, ← e3]
        exact (Int.natCast_mul _ _).symm
      show Q (.int ((a : Int).fdiv ((Nat.gcd a b : Nat) : Int) * (b : Int))) _
      rw [e4]
      exact q
theorem cut_nat {xs : List V} {a b : Nat} (h1 : a ≤ b) (h2 : b ≤ xs.length) : cutV xs (some (a : Int)) (some (b : Int)) = (xs.drop a).take (b - a) := by
  unfold cutV
  rw [HT.sIx_nat, HT.sIx_nat, Nat.min_eq_left (show a ≤ xs.length by omega), Nat.min_eq_left h2]
theorem cut_to {xs : List V} {b : Nat} (h2 : b ≤ xs.length) : cutV xs none (some (b : Int)) = xs.take b := by
  unfold cutV
  rw [HT.sIx_nat, HT.sIx_none, Nat.min_eq_left h2, Nat.sub_zero, List.drop_zero]
theorem map_range_eq {α : Type} {n : Nat} {g : Nat → α} {l : List α} (h : l.length = n) (k : ∀ i, i < n → l[i]? = some (g i)) : l = (List.range n).map g := by
  apply List.ext_getElem?
  intro i
  by_cases c : i < n
  · rw [k i c, List.getElem?_map, List.getElem?_range c]
    rfl
  · rw [List.getElem?_eq_none (by omega), List.getElem?_eq_none (by rw [List.length_map, List.length_range]; omega)]
theorem beq_range {n : Nat} {g h : Nat → Bool} : (((List.range n).map g == (List.range n).map h) = true) ↔ ∀ k, k < n → g k = h k := by
  rw [beq_iff_eq]
  constructor
  · intro e k hk
    have q : ((List.range n).map g)[k]? = ((List.range n).map h)[k]? := by rw [e]
    rw [List.getElem?_map, List.getElem?_map, List.getElem?_range hk] at q
    exact Option.some.inj q
  · intro e
    exact List.map_congr_left fun k hk => e k (List.mem_range.mp hk)
theorem sc_least_period : FnScope ["flags", "start", "period", "size", "ahead", "k"] ["flags", "start", "period"] (defScope s_least_period) := ⟨rfl, rfl, rfl, by decide +kernel, rfl, by decide +kernel, by decide +kernel⟩
theorem b_least_period (E : Env K mg base) : Binds K (fdAt K (ga K "least_period")) ["flags", "start", "period"] [] := (f_least_period E).bindsN fun _ _ _ _ _ _ us hl => match us, hl with | [_, _, _], _ => rfl
def sp_lp (K : PySem.W.Frag) : Sp := fun vs H Q _ => ∃ (l : Addr) (s p : Nat) (fl : List Bool) (f : Nat → Bool), vs = [.ref l, .int s, .int p] ∧ SqL K H l (fl.map .bl) ∧ Rep f s p fl ∧ s + p ≤ 1000000 ∧
  ∀ q H', Same H H' → 0 < q → q ∣ p → Per f s q → (∀ r, 0 < r → r ∣ p → Per f s r → q ≤ r) → Q (.int (q : Nat)) H'
theorem ok_least_period (E : Env K mg base) : FnOk P w K mg base CX0 1 (ga K "least_period") (fdAt K (ga K "least_period")) ["flags", "start", "period"] ((sp_lp K)) := by
  refine okD (f_least_period E) sc_least_period (fun cdv A outer s H vs Q X hr h => ?_) (fun vs H Q X h => by obtain ⟨_, _, _, _, _, rfl, _⟩ := h; rfl)
  obtain ⟨l, s, p, fl, f, rfl, hL, hR, hz, q⟩ := h
  have hp := hR.pos
  have hlen := hR.len
  refine ⟨_, (pss_cons (ps_for PassesOwn.never rfl (pi_range2 rfl (n_range E) (pa_cons pe_int (pa_cons (pv 2) pa_nil))) (pg_name (i := 3) sc_least_period.nd rfl (Or.inr rfl)) (pss_one (ps_if (pt_cmpR op_eq (pe_op op_mod (pv 2) (pv 3)) pe_int (nomark _)) (pss_cons (ps_setLc (i := 4) (own := [("k", 5)]) (g := (gName 5)) rfl sc_least_period.nd rfl rfl (sw_true rfl rfl rfl (by decide +kernel)) (pi_range1 rfl (n_range E) (pa_cons (pv 2) pa_nil)) (blkOk_by (own := [("k", 5)]) (N := (["flags", "start", "period", "size", "ahead", "k"] : List Str)) (sc := defScope s_least_period) (by decide +kernel)) (fun _ _ _ _ _ => (pg_name (i := 5) sc_least_period.nd rfl (Or.inl rfl))) (fun _ _ _ _ _ => pts_nil) (fun _ _ _ _ _ => (pe_ix (ixL K) (pv 0) (pe_op op_add (pv 1) (pe_op op_mod (pe_op op_add (pv 5) (pv 3)) (pv 2))) (fun _ _ => rfl))))
      (pss_one (ps_if (pt_cmpR (eqDK K hr.units) (pv 4) (pe_callTy (lstK K) rfl (n_list E) boot_list (pa_cons (pe_slice (slL K) (pv 0) (po_some (pv 1)) (po_some (pe_op op_add (pv 1) (pv 2)))) pa_nil)) (nomark _)) (pss_one (ps_ret (pv 3))) pss_nil))) pss_nil)))
      (pss_one (ps_ret (pv 2)))), ?_⟩
  refine ⟨_, rfl, 1, p, rfl, ⟨by omega, by omega, by omega, by omega⟩, for_range (lo := 1) (n := ((p : Int) - 1).toNat) (fun i σ H' => Same H H' ∧ (∃ v4 v3, σ = [some (.ref l), some (.int s), some (.int p), v3, v4, none]) ∧ ∀ r, 0 < r → r < 1 + i → r ∣ p → ¬ Per f s r)
    ⟨Same.refl H, ⟨_, _, rfl⟩, fun r h1 h2 => by omega⟩ ?_ ?_⟩
  · rintro i σ H' hi ⟨hS, ⟨v4, v3, rfl⟩, hno⟩
    refine ⟨_, rfl, _, rfl, _, _, rfl, rfl, by show (0 : Int) < 1 + (i : Int); omega, rfl, _, rfl, ?_⟩
    refine ite2 (fun c => ?_) (fun c => ?_)
    · have hdvd : (1 + i) ∣ p := by
        have e := of_decide_eq_true c
        injection e with e
        have e2 : ((p % (1 + i) : Nat) : Int) = 0 := by rw [← e]; simp
        exact Nat.dvd_of_mod_eq_zero (by omega)
      refine ⟨_, rfl, _, rfl, by omega, by omega, fun D hD => ?_⟩
      refine lc_map (walk_range (lo := 0) (n := ((p : Int)).toNat)) hD (fun k => .bl (f (s + (k + (1 + i)) % p))) (fun _ => true) (by omega) (fun _ _ => trivial) ?_ ?_
      · rintro k x H2 H3 Nk Ns hk s2 ⟨rfl, rfl⟩ k1 k2
        have hm : (k + (1 + i)) % p < p := Nat.mod_lt _ hp
        refine ⟨rfl, ?_⟩
        refine ⟨_, rfl, _, rfl, _, rfl, _, rfl, _, _, rfl, rfl, _, rfl, _, _, rfl, rfl, (by show (0 : Int) < (p : Int); omega), _, _, rfl, rfl, l, _, _, .bl (f (s + (k + (1 + i)) % p)), rfl, rfl, (hS.trans s2).seq hL, atN (n := s + (k + (1 + i)) % p) ?_ ?_, k1 rfl _ (Same.refl _)⟩
        · have e : ((((k + (1 + i)) % p : Nat)) : Int) = ((0 + (k : Int)) + (1 + (i : Int))) % (p : Int) := by
            rw [Int.natCast_emod]; congr 1; omega
          show (s : Int) + ((0 + (k : Int)) + (1 + (i : Int))) % (p : Int) = _
          rw [← e]; omega
        · rw [List.getElem?_map, hR.at_ _ (by omega)]; rfl
      · intro H2 s2 hA
        rw [filter_true] at hA
        refine ⟨_, rfl, _, rfl, _, rfl, s, rfl, _, rfl, _, rfl, _, _, rfl, rfl, (s + p : Nat), rfl, l, _, rfl, (hS.trans s2).seq hL, fun p1 n1 => ?_⟩
        have ec : cutV (fl.map V.bl) (some (s : Int)) (some ((s + p : Nat) : Int)) = ((List.range p).map fun k => f (s + k)).map V.bl := by
          rw [cut_nat (by omega) (by rw [List.length_map]; omega), List.map_map]
          refine map_range_eq (by rw [List.length_take, List.length_drop, List.length_map]; omega) fun k hk => ?_
          rw [List.getElem?_take_of_lt (by omega), List.getElem?_drop, List.getElem?_map, hR.at_ _ (by omega)]
          rfl
        rw [ec]
        refine ⟨p1, _, rfl, .inl (SqL.of upd_same), fun p2 n2 => ?_⟩
        have s3 : Same H' (upd (upd H2 p1 (.lst (((List.range p).map fun k => f (s + k)).map V.bl))) p2 (.lst (((List.range p).map fun k => f (s + k)).map V.bl))) := sMut (sMut s2 (s2.free n1)) (Same.free (sMut s2 (s2.free n1)) n2)
        have hA2 : upd (upd H2 p1 (.lst (((List.range p).map fun k => f (s + k)).map V.bl))) p2 (.lst (((List.range p).map fun k => f (s + k)).map V.bl)) D = some (.lst (((List.range p).map fun k => f (s + (k + (1 + i)) % p)).map V.bl)) := by
          rw [upd_ne (ne_of_none (sNew n1 _ _ hA) n2), upd_ne (ne_of_none hA n1), hA, List.map_map]
          rfl
        refine ⟨_, _, .lst (SqL.of hA2) (dpall_bl _), .lst (SqL.of upd_same) (dpall_bl _), shaped_bls _, shaped_bls _, _, rfl, ?_⟩
        rw [eqv_bls]
        refine ite2 (fun c2 => ?_) (fun c2 => ?_)
        · have hper : Per f s (1 + i) := per_of_test hR.per hp (beq_range.mp c2)
          refine ⟨_, rfl, ?_⟩
          have e1 : (1 : Int) + (i : Int) = ((1 + i : Nat) : Int) := by omega
          rw [e1]
          refine q (1 + i) _ (hS.trans s3) (by omega) hdvd hper fun r h1 h2 h3 => ?_
          exact Nat.le_of_not_lt fun h => hno r h1 h h2 h3
        · refine ⟨hS.trans s3, ⟨_, _, rfl⟩, fun r h1 h2 h3 h4 => ?_⟩
          by_cases e : r < 1 + i
          · exact hno r h1 e h3 h4
          · have e1 : r = 1 + i := by omega
            subst e1
            exact c2 (beq_range.mpr fun k _ => test_of_per hR.per h4 k)
    · refine ⟨hS, ⟨_, _, rfl⟩, fun r h1 h2 h3 h4 => ?_⟩
      by_cases e : r < 1 + i
      · exact hno r h1 e h3 h4
      · have e1 : r = 1 + i := by omega
        subst e1
        refine c (decide_eq_true ?_)
        have e2 : ((p % (1 + i) : Nat) : Int) = 0 := by rw [Nat.mod_eq_zero_of_dvd h3]; rfl
        have e3 : (p : Int) % (1 + (i : Int)) = 0 := by rw [← e2]; simp
        exact congrArg V.int e3
  · rintro σ H' ⟨hS, ⟨v4, v3, rfl⟩, hno⟩
    refine ⟨_, rfl, ?_⟩
    exact q p H' hS hp (Nat.dvd_refl p) hR.per fun r h1 h2 h3 => Nat.le_of_not_lt fun h => hno r h1 (by omega) h2 h3
/-- a form stands at v: the set f, its start, its period -/
def FormAt (K : PySem.W.Frag) (H : Hp) (v : V) (f : Nat → Bool) (s p : Nat) : Prop := ∃ (t tf : Addr) (fl : List Bool), v = .ref t ∧ SqT K H t [.int s, .int p, .ref tf] ∧ SqT K H tf (fl.map .bl) ∧ Rep f s p fl
theorem FormAt.mono {H H' : Hp} {v : V} {f : Nat → Bool} {s p : Nat} (h : FormAt K H v f s p) (e : SameI H H') : FormAt K H' v f s p := by
  obtain ⟨t, tf, fl, rfl, h1, h2, r⟩ := h
  exact ⟨t, tf, fl, rfl, e.seqT h1, e.seqT h2, r⟩
theorem sc_least_form : FnScope ["flags", "start", "period", "size"] ["flags", "start", "period"] (defScope s_least_form) := ⟨rfl, rfl, rfl, by decide +kernel, rfl, by decide +kernel, by decide +kernel⟩
theorem b_least_form (E : Env K mg base) : Binds K (fdAt K (ga K "least_form")) ["flags", "start", "period"] [] := (f_least_form E).bindsN fun _ _ _ _ _ _ us hl => match us, hl with | [_, _, _], _ => rfl
def sp_lf (K : PySem.W.Frag) : Sp := fun vs H Q _ => ∃ (l : Addr) (s p : Nat) (fl : List Bool) (f : Nat → Bool), vs = [.ref l, .int s, .int p] ∧ SqL K H l (fl.map .bl) ∧ Rep f s p fl ∧ s + p ≤ 1000000 ∧
  ∀ v s' q H', Same H H' → FormAt K H' v f s' q → s' ≤ s → q ∣ p → (∀ r, 0 < r → r ∣ p → Per f s r → q ≤ r) → Q v H'
theorem ok_least_form (E : Env K mg base) : FnOk P w K mg base CX0 2 (ga K "least_form") (fdAt K (ga K "least_form")) ["flags", "start", "period"] ((sp_lf K)) := by
  refine okD (f_least_form E) sc_least_form (fun cdv A outer s H vs Q X hr h => ?_) (fun vs H Q X h => by obtain ⟨_, _, _, _, _, rfl, _⟩ := h; rfl)
  obtain ⟨l, s, p, fl, f, rfl, hL, hR, hz, q⟩ := h
  have hlen := hR.len
  have hp := hR.pos
  refine ⟨_, (pss_cons (ps_set (i := 3) sc_least_form.nd rfl (Or.inl rfl) (pe_call (ok_least_period E) (hr.mono (by decide)) rfl (g_least_period E) (f_least_period E).kp (b_least_period E) .nil pass0 (pa_cons (pv 0) (pa_cons (pv 1) (pa_cons (pv 2) pa_nil)))))
      (pss_cons (ps_while PassesOwn.never (PW.pt (pw_and (pt_cmpR op_gt (pv 1) pe_int (nomark _)) (pw_and1 (pt_cmpR op_eq (pe_ix (ixL K) (pv 0) (pe_op op_sub (pv 1) pe_int) (fun _ _ => rfl)) (pe_ix (ixL K) (pv 0) (pe_op op_add (pe_op op_sub (pv 1) pe_int) (pv 3)) (fun _ _ => rfl)) (nomark _))))) (pss_one (ps_set (i := 1) sc_least_form.nd rfl (Or.inl rfl) (pe_op op_sub (pv 1) pe_int))))
      (pss_one (ps_ret (pe_tup (pa_cons (pv 1) (pa_cons (pv 3) (pa_cons (pe_callTy (tupK K) rfl (n_tuple E) boot_tuple (pa_cons (pe_slice (slL K) (pv 0) po_none (po_some (pe_op op_add (pv 1) (pv 3)))) pa_nil)) pa_nil)))))))), ?_⟩
  refine ⟨_, rfl, _, rfl, _, rfl, l, s, p, fl, f, rfl, hL, hR, hz, fun d H1 s1 hd0 hdd hper hmin => ?_⟩
  have hdp : d ≤ p := Nat.le_of_dvd hp hdd
  refine while_q (fun σ H' => H' = H1 ∧ ∃ s' : Nat, s' ≤ s ∧ σ = [some (.ref l), some (.int s'), some (.int p), some (.int d)] ∧ Per f s' d) (fun σ _ => match σ with | [_, some (.int l), _, _] => l.toNat | _ => 0) ⟨rfl, s, Nat.le_refl _, rfl, hper⟩ ?_
  · rintro σ H' ⟨rfl, s', le, rfl, hp'⟩
    refine ⟨_, rfl, _, _, rfl, rfl, _, rfl, ?_⟩
    by_cases c : 0 < s'
    · obtain ⟨k, rfl⟩ : ∃ k, s' = k + 1 := ⟨s' - 1, by omega⟩
      refine ite_t (decide_eq_true (by omega)) ?_
      refine ⟨_, rfl, _, rfl, _, _, rfl, rfl, l, _, _, .bl (f k), rfl, rfl, s1.seq hL, atN (n := k) (by omega) (by rw [List.getElem?_map, hR.at_ _ (by omega)]; rfl), _, rfl, _, rfl, _, _, rfl, rfl, _, rfl, _, _, rfl, rfl, l, _, _, .bl (f (k + d)), rfl, rfl, s1.seq hL,
        atN (n := k + d) (by omega) (by rw [List.getElem?_map, hR.at_ _ (by omega)]; rfl), rfl, _, rfl, ?_⟩
      refine ite2 (fun c2 => ?_) (fun c2 => ?_)
      · have e : f k = f (k + d) := by
          have := of_decide_eq_true c2
          injection this
        refine wnext ⟨_, rfl, _, _, rfl, rfl, ⟨rfl, k, by omega, ?_, hp'.down e⟩, ?_⟩
        · have e2 : ((k + 1 : Nat) : Int) - 1 = (k : Int) := by omega
          show [some (V.ref l), some (V.int (((k + 1 : Nat) : Int) - 1)), some (V.int p), some (V.int d)] = _
          rw [e2]
        · show (((k + 1 : Nat) : Int) - 1).toNat < ((k + 1 : Nat) : Int).toNat
          omega
      · have hRd : Rep f (k + 1) d (fl.take (k + 1 + d)) := ⟨by rw [List.length_take]; omega, hd0, fun j hj => by rw [List.getElem?_take_of_lt hj]; exact hR.at_ j (by omega), hp'⟩
        refine ⟨_, rfl, _, rfl, _, rfl, _, rfl, _, rfl, _, _, rfl, rfl, (k + 1 + d : Nat), rfl, l, _, rfl, s1.seq hL, fun p1 n1 => ?_⟩
        rw [cut_to (by rw [List.length_map]; omega), ← List.map_take]
        refine ⟨p1, _, rfl, .inl ⟨SqL.of upd_same, fun p2 n2 => ?_⟩⟩
        refine ⟨by show 3 ≤ sizeLine; decide, fun p3 n3 => ?_⟩
        refine q _ (k + 1) d _ (((s1.trans (sNew n1)).trans (sNew n2)).trans (sNew n3)) ⟨p3, p2, _, rfl, SqT.of upd_same, Same.seqT (sNew n3) (SqT.of upd_same), hRd⟩ le hdd hmin
    · have e0 : s' = 0 := by omega
      subst e0
      refine ite_f (decide_eq_false (by omega)) ?_
      have hRd : Rep f 0 d (fl.take (0 + d)) := ⟨by rw [List.length_take]; omega, hd0, fun j hj => by rw [List.getElem?_take_of_lt hj]; exact hR.at_ j (by omega), hp'⟩
      refine ⟨_, rfl, _, rfl, _, rfl, _, rfl, _, rfl, _, _, rfl, rfl, (0 + d : Nat), rfl, l, _, rfl, s1.seq hL, fun p1 n1 => ?_⟩
      rw [cut_to (by rw [List.length_map]; omega), ← List.map_take]
      refine ⟨p1, _, rfl, .inl ⟨SqL.of upd_same, fun p2 n2 => ?_⟩⟩
      refine ⟨by show 3 ≤ sizeLine; decide, fun p3 n3 => ?_⟩
      refine q _ 0 d _ (((s1.trans (sNew n1)).trans (sNew n2)).trans (sNew n3)) ⟨p3, p2, _, rfl, SqT.of upd_same, Same.seqT (sNew n3) (SqT.of upd_same), hRd⟩ le hdd hmin
theorem sc_flags_of : FnScope ["single", "again", "start", "period", "flags", "number", "k"] ["single", "again", "start", "period"] (defScope s_flags_of) := ⟨rfl, rfl, rfl, by decide +kernel, rfl, by decide +kernel, by decide +kernel⟩
theorem b_flags_of (E : Env K mg base) : Binds K (fdAt K (ga K "flags_of")) ["single", "again", "start", "period"] [] := (f_flags_of E).bindsN fun _ _ _ _ _ _ us hl => match us, hl with | [_, _, _, _], _ => rfl
def sp_fo (K : PySem.W.Frag) : Sp := fun vs H Q _ => ∃ (a b : Addr) (ns : List Nat) (s p : Nat), vs = [.ref a, .ref b, .int s, .int p] ∧ (SqT K H a (ns.map fun n => .int (n : Nat)) ∨ SqL K H a (ns.map fun n => .int (n : Nat))) ∧ SqT K H b [] ∧ (∀ n ∈ ns, n < s + p) ∧ s + p ≤ 1000000 ∧
  ∀ l H', Same H H' → H' l = some (.lst (((List.range (s + p)).map fun k => decide (k ∈ ns)).map V.bl)) → Q (.ref l) H'
theorem set_range (m : Nat) (g : Nat → Bool) (n : Nat) (h : n < m) : (((List.range m).map g).map V.bl).set n (.bl true) = ((List.range m).map fun k => (g k || decide (k = n))).map V.bl := by
  apply List.ext_getElem?
  intro i
  rw [List.getElem?_set, List.map_map, List.map_map, List.getElem?_map, List.getElem?_map]
  simp only [List.length_map, List.length_range]
  by_cases c : i < m
  · rw [List.getElem?_range c]
    by_cases e : n = i
    · subst e
      simp [c]
    · rw [if_neg e]
      have e' : ¬ i = n := fun z => e z.symm
      simp [e']
  · rw [if_neg (by omega), List.getElem?_eq_none (by rw [List.length_range]; omega)]
    rfl
theorem rep_false : ∀ n : Nat, List.flatten (List.replicate n [V.bl false]) = ((List.range n).map fun _ => false).map V.bl
  | 0 => rfl
  | n + 1 => by
    rw [List.replicate_succ, List.flatten_cons, rep_false n, List.range_succ_eq_map, List.map_cons, List.map_cons, List.map_map, List.map_map, List.map_map]
    rfl
theorem for_seq {a : Addr} {xs : List V} {g : TG} {tb : TS} {D : Ends} {σ : L2.St} {H0 H : Hp} {i : Nat} (hv : σ[i]? = some (some (.ref a))) (hA : SqT K H0 a xs ∨ SqL K H0 a xs) (s0 : Same H0 H) (Pv : Nat → L2.St → Hp → Prop) (h0 : Pv 0 σ H) (hl : ∀ j σ' H', Pv j σ' H' → Same H0 H')
    (hs : ∀ i x σ H, xs[i]? = some x → Pv i σ H → g x σ H fun σ2 H2 => tb { D with nx := Pv (i + 1), ct := Pv (i + 1), bk := D.nx } σ2 H2) (hd : ∀ σ H, Pv xs.length σ H → D.nx σ H) :
    tFor (fun σ H R => iTup K (tVar i) σ H R ∨ iList K (tVar i) σ H R) g tb D σ H := by
  rcases hA with h | h
  · exact .inl ⟨_, hv, a, rfl, ⟨_, Same.seqT s0 h⟩, for_tup Pv h0 (fun j σ' H' _ p => Same.seqT (hl j σ' H' p) h) hs hd⟩
  · exact .inr ⟨_, hv, a, rfl, ⟨_, Same.seq s0 h⟩, for_list Pv h0 (fun j σ' H' _ p => Same.seq (hl j σ' H' p) h) hs hd⟩
theorem take_mem {ns : List Nat} {i n : Nat} (h : ns[i]? = some n) (k : Nat) : decide (k ∈ ns.take (i + 1)) = (decide (k ∈ ns.take i) || decide (k = n)) := by
  rw [List.take_succ, h]
  simp
theorem ok_flags_of (E : Env K mg base) : FnOk P w K mg base CX0 1 (ga K "flags_of") (fdAt K (ga K "flags_of")) ["single", "again", "start", "period"] ((sp_fo K)) := by
  refine okD (f_flags_of E) sc_flags_of (fun cdv A outer s H vs Q X hr h => ?_) (fun vs H Q X h => by obtain ⟨_, _, _, _, _, rfl, _⟩ := h; rfl)
  obtain ⟨a, b, ns, s, p, rfl, hA, hB, hn, hz, q⟩ := h
  have e3 : sizeLine = 16777216 := sizeLine_eq
  refine ⟨_, (pss_cons (ps_set (i := 4) sc_flags_of.nd rfl (Or.inl rfl) (pe_op op_rep (pe_lst (pa_cons pe_bl pa_nil)) (pe_op op_add (pv 2) (pv 3))))
      (pss_cons (ps_for PassesOwn.never rfl (PI_or (pi_tup (pv 0)) (pi_list (pv 0))) (pg_name (i := 5) sc_flags_of.nd rfl (Or.inl rfl)) (pss_one (ps_asg pe_bl (pg_sub (pv 4) (pv 5) set_list))))
      (pss_cons (ps_for PassesOwn.never rfl (pi_tup (pv 1)) (pg_name (i := 5) sc_flags_of.nd rfl (Or.inl rfl)) (pss_one (ps_for PassesOwn.never rfl (pi_range3 rfl (n_range E) (pa_cons (pv 5) (pa_cons (pe_op op_add (pv 2) (pv 3)) (pa_cons (pv 3) pa_nil)))) (pg_name (i := 6) sc_flags_of.nd rfl (Or.inl rfl)) (pss_one (ps_asg pe_bl (pg_sub (pv 4) (pv 6) set_list))))))
      (pss_one (ps_ret (pv 4)))))), ?_⟩
  refine ⟨by show 1 ≤ sizeLine; omega, fun p1 n1 => ?_⟩
  refine ⟨_, rfl, _, rfl, _, _, rfl, rfl, p1, _, _, rfl, rfl, upd_same, by omega, by omega, by show 1 * _ ≤ sizeLine; omega, fun l nl => ?_⟩
  have s1 : Same H (upd (upd H p1 (.lst [V.bl false])) l (.lst (List.replicate ((s : Int) + (p : Int)).toNat [V.bl false]).flatten)) := (sNew n1).trans (sNew nl)
  have hl0 : H l = none := (sNew n1).free nl
  have eN : ((s : Int) + (p : Int)).toNat = s + p := by omega
  refine for_seq (K := K) (a := a) (xs := ns.map fun n => V.int ((n : Nat) : Int)) (i := 0) (H0 := H) rfl hA s1
    (fun i σ H' => Same H H' ∧ (∃ v5, σ = [some (.ref a), some (.ref b), some (.int s), some (.int p), some (.ref l), v5, none]) ∧ H' l = some (.lst (((List.range (s + p)).map fun k => decide (k ∈ ns.take i)).map V.bl))) ⟨s1, ⟨_, rfl⟩, ?_⟩ (fun _ _ _ h => h.1) ?_ ?_
  · rw [upd_same, eN, rep_false]
    simp
  · rintro i x σ H' hx ⟨hS, ⟨v5, rfl⟩, hA'⟩
    rw [List.getElem?_map] at hx
    cases e : ns[i]? with
    | none => rw [e] at hx; cases hx
    | some n =>
      rw [e] at hx
      obtain rfl : V.int (n : Nat) = x := Option.some.inj hx
      have hlt := hn n (List.mem_of_getElem? e)
      refine ⟨_, rfl, _, rfl, l, _, _, n, rfl, rfl, hA', ?_, sMut hS hl0, ⟨_, rfl⟩, ?_⟩
      · unfold ixN
        rw [if_pos (by omega)]
        simp only [List.length_map, List.length_range]
        rw [if_pos (by omega)]
        rfl
      · rw [upd_same, set_range _ _ _ hlt]
        simp only [take_mem e]
  · rintro σ H' ⟨hS, ⟨v5, rfl⟩, hA'⟩
    refine ⟨_, rfl, b, rfl, ⟨_, Same.seqT hS hB⟩, for_tup (K := K) (a := b) (xs := []) (fun i σ H'' => H'' = H' ∧ σ = [some (.ref a), some (.ref b), some (.int s), some (.int p), some (.ref l), v5, none]) ⟨rfl, rfl⟩ (fun _ _ _ _ h => by rw [h.1]; exact Same.seqT hS hB) (fun i x _ _ hx => by simp at hx) ?_⟩
    rintro σ H'' ⟨rfl, rfl⟩
    refine ⟨_, rfl, q l _ hS ?_⟩
    rw [List.length_map, List.take_length] at hA'
    exact hA'
end
end Own
set_option Elab.async false
set_option linter.all false
set_option maxRecDepth 100000
set_option maxHeartbeats 4000000
/-! lag sets as objects -/
namespace Own
open PySem PySem.Spec PyProof.Rows L2 He OwnR
abbrev LL : Nat := 27720
/-- the two classes of lag sets -/
def IsLag (K : PySem.W.Frag) (C : Addr) : Prop := C = ga K "Lags" ∨ C = ga K "FormedLags"
theorem int0 (k : Nat) : V.int (0 + (k : Int)) = V.int (k : Int) := by rw [Int.zero_add]
section
variable {P : Program} {w : World} {K : PySem.W.Frag} {mg : Str → Option Value} {base : Heap}
theorem IsLag.cls (E : Env K mg base) {C : Addr} (h : IsLag K C) : Cls K C := by
  rcases h with rfl | rfl
  · exact c_Lags E
  · exact c_FormedLags E
theorem IsLag.noF (E : Env K mg base) {C : Addr} (h : IsLag K C) : NoAttr K C "form" := by
  rcases h with rfl | rfl
  · exact a_Lags_form E
  · exact a_FormedLags_form E
theorem q_start (E : Env K mg base) : ∀ C, IsLag K C → Cls K C ∧ ∃ p, PropOf K C "start" p (pa K (ga K "Lags") "start") := fun C h => ⟨h.cls E, by
  rcases h with rfl | rfl
  · exact p_Lags_start E
  · rw [ep_start E]; exact p_FormedLags_start E⟩
theorem q_period (E : Env K mg base) : ∀ C, IsLag K C → Cls K C ∧ ∃ p, PropOf K C "period" p (pa K (ga K "Lags") "period") := fun C h => ⟨h.cls E, by
  rcases h with rfl | rfl
  · exact p_Lags_period E
  · rw [ep_period E]; exact p_FormedLags_period E⟩
theorem q_members (E : Env K mg base) : ∀ C, IsLag K C → Cls K C ∧ ∃ p, PropOf K C "members" p (pa K (ga K "Lags") "members") := fun C h => ⟨h.cls E, by
  rcases h with rfl | rfl
  · exact p_Lags_members E
  · rw [ep_members E]; exact p_FormedLags_members E⟩
theorem q_first (E : Env K mg base) : ∀ C, IsLag K C → Cls K C ∧ ∃ p, PropOf K C "first" p (pa K (ga K "Lags") "first") := fun C h => ⟨h.cls E, by
  rcases h with rfl | rfl
  · exact p_Lags_first E
  · rw [ep_first E]; exact p_FormedLags_first E⟩
theorem q_within (E : Env K mg base) : ∀ C, IsLag K C → Cls K C ∧ Meth K C "within" (ma K (ga K "Lags") "within") := fun C h => ⟨h.cls E, by
  rcases h with rfl | rfl
  · exact m_Lags_within E
  · rw [e_within E]; exact m_FormedLags_within E⟩
theorem q_contains (E : Env K mg base) : ∀ C, IsLag K C → Meth K C "__contains__" (ma K (ga K "Lags") "__contains__") := fun C h => by
  rcases h with rfl | rfl
  · exact m_Lags_contains E
  · rw [e_contains E]; exact m_FormedLags_contains E
/-- a lag set stands at v: the set, a start, a period -/
def LagSP (K : PySem.W.Frag) (H : Hp) (v : V) (f : Nat → Bool) (s p : Nat) : Prop := ∃ (a C dx : Addr) (tv : V), v = .ref a ∧ IsLag K C ∧ H a = some (.ins C dx [("form", tv)]) ∧ FormAt K H tv f s p
theorem LagSP.mono {H H' : Hp} {v : V} {f : Nat → Bool} {s p : Nat} (h : LagSP K H v f s p) (e : SameI H H') : LagSP K H' v f s p := by
  obtain ⟨a, C, dx, tv, rfl, hC, h1, h2⟩ := h
  exact ⟨a, C, dx, tv, rfl, hC, e _ _ h1 rfl, h2.mono e⟩
/-- .. a small one -/
def LagAt (K : PySem.W.Frag) (H : Hp) (v : V) (f : Nat → Bool) : Prop := ∃ s p, LagSP K H v f s p ∧ s ≤ 10000 ∧ p ∣ LL
theorem LagAt.mono {H H' : Hp} {v : V} {f : Nat → Bool} (h : LagAt K H v f) (e : SameI H H') : LagAt K H' v f := by
  obtain ⟨s, p, h, q⟩ := h
  exact ⟨s, p, h.mono e, q⟩
theorem sc_flag_at : FnScope ["form", "k", "start", "period", "flags"] ["form", "k"] (defScope s_flag_at) := ⟨rfl, rfl, rfl, by decide +kernel, rfl, by decide +kernel, by decide +kernel⟩
theorem b_flag_at (E : Env K mg base) : Binds K (fdAt K (ga K "flag_at")) ["form", "k"] [] := (f_flag_at E).bindsN fun _ _ _ _ _ _ us hl => match us, hl with | [_, _], _ => rfl
def sp_fa (K : PySem.W.Frag) : Sp := fun vs H Q _ => ∃ (v : V) (f : Nat → Bool) (s p k : Nat), vs = [v, .int k] ∧ FormAt K H v f s p ∧ Q (.bl (f k)) H
theorem ok_flag_at (E : Env K mg base) : FnOk P w K mg base CX0 1 (ga K "flag_at") (fdAt K (ga K "flag_at")) ["form", "k"] ((sp_fa K)) := by
  refine okD (f_flag_at E) sc_flag_at (fun cdv A outer s H vs Q X hr h => ?_) (fun vs H Q X h => by obtain ⟨_, _, _, _, _, rfl, _⟩ := h; rfl)
  obtain ⟨v, f, s', p, k, rfl, ⟨t, tf, fl, rfl, h1, h2, hR⟩, q⟩ := h
  have hl := hR.len
  have hp := hR.pos
  rw [← hR.mem k] at q
  refine ⟨_, (pss_cons (ps_asg (pv 0) (pg_tup rfl (pgs_cons (pg_name (i := 2) sc_flag_at.nd rfl (Or.inl rfl)) (pgs_cons (pg_name (i := 3) sc_flag_at.nd rfl (Or.inl rfl)) (pgs_cons (pg_name (i := 4) sc_flag_at.nd rfl (Or.inl rfl)) pgs_nil)))))
      (pss_one (ps_ret (pe_ifExp (pt_cmpR op_lt (pv 1) (pe_op op_add (pv 2) (pv 3)) (nomark _)) (pe_ix (ixT K) (pv 4) (pv 1) (fun _ _ => rfl)) (pe_ix (ixT K) (pv 4) (pe_op op_add (pv 2) (pe_op op_mod (pe_op op_sub (pv 1) (pv 2)) (pv 3))) (fun _ _ => rfl)))))), ?_⟩
  refine ⟨_, rfl, t, _, rfl, h1, rfl, _, _, rfl, _, _, rfl, _, _, rfl, rfl, ?_⟩
  refine ⟨_, rfl, _, rfl, _, rfl, _, _, rfl, rfl, _, _, rfl, rfl, _, rfl, ?_⟩
  refine ite2 (fun c => ?_) (fun c => ?_)
  · have c' : k < s' + p := by have := of_decide_eq_true c; omega
    refine ⟨_, rfl, _, rfl, tf, _, _, .bl (fl.getD k false), rfl, rfl, h2, atN rfl ?_, ?_⟩
    · rw [List.getElem?_map, List.getD_eq_getElem?_getD, List.getElem?_eq_getElem (by omega)]; rfl
    · have e : mem s' p fl k = fl.getD k false := if_pos c'
      rw [← e]; exact q
  · have c' : ¬ k < s' + p := fun z => c (decide_eq_true (by omega))
    have hm : (k - s') % p < p := Nat.mod_lt _ hp
    refine ⟨_, rfl, _, rfl, _, rfl, _, rfl, _, _, rfl, rfl, _, rfl, _, _, rfl, rfl, (by show (0 : Int) < (p : Int); omega), _, _, rfl, rfl, tf, _, _, .bl (fl.getD (s' + (k - s') % p) false), rfl, rfl, h2, atN (n := s' + (k - s') % p) ?_ ?_, ?_⟩
    · have e : ((k : Int) - (s' : Int)) = ((k - s' : Nat) : Int) := by omega
      rw [e]; rfl
    · rw [List.getElem?_map, List.getD_eq_getElem?_getD, List.getElem?_eq_getElem (by omega)]; rfl
    · have e : mem s' p fl k = fl.getD (s' + (k - s') % p) false := if_neg c'
      rw [← e]; exact q
/-- v.form -/
theorem lag_form (E : Env K mg base) {H : Hp} {v : V} {f : Nat → Bool} {s p : Nat} (h : LagSP K H v f s p) {σ : L2.St} {te : TE} {Q : VK} (hv : ∀ Q' : VK, Q' v H → te σ H Q') (q : ∀ tv, FormAt K H tv f s p → Q tv H) : tFld K te "form" σ H Q := by
  obtain ⟨a, C, dx, tv, rfl, hC, h1, h2⟩ := h
  exact hv _ ⟨a, C, dx, _, tv, rfl, h1, hC.cls E, hC.noF E, rfl, q tv h2⟩
theorem sc_both_ends : FnScope ["one", "other"] ["one", "other"] (defScope s_both_ends) := ⟨rfl, rfl, rfl, by decide +kernel, rfl, by decide +kernel, by decide +kernel⟩
theorem b_both_ends (E : Env K mg base) : Binds K (fdAt K (ga K "both_ends")) ["one", "other"] [] := (f_both_ends E).bindsN fun _ _ _ _ _ _ us hl => match us, hl with | [_, _], _ => rfl
def sp_be (K : PySem.W.Frag) : Sp := fun vs H Q _ => ∃ (u v : V) (f g : Nat → Bool) (s p t r : Nat), vs = [u, v] ∧ LagSP K H u f s p ∧ LagSP K H v g t r ∧ p ≤ 1000000 ∧ r ≤ 1000000 ∧
  ∀ a H', Same H H' → SqT K H' a [.int (max s t : Nat), .int (Nat.lcm p r : Nat)] → Q (.ref a) H'
theorem ok_both_ends (E : Env K mg base) : FnOk P w K mg base CX0 2 (ga K "both_ends") (fdAt K (ga K "both_ends")) ["one", "other"] ((sp_be K)) := by
  refine okD (f_both_ends E) sc_both_ends (fun cdv A outer s H vs Q X hr h => ?_) (fun vs H Q X h => by obtain ⟨_, _, _, _, _, _, _, _, rfl, _⟩ := h; rfl)
  obtain ⟨u, v, f, g, s, p, t, r, rfl, hu, hv, lp, lr, q⟩ := h
  refine ⟨_, (pss_one (ps_ret (pe_tup (pa_cons (pe_callB (call_max2 rfl) rfl (n_max E) boot_max (pa_cons (pe_ix (ixT K) (pe_fldK K (pv 0)) pe_int (fun _ _ => rfl)) (pa_cons (pe_ix (ixT K) (pe_fldK K (pv 1)) pe_int (fun _ _ => rfl)) pa_nil))) (pa_cons (pe_call (ok_common_multiple E) (hr.mono (by decide)) rfl (g_common_multiple E) (f_common_multiple E).kp (b_common_multiple E) .nil pass0 (pa_cons (pe_ix (ixT K) (pe_fldK K (pv 0)) pe_int (fun _ _ => rfl)) (pa_cons (pe_ix (ixT K) (pe_fldK K (pv 1)) pe_int (fun _ _ => rfl)) pa_nil))) pa_nil))))), ?_⟩
  refine lag_form E hu (fun Q' q => ⟨u, rfl, q⟩) fun tu hfu => ?_
  obtain ⟨t1, tf1, fl1, rfl, a1, a2, r1⟩ := hfu
  refine ⟨t1, _, _, .int s, rfl, rfl, a1, rfl, ?_⟩
  refine lag_form E hv (fun Q' q => ⟨v, rfl, q⟩) fun tv hfv => ?_
  obtain ⟨t2, tf2, fl2, rfl, b1, b2, r2⟩ := hfv
  refine ⟨t2, _, _, .int t, rfl, rfl, b1, rfl, _, _, rfl, ?_⟩
  refine lag_form E hu (fun Q' q => ⟨u, rfl, q⟩) fun tu hfu => ?_
  obtain ⟨t3, tf3, fl3, rfl, a3, a4, r3⟩ := hfu
  refine ⟨t3, _, _, .int p, rfl, rfl, a3, rfl, ?_⟩
  refine lag_form E hv (fun Q' q => ⟨v, rfl, q⟩) fun tv hfv => ?_
  obtain ⟨t4, tf4, fl4, rfl, b3, b4, r4⟩ := hfv
  refine ⟨t4, _, _, .int r, rfl, rfl, b3, rfl, p, r, rfl, r3.pos, r4.pos, lp, lr, ?_⟩
  refine ⟨by show 2 ≤ sizeLine; decide, fun p1 n1 => ?_⟩
  have e : (if (t : Int) > (s : Int) then (t : Int) else (s : Int)) = ((max s t : Nat) : Int) := by
    by_cases c : (t : Int) > (s : Int)
    · rw [if_pos c, Nat.max_eq_right (by omega)]
    · rw [if_neg c, Nat.max_eq_left (by omega)]
  refine q p1 _ (sNew n1) ?_
  rw [← e]
  exact SqT.of upd_same
theorem sc_form_left : FnScope ["one", "other", "start", "period", "flags", "k"] ["one", "other"] (defScope s_form_left) := ⟨rfl, rfl, rfl, by decide +kernel, rfl, by decide +kernel, by decide +kernel⟩
theorem b_form_left (E : Env K mg base) : Binds K (fdAt K (ga K "form_left")) ["one", "other"] [] := (f_form_left E).bindsN fun _ _ _ _ _ _ us hl => match us, hl with | [_, _], _ => rfl
def sp_fl (K : PySem.W.Frag) : Sp := fun vs H Q _ => ∃ (u v : V) (f g : Nat → Bool) (s p t r : Nat), vs = [u, v] ∧ LagSP K H u f s p ∧ LagSP K H v g t r ∧ s ≤ 10000 ∧ t ≤ 10000 ∧ p ∣ LL ∧ r ∣ LL ∧
  ∀ x s' p' H', Same H H' → FormAt K H' x (fun k => f k && !g k) s' p' → s' ≤ 10000 → p' ∣ LL → Q x H'
theorem ok_form_left (E : Env K mg base) : FnOk P w K mg base CX0 3 (ga K "form_left") (fdAt K (ga K "form_left")) ["one", "other"] ((sp_fl K)) := by
  refine okD (f_form_left E) sc_form_left (fun cdv A outer s H vs Q X hr h => ?_) (fun vs H Q X h => by obtain ⟨_, _, _, _, _, _, _, _, rfl, _⟩ := h; rfl)
  obtain ⟨u, v, f, g, s, p, t, r, rfl, hu, hv, ls, lt, dp, dr, q⟩ := h
  have lp : p ≤ 27720 := Nat.le_of_dvd (by decide) dp
  have lr : r ≤ 27720 := Nat.le_of_dvd (by decide) dr
  have dl : Nat.lcm p r ∣ LL := Nat.lcm_dvd dp dr
  have ll : Nat.lcm p r ≤ 27720 := Nat.le_of_dvd (by decide) dl
  have hM : max s t ≤ 10000 := Nat.max_le.mpr ⟨ls, lt⟩
  refine ⟨_, (pss_cons (ps_asg (pe_call (ok_both_ends E) (hr.mono (by decide)) rfl (g_both_ends E) (f_both_ends E).kp (b_both_ends E) .nil pass0 (pa_cons (pv 0) (pa_cons (pv 1) pa_nil))) (pg_tup rfl (pgs_cons (pg_name (i := 2) sc_form_left.nd rfl (Or.inl rfl)) (pgs_cons (pg_name (i := 3) sc_form_left.nd rfl (Or.inl rfl)) pgs_nil))))
      (pss_cons (ps_setLc (i := 4) (own := [("k", 5)]) (g := (gName 5)) rfl sc_form_left.nd rfl rfl (sw_true rfl rfl rfl (by decide +kernel)) (pi_range1 rfl (n_range E) (pa_cons (pe_op op_add (pv 2) (pv 3)) pa_nil)) (blkOk_by (own := [("k", 5)]) (N := (["one", "other", "start", "period", "flags", "k"] : List Str)) (sc := defScope s_form_left) (by decide +kernel)) (fun _ _ _ _ _ => (pg_name (i := 5) sc_form_left.nd rfl (Or.inl rfl))) (fun _ _ _ _ _ => pts_nil) (fun _ _ _ _ _ => (pe_and (pe_call (ok_flag_at E) (hr.mono (by decide)) rfl (g_flag_at E) (f_flag_at E).kp (b_flag_at E) .nil pass0 (pa_cons (pe_fldK K (pv 0)) (pa_cons (pv 5) pa_nil))) (pe_one (pe_not (pe_call (ok_flag_at E) (hr.mono (by decide)) rfl (g_flag_at E) (f_flag_at E).kp (b_flag_at E) .nil pass0 (pa_cons (pe_fldK K (pv 1)) (pa_cons (pv 5) pa_nil))))))))
      (pss_one (ps_ret (pe_call (ok_least_form E) (hr.mono (by decide)) rfl (g_least_form E) (f_least_form E).kp (b_least_form E) .nil pass0 (pa_cons (pv 4) (pa_cons (pv 2) (pa_cons (pv 3) pa_nil)))))))), ?_⟩
  refine ⟨_, rfl, _, rfl, u, v, f, g, s, p, t, r, rfl, hu, hv, by omega, by omega, fun a H1 s1 h1 => ?_⟩
  refine ⟨a, _, rfl, h1, rfl, _, _, rfl, _, _, rfl, rfl, ?_⟩
  refine ⟨_, rfl, _, rfl, _, _, rfl, rfl, _, rfl, by omega, by omega, fun D hD => ?_⟩
  have hu1 := hu.mono (sameI s1)
  have hv1 := hv.mono (sameI s1)
  refine lc_map (walk_range (lo := 0) (n := ((max s t : Nat) + (Nat.lcm p r : Nat) : Int).toNat)) hD (fun k => .bl (f k && !g k)) (fun _ => true) (by omega) (fun _ _ => trivial) ?_ ?_
  · rintro k x H2 H3 Nk Ns hk s2 ⟨rfl, hx⟩ k1 k2
    obtain rfl : x = V.int (k : Int) := hx.trans (int0 k)
    refine ⟨rfl, ?_⟩
    refine tyes_if ?_
    refine lag_form E (hu1.mono (sameI s2)) (fun Q' q => ⟨u, rfl, q⟩) fun tu hfu => ?_
    refine ⟨_, rfl, tu, f, s, p, k, rfl, hfu, _, rfl, ?_⟩
    cases hb : f k with
    | true =>
      refine ite_t rfl ?_
      refine lag_form E (hv1.mono (sameI s2)) (fun Q' q => ⟨v, rfl, q⟩) fun tv hfv => ?_
      refine ⟨_, rfl, tv, g, t, r, k, rfl, hfv, _, rfl, ?_⟩
      have := k1 rfl _ (Same.refl _)
      rw [hb, Bool.true_and] at this
      exact this
    | false =>
      refine ite_f rfl ?_
      have := k1 rfl _ (Same.refl _)
      rw [hb, Bool.false_and] at this
      exact this
  · intro H2 s2 hA
    rw [filter_true] at hA
    have eN : ((max s t : Nat) + (Nat.lcm p r : Nat) : Int).toNat = max s t + Nat.lcm p r := by omega
    rw [eN] at hA
    obtain ⟨_, _, _, _, _, _, _, _, _, fl1, _, _, _, r1⟩ := hu
    obtain ⟨_, _, _, _, _, _, _, _, _, fl2, _, _, _, r2⟩ := hv
    have hR : Rep (fun k => f k && !g k) (max s t) (Nat.lcm p r) ((List.range (max s t + Nat.lcm p r)).map fun k => f k && !g k) := {
      len := by rw [List.length_map, List.length_range]
      pos := Nat.lcm_pos r1.pos r2.pos
      at_ := fun k hk => by rw [List.getElem?_map, List.getElem?_range hk]; rfl
      per := fun k hk => by
        have a1 := (r1.per.dvd (Nat.dvd_lcm_left p r)) k (Nat.le_trans (Nat.le_max_left _ _) hk)
        have a2 := (r2.per.dvd (Nat.dvd_lcm_right p r)) k (Nat.le_trans (Nat.le_max_right _ _) hk)
        simp only [a1, a2] }
    refine ⟨_, rfl, _, rfl, _, rfl, D, max s t, Nat.lcm p r, _, _, rfl, ?_, hR, by omega, fun x s' q' H' s3 hF l1 l2 _ => ?_⟩
    · refine SqL.of ?_
      rw [hA, List.map_map]
      rfl
    · exact q x s' q' H' ((s1.trans s2).trans s3) hF (by omega) (Nat.dvd_trans l2 dl)
end
end Own
set_option Elab.async false
set_option linter.all false
set_option maxRecDepth 100000
set_option maxHeartbeats 4000000
/-! lag sets: their makers, their properties -/
namespace Own
open PySem PySem.Spec PyProof.Rows L2 He OwnR
section
variable {P : Program} {w : World} {K : PySem.W.Frag} {mg : Str → Option Value} {base : Heap}
theorem map_get {α : Type} {l : List α} {f : α → V} {i : Nat} {x : V} (h : (l.map f)[i]? = some x) : ∃ a, l[i]? = some a ∧ x = f a := by
  rw [List.getElem?_map] at h
  cases e : l[i]? with
  | none => rw [e] at h; cases h
  | some a => rw [e] at h; exact ⟨a, rfl, (Option.some.inj h).symm⟩
theorem sT {H H' : Hp} {a : Addr} {xs : List V} (s : Same H H') (h : SqT K H a xs) : SqT K H' a xs := Same.seqT s h
theorem sqT_ins {H : Hp} {x C dx a : Addr} {fs : List (Str × V)} {o : HO} {xs : List V} (hx : H x = some (.ins C dx fs)) (h : SqT K H a xs) : SqT K (upd H x o) a xs := by
  rcases h with (h | ⟨u, h⟩) | h
  · exact .inl (.inl (by rw [upd_ne (ne_of h hx (by intro z; cases z))]; exact h))
  · exact .inl (.inr ⟨u, by rw [upd_ne (ne_of h hx (by intro z; cases z))]; exact h⟩)
  · exact .inr h
theorem FormAt.monoT {H H' : Hp} {v : V} {f : Nat → Bool} {s p : Nat} (h : FormAt K H v f s p) (e : ∀ a xs, SqT K H a xs → SqT K H' a xs) : FormAt K H' v f s p := by
  obtain ⟨t, tf, fl, rfl, h1, h2, r⟩ := h
  exact ⟨t, tf, fl, rfl, e _ _ h1, e _ _ h2, r⟩
theorem ty_tup {H : Hp} {a : Addr} {xs : List V} (h : SqT K H a xs) : TyX K H (.ref a) (.type "tuple") := by
  rcases h with (h | ⟨o, h⟩) | ⟨o, its, n, hk, hc, _⟩
  · exact .base (.tup h)
  · exact .fTuple h
  · exact .kTuple hk hc
theorem qi_Lags (E : Env K mg base) : ∀ C, IsLag K C → InsT K C (ga K "Lags") := fun C h => by
  rcases h with rfl | rfl
  · exact t_Lags_Lags E
  · exact t_FormedLags_Lags E
theorem sc_is_integer : FnScope ["value"] ["value"] (defScope s_is_integer) := ⟨rfl, rfl, rfl, by decide +kernel, rfl, by decide +kernel, by decide +kernel⟩
theorem b_is_integer (E : Env K mg base) : Binds K (fdAt K (ga K "is_integer")) ["value"] [] := (f_is_integer E).bindsN fun _ _ _ _ _ _ us hl => match us, hl with | [_], _ => rfl
def sp_isint : Sp := fun vs H Q _ => ∃ i : Int, vs = [.int i] ∧ Q (.bl true) H
theorem ok_is_integer (E : Env K mg base) : FnOk P w K mg base CX0 1 (ga K "is_integer") (fdAt K (ga K "is_integer")) ["value"] (sp_isint) := by
  refine okD (f_is_integer E) sc_is_integer (fun cdv A outer s H vs Q X hr h => ?_) (fun vs H Q X h => by obtain ⟨_, rfl, _⟩ := h; rfl)
  obtain ⟨i, rfl, q⟩ := h
  refine ⟨_, (pss_one (ps_ret (pe_and (pe_callB call_isi rfl (n_isinstance E) boot_isinstance (pa_cons (pv 0) (pa_cons (pe_bltn (v := .ty "int") rfl (n_int E) boot_int rfl) pa_nil))) (pe_one (pe_not (pe_callB call_isi rfl (n_isinstance E) boot_isinstance (pa_cons (pv 0) (pa_cons (pe_bltn (v := .ty "bool") rfl (n_bool E) boot_bool rfl) pa_nil)))))))), ?_⟩
  refine ⟨_, rfl, _, .ty "int", _, _, true, rfl, .ty _, .base (.int i), kit_ty (by decide +kernel), _, rfl, ite_t rfl ?_⟩
  exact ⟨_, rfl, _, .ty "bool", _, _, false, rfl, .ty _, .base (.int i), kit_ty (by decide +kernel), _, rfl, q⟩
theorem sc_check_numbers : FnScope ["value", "index", "number"] ["value"] (defScope s_check_numbers) := ⟨rfl, rfl, rfl, by decide +kernel, rfl, by decide +kernel, by decide +kernel⟩
theorem b_check_numbers (E : Env K mg base) : Binds K (fdAt K (ga K "check_numbers")) ["value"] [] := (f_check_numbers E).bindsN fun _ _ _ _ _ _ us hl => match us, hl with | [_], _ => rfl
def sp_cn (K : PySem.W.Frag) : Sp := fun vs H Q _ => ∃ (a : Addr) (ns : List Nat), vs = [.ref a] ∧ SqT K H a (ns.map fun n => .int (n : Nat)) ∧ (∀ n ∈ ns, n ≤ 1000) ∧ ∀ H', Same H H' → Q .non H'
theorem ok_check_numbers (E : Env K mg base) : FnOk P w K mg base CX0 2 (ga K "check_numbers") (fdAt K (ga K "check_numbers")) ["value"] ((sp_cn K)) := by
  refine okD (f_check_numbers E) sc_check_numbers (fun cdv A outer s H vs Q X hr h => ?_) (fun vs H Q X h => by obtain ⟨_, _, rfl, _⟩ := h; rfl)
  obtain ⟨a, ns, rfl, hA, hn, q⟩ := h
  refine ⟨_, (pss_cons (ps_if (pt_not (pt_val (pe_callB call_isi rfl (n_isinstance E) boot_isinstance (pa_cons (pv 0) (pa_cons (pe_bltn (v := .ty "tuple") rfl (n_tuple E) boot_tuple rfl) pa_nil))))) (pss_one ps_never) pss_nil)
      (pss_one (ps_for PassesOwn.never rfl (pi_enumT rfl (n_enumerate E) (pa_cons (pv 0) pa_nil)) (pg_tup rfl (pgs_cons (pg_name (i := 1) sc_check_numbers.nd rfl (Or.inl rfl)) (pgs_cons (pg_name (i := 2) sc_check_numbers.nd rfl (Or.inl rfl)) pgs_nil))) (pss_one (ps_if (PW.pt (pw_or (pt_not (pt_val (pe_call (ok_is_integer E) (hr.mono (by decide)) rfl (g_is_integer E) (f_is_integer E).kp (b_is_integer E) .nil pass0 (pa_cons (pv 2) pa_nil)))) (pw_or1 (pt_not (pt_chain op_le op_le pe_int (pv 2) (pe_gi (i_MOST_MEMBER E))))))) (pss_one ps_never) pss_nil))))), ?_⟩
  refine ⟨_, rfl, _, .ty "tuple", _, _, true, rfl, .ty _, ty_tup hA, kit_ty (by decide +kernel), _, rfl, ite_f (b := !true) rfl ?_⟩
  refine ⟨_, rfl, a, _, rfl, hA, for_it (walk_enumT (K := K) (a := a) (xs := ns.map fun n => V.int (n : Nat))) (fun i σ H' => Same H H' ∧ ∃ v1 v2, σ = [some (.ref a), v1, v2]) ⟨Same.refl _, _, _, rfl⟩ (fun i σ H' _ h => Same.seqT h.1 hA) ?_ ?_⟩
  · rintro i x σ H1 H2 hi ⟨hS, v1, v2, rfl⟩ ⟨T, y, z, rfl, hT, rfl, e1, e2⟩
    obtain rfl : V.int (i : Nat) = y := Option.some.inj e1
    obtain ⟨n, e, rfl⟩ := map_get e2
    have hle := hn n (List.mem_of_getElem? e)
    refine ⟨T, _, rfl, SqT.of upd_same, rfl, _, _, rfl, _, _, rfl, rfl, ?_⟩
    refine ⟨_, rfl, _, rfl, _, rfl, ite_f (b := !true) rfl ?_⟩
    refine ⟨_, rfl, _, _, rfl, rfl, _, rfl, ite_t (decide_eq_true (by omega)) ⟨_, _, rfl, rfl, _, rfl, ?_⟩⟩
    refine ite_f (b := !decide ((n : Int) ≤ 1000)) (by rw [decide_eq_true (by omega)]; rfl) ?_
    exact ⟨hS.trans (sNew hT), _, _, rfl⟩
  · rintro σ H' ⟨hS, v1, v2, rfl⟩
    exact q H' hS
theorem sc_Lags_init : FnScope ["self", "single", "again", "period", "start"] ["self", "single", "again", "period"] (defScope s_Lags_init) := ⟨rfl, rfl, rfl, by decide +kernel, rfl, by decide +kernel, by decide +kernel⟩
def sp_li (K : PySem.W.Frag) : Sp := fun vs H Q _ => ∃ (x dx a b : Addr) (ns : List Nat), vs = [.ref x, .ref a, .ref b, .int 1] ∧ H x = some (.ins (ga K "Lags") dx []) ∧ SqT K H a (ns.map fun n => .int (n : Nat)) ∧ SqT K H b [] ∧ (∀ n ∈ ns, n ≤ 1000) ∧ ns.length ≤ 1000 ∧
  ∀ H' tv s, (∀ c o, c ≠ x → H c = some o → H' c = some o) → H' x = some (.ins (ga K "Lags") dx [("form", tv)]) → FormAt K H' tv (fun k => decide (k ∈ ns)) s 1 → s ≤ 1001 → Q .non H'
theorem ok_Lags_init (E : Env K mg base) : FnOk P w K mg base CX0 3 (ma K (ga K "Lags") "__init__") (fdAt K (ma K (ga K "Lags") "__init__")) ["self", "single", "again", "period"] ((sp_li K)) := by
  refine okD (f_Lags_init E) sc_Lags_init (fun cdv A outer s H vs Q X hr h => ?_) (fun vs H Q X h => by obtain ⟨_, _, _, _, _, rfl, _⟩ := h; rfl)
  obtain ⟨x, dx, a, b, ns, rfl, hx, hA, hB, hn, hnl, q⟩ := h
  refine ⟨_, (pss_cons (ps_expr (pe_call (ok_check_numbers E) (hr.mono (by decide)) rfl (g_check_numbers E) (f_check_numbers E).kp (b_check_numbers E) .nil pass0 (pa_cons (pv 1) pa_nil)))
      (pss_cons (ps_expr (pe_call (ok_check_numbers E) (hr.mono (by decide)) rfl (g_check_numbers E) (f_check_numbers E).kp (b_check_numbers E) .nil pass0 (pa_cons (pv 2) pa_nil)))
      (pss_cons (ps_if (PW.pt (pw_or (pt_not (pt_val (pe_call (ok_is_integer E) (hr.mono (by decide)) rfl (g_is_integer E) (f_is_integer E).kp (b_is_integer E) .nil pass0 (pa_cons (pv 3) pa_nil)))) (pw_or1 (pt_not (pt_chain op_le op_le pe_int (pv 3) (pe_gi (i_MOST_PERIOD E))))))) (pss_one ps_never) pss_nil)
      (pss_cons (ps_set (i := 4) sc_Lags_init.nd rfl (Or.inl rfl) (pe_op op_add (pe_callB (maxK K) rfl (n_max E) boot_max (pa_cons (pe_lst (pa_cons (pe_un un_neg pe_int) (StX.pa_star (pv 1) (StX.pa_star (pv 2) pa_nil)))) pa_nil)) pe_int))
      (pss_one (ps_fld (pv 0) (pe_call (ok_least_form E) (hr.mono (by decide)) rfl (g_least_form E) (f_least_form E).kp (b_least_form E) .nil pass0 (pa_cons (pe_call (ok_flags_of E) (hr.mono (by decide)) rfl (g_flags_of E) (f_flags_of E).kp (b_flags_of E) .nil pass0 (pa_cons (pv 1) (pa_cons (pv 2) (pa_cons (pv 4) (pa_cons (pv 3) pa_nil))))) (pa_cons (pv 4) (pa_cons (pv 3) pa_nil)))) rfl)))))), ?_⟩
  refine ⟨_, rfl, a, ns, rfl, hA, hn, fun H1 s1 => ?_⟩
  refine ⟨_, rfl, b, [], rfl, sT s1 hB, (fun n h => nomatch h), fun H2 s2 => ?_⟩
  have s02 := s1.trans s2
  refine ⟨_, rfl, _, rfl, _, rfl, ite_f (b := !true) rfl ?_⟩
  refine ⟨_, rfl, _, _, rfl, rfl, _, rfl, ite_t (decide_eq_true (by omega)) ⟨_, _, rfl, rfl, _, rfl, ite_f (b := !decide ((1 : Int) ≤ 60)) rfl ?_⟩⟩
  have e3 : sizeLine = 16777216 := sizeLine_eq
  refine ⟨_, rfl, _, rfl, a, _, rfl, .inl (Same.seqT s02 hA), _, rfl, b, _, rfl, .inl (Same.seqT s02 hB), ?_⟩
  refine ⟨by simp; omega, fun l nl => ?_⟩
  have s03 := s02.trans (sNew (o := .lst ([V.int (-1)] ++ (ns.map (fun n => V.int (n : Nat)) ++ ([] ++ [])))) nl)
  have eL : ([V.int (-1)] ++ (ns.map (fun n => V.int (n : Nat)) ++ ([] ++ []))) = ((-1 : Int) :: ns.map fun n => ((n : Nat) : Int)).map V.int := by
    simp
  refine ⟨l, ((-1 : Int) :: ns.map fun n => ((n : Nat) : Int)), rfl, ?_, by simp, fun m hm hle => ?_⟩
  · refine SqL.of ?_
    show upd H2 l _ l = _
    rw [upd_same]
    exact congrArg (fun z => some (HO.lst z)) eL
  obtain ⟨st, est, hst⟩ : ∃ st : Nat, m + 1 = (st : Int) ∧ (∀ n ∈ ns, n < st) ∧ st ≤ 1001 := by
    have h0 := hle (-1) (by simp)
    refine ⟨(m + 1).toNat, by omega, fun n h => ?_, ?_⟩
    · have := hle (n : Int) (List.mem_cons_of_mem _ (List.mem_map.mpr ⟨n, h, rfl⟩))
      omega
    · rcases List.mem_cons.mp hm with e | e
      · omega
      · obtain ⟨n, hn', e⟩ := List.mem_map.mp e
        have := hn n hn'
        omega
  have em : (fun i j : Int => V.int (i + j)) m 1 = V.int (st : Int) := congrArg V.int est
  refine ⟨_, _, rfl, rfl, ?_⟩
  rw [em]
  have hRf : Rep (fun k => decide (k ∈ ns)) st 1 ((List.range (st + 1)).map fun k => decide (k ∈ ns)) := {
    len := by rw [List.length_map, List.length_range]
    pos := by omega
    at_ := fun k hk => by rw [List.getElem?_map, List.getElem?_range hk]; rfl
    per := fun k hk => by
      have n1 : ¬ (k + 1 ∈ ns) := fun h => by have := hst.1 _ h; omega
      have n2 : ¬ (k ∈ ns) := fun h => by have := hst.1 _ h; omega
      simp only [n1, n2] }
  refine ⟨_, rfl, _, rfl, _, rfl, _, rfl, a, b, ns, st, 1, rfl, .inl (sT s03 hA), sT s03 hB, fun n h => by have := hst.1 n h; omega, by omega, fun l2 H3 s3 h3 => ?_⟩
  refine ⟨_, rfl, _, rfl, l2, st, 1, _, _, rfl, SqL.of h3, hRf, by omega, fun v s' q' H4 s4 hF l1 hd _ => ?_⟩
  have e1 : q' = 1 := Nat.dvd_one.mp hd
  subst e1
  have s04 := (s03.trans s3).trans s4
  refine ⟨_, rfl, x, ga K "Lags", dx, [], rfl, s04 _ _ hx, c_Lags E, a_Lags_form E, (by show 0 < 1000; decide), ?_⟩
  exact q _ v s' (fun c o hc e => by rw [upd_ne hc]; exact s04 c o e) upd_same (hF.monoT fun c xs h => sqT_ins (s04 _ _ hx) h) (by omega)
/-- Lags(), its defaults -/
theorem bL0 (E : Env K mg base) : ∃ ds, Vals [.ref (dfl0 K), .ref (dfl1 K), .int 1] ds ∧ Binds K (fdAt K (ma K (ga K "Lags") "__init__")) ["self", "single", "again", "period"] ds :=
  FunD.binds1 (ps := ["self", "single", "again", "period"]) (f_Lags_init E) 1 0 (by simp) rfl fun _ _ _ _ _ _ _ us its hu hi => match us, its, hu, hi with | [_], [_, _, _], _, _ => ⟨_, rfl, rfl⟩
/-- Lags((0,)) -/
theorem bL1 (E : Env K mg base) : ∃ ds, Vals [.ref (dfl1 K), .int 1] ds ∧ Binds K (fdAt K (ma K (ga K "Lags") "__init__")) ["self", "single", "again", "period"] ds :=
  FunD.binds1 (ps := ["self", "single", "again", "period"]) (f_Lags_init E) 2 1 (by simp) rfl fun _ _ _ _ _ _ _ us its hu hi => match us, its, hu, hi with | [_, _], [_, _, _], _, _ => ⟨_, rfl, rfl⟩
theorem sc_FormedLags_init : FnScope ["self", "form"] ["self", "form"] (defScope s_FormedLags_init) := ⟨rfl, rfl, rfl, by decide +kernel, rfl, by decide +kernel, by decide +kernel⟩
theorem b_FormedLags_init (E : Env K mg base) : Binds K (fdAt K (ma K (ga K "FormedLags") "__init__")) ["self", "form"] [] := (f_FormedLags_init E).bindsN fun _ _ _ _ _ _ us hl => match us, hl with | [_, _], _ => rfl
def sp_fi (K : PySem.W.Frag) : Sp := fun vs H Q _ => ∃ (x dx : Addr) (v : V), vs = [.ref x, v] ∧ H x = some (.ins (ga K "FormedLags") dx []) ∧ Q .non (upd H x (.ins (ga K "FormedLags") dx [("form", v)]))
theorem ok_FormedLags_init (E : Env K mg base) : FnOk P w K mg base CX0 1 (ma K (ga K "FormedLags") "__init__") (fdAt K (ma K (ga K "FormedLags") "__init__")) ["self", "form"] ((sp_fi K)) := by
  refine okD (f_FormedLags_init E) sc_FormedLags_init (fun cdv A outer s H vs Q X hr h => ?_) (fun vs H Q X h => by obtain ⟨_, _, _, rfl, _⟩ := h; rfl)
  obtain ⟨x, dx, v, rfl, hx, q⟩ := h
  refine ⟨_, (pss_one (ps_fld (pv 0) (pv 1) rfl)), ?_⟩
  exact ⟨_, rfl, _, rfl, x, _, dx, [], rfl, hx, c_FormedLags E, a_FormedLags_form E, (by show 0 < 1000; decide), q⟩
theorem sc_lags_with : FnScope ["form"] ["form"] (defScope s_lags_with) := ⟨rfl, rfl, rfl, by decide +kernel, rfl, by decide +kernel, by decide +kernel⟩
theorem b_lags_with (E : Env K mg base) : Binds K (fdAt K (ga K "lags_with")) ["form"] [] := (f_lags_with E).bindsN fun _ _ _ _ _ _ us hl => match us, hl with | [_], _ => rfl
def sp_lw (K : PySem.W.Frag) : Sp := fun vs H Q _ => ∃ (v : V) (f : Nat → Bool) (s p : Nat), vs = [v] ∧ FormAt K H v f s p ∧ ∀ x H', Same H H' → LagSP K H' x f s p → Q x H'
theorem made_same {H : Hp} {x dx C : Addr} {fs : List (Str × V)} (hx : H x = none) (hd : H dx = none) (ne : dx ≠ x) : Same H (upd (upd (upd H dx (.own x)) x (.ins C dx [])) x (.ins C dx fs)) := by
  rw [upd_upd]
  exact sMut (sNew hd) hx
theorem ok_lags_with (E : Env K mg base) : FnOk P w K mg base CX0 3 (ga K "lags_with") (fdAt K (ga K "lags_with")) ["form"] ((sp_lw K)) := by
  refine okD (f_lags_with E) sc_lags_with (fun cdv A outer s H vs Q X hr h => ?_) (fun vs H Q X h => by obtain ⟨_, _, _, _, rfl, _⟩ := h; rfl)
  obtain ⟨v, f, s, p, rfl, hF, q⟩ := h
  refine ⟨_, (pss_one (ps_ret (pe_make (k_FormedLags E) (ok_FormedLags_init E) (hr.mono (by decide)) rfl (g_FormedLags E) (b_FormedLags_init E) .nil pass0 (pa_cons (pv 0) pa_nil)))), ?_⟩
  refine ⟨_, rfl, fun x dx hx hd ne => ⟨x, dx, v, rfl, upd_same, rfl, ?_⟩⟩
  have s1 : Same H (upd (upd (upd H dx (.own x)) x (.ins (ga K "FormedLags") dx [])) x (.ins (ga K "FormedLags") dx [("form", v)])) := made_same hx hd ne
  exact q (.ref x) _ s1 ⟨x, _, dx, v, rfl, .inr rfl, upd_same, hF.mono (sameI s1)⟩
theorem sc_lags_of : FnScope ["members", "start", "period"] ["members", "start", "period"] (defScope s_lags_of) := ⟨rfl, rfl, rfl, by decide +kernel, rfl, by decide +kernel, by decide +kernel⟩
theorem b_lags_of (E : Env K mg base) : Binds K (fdAt K (ga K "lags_of")) ["members", "start", "period"] [] := (f_lags_of E).bindsN fun _ _ _ _ _ _ us hl => match us, hl with | [_, _, _], _ => rfl
def sp_lo (K : PySem.W.Frag) : Sp := fun vs H Q _ => ∃ (a : Addr) (ns : List Nat) (f : Nat → Bool) (s p : Nat), vs = [.ref a, .int s, .int p] ∧ SqL K H a (ns.map fun n => .int (n : Nat)) ∧ (∀ n ∈ ns, n < s + p) ∧ s + p ≤ 1000000 ∧ 0 < p ∧ (∀ k, k < s + p → f k = decide (k ∈ ns)) ∧ Per f s p ∧
  ∀ x s' q H', Same H H' → LagSP K H' x f s' q → s' ≤ s → q ∣ p → (∀ r, 0 < r → r ∣ p → Per f s r → q ≤ r) → Q x H'
theorem ok_lags_of (E : Env K mg base) : FnOk P w K mg base CX0 4 (ga K "lags_of") (fdAt K (ga K "lags_of")) ["members", "start", "period"] ((sp_lo K)) := by
  refine okD (f_lags_of E) sc_lags_of (fun cdv A outer s H vs Q X hr h => ?_) (fun vs H Q X h => by obtain ⟨_, _, _, _, _, rfl, _⟩ := h; rfl)
  obtain ⟨a, ns, f, s, p, rfl, hA, hn, hz, hp, hf, hper, q⟩ := h
  have hRf : Rep f s p ((List.range (s + p)).map fun k => decide (k ∈ ns)) := {
    len := by rw [List.length_map, List.length_range]
    pos := hp
    at_ := fun k hk => by rw [List.getElem?_map, List.getElem?_range hk, hf k hk]; rfl
    per := hper }
  refine ⟨_, (pss_one (ps_ret (pe_call (ok_lags_with E) (hr.mono (by decide)) rfl (g_lags_with E) (f_lags_with E).kp (b_lags_with E) .nil pass0 (pa_cons (pe_call (ok_least_form E) (hr.mono (by decide)) rfl (g_least_form E) (f_least_form E).kp (b_least_form E) .nil pass0 (pa_cons (pe_call (ok_flags_of E) (hr.mono (by decide)) rfl (g_flags_of E) (f_flags_of E).kp (b_flags_of E) .nil pass0 (pa_cons (pv 0) (pa_cons (pe_tup pa_nil) (pa_cons (pv 1) (pa_cons (pv 2) pa_nil))))) (pa_cons (pv 1) (pa_cons (pv 2) pa_nil)))) pa_nil)))), ?_⟩
  refine ⟨_, rfl, (by show 0 ≤ sizeLine; omega), fun t nt => ⟨_, rfl, _, rfl, a, t, ns, s, p, rfl, .inr ((sNew nt).seq hA), SqT.of upd_same, hn, hz, fun l H1 s1 h1 => ?_⟩⟩
  refine ⟨_, rfl, _, rfl, l, s, p, _, f, rfl, SqL.of h1, hRf, hz, fun v s' d H2 s2 hF l1 hd hm => ?_⟩
  refine ⟨v, f, s', d, rfl, hF, fun x H3 s3 hL => ?_⟩
  exact q x s' d H3 ((((sNew nt).trans s1).trans s2).trans s3) hL l1 hd hm
theorem sc_left_of : FnScope ["lags", "others"] ["lags", "others"] (defScope s_left_of) := ⟨rfl, rfl, rfl, by decide +kernel, rfl, by decide +kernel, by decide +kernel⟩
theorem b_left_of (E : Env K mg base) : Binds K (fdAt K (ga K "left_of")) ["lags", "others"] [] := (f_left_of E).bindsN fun _ _ _ _ _ _ us hl => match us, hl with | [_, _], _ => rfl
def sp_left (K : PySem.W.Frag) : Sp := fun vs H Q _ => ∃ (u v : V) (f g : Nat → Bool), vs = [u, v] ∧ LagAt K H u f ∧ LagAt K H v g ∧ ∀ x H', Same H H' → LagAt K H' x (fun k => f k && !g k) → Q x H'
theorem ok_left_of (E : Env K mg base) : FnOk P w K mg base CX0 4 (ga K "left_of") (fdAt K (ga K "left_of")) ["lags", "others"] ((sp_left K)) := by
  refine okD (f_left_of E) sc_left_of (fun cdv A outer s H vs Q X hr h => ?_) (fun vs H Q X h => by obtain ⟨_, _, _, _, rfl, _⟩ := h; rfl)
  obtain ⟨u, v, f, g, rfl, ⟨s, p, hu, l1, d1⟩, ⟨t, r, hv, l2, d2⟩, q⟩ := h
  refine ⟨_, (pss_one (ps_ret (pe_call (ok_lags_with E) (hr.mono (by decide)) rfl (g_lags_with E) (f_lags_with E).kp (b_lags_with E) .nil pass0 (pa_cons (pe_call (ok_form_left E) (hr.mono (by decide)) rfl (g_form_left E) (f_form_left E).kp (b_form_left E) .nil pass0 (pa_cons (pv 0) (pa_cons (pv 1) pa_nil))) pa_nil)))), ?_⟩
  refine ⟨_, rfl, _, rfl, u, v, f, g, s, p, t, r, rfl, hu, hv, l1, l2, d1, d2, fun x s' p' H1 s1 hF l3 d3 => ?_⟩
  exact ⟨x, _, s', p', rfl, hF, fun y H2 s2 hL => q y H2 (s1.trans s2) ⟨s', p', hL, l3, d3⟩⟩
theorem sc_check_lags : FnScope ["value"] ["value"] (defScope s_check_lags) := ⟨rfl, rfl, rfl, by decide +kernel, rfl, by decide +kernel, by decide +kernel⟩
theorem b_check_lags (E : Env K mg base) : Binds K (fdAt K (ga K "check_lags")) ["value"] [] := (f_check_lags E).bindsN fun _ _ _ _ _ _ us hl => match us, hl with | [_], _ => rfl
def sp_cl (K : PySem.W.Frag) : Sp := fun vs H Q _ => ∃ (v : V) (f : Nat → Bool), vs = [v] ∧ LagAt K H v f ∧ Q .non H
theorem ok_check_lags (E : Env K mg base) : FnOk P w K mg base CX0 5 (ga K "check_lags") (fdAt K (ga K "check_lags")) ["value"] ((sp_cl K)) := by
  refine okD (f_check_lags E) sc_check_lags (fun cdv A outer s H vs Q X hr h => ?_) (fun vs H Q X h => by obtain ⟨_, _, rfl, _⟩ := h; rfl)
  obtain ⟨v, f, rfl, ⟨s, p, ⟨a, C, dx, tv, rfl, hC, h1, h2⟩, _⟩, q⟩ := h
  refine ⟨_, (pss_one (ps_if (pt_not (pt_val (pe_callB (call_isOwn (qi_Lags E)) rfl (n_isinstance E) boot_isinstance (pa_cons (pv 0) (pa_cons (pe_glob (v := .ref (ga K "Lags")) rfl (g_Lags E) rfl) pa_nil))))) (pss_one ps_never) pss_nil)), ?_⟩
  exact ⟨_, rfl, a, C, dx, _, rfl, hC, h1, _, rfl, ite_f (b := !true) rfl q⟩
theorem sc_Lags_start : FnScope ["self"] ["self"] (defScope s_Lags_start) := ⟨rfl, rfl, rfl, by decide +kernel, rfl, by decide +kernel, by decide +kernel⟩
theorem bp_Lags_start (E : Env K mg base) : Binds K (fdAt K (pa K (ga K "Lags") "start")) ["self"] [] := (f_Lags_start E).bindsN fun _ _ _ _ _ _ us hl => match us, hl with | [_], _ => rfl
def sp_ps (K : PySem.W.Frag) : Sp := fun vs H Q _ => ∃ (v : V) (f : Nat → Bool) (s p : Nat), vs = [v] ∧ LagSP K H v f s p ∧ Q (.int s) H
theorem ok_Lags_start (E : Env K mg base) : FnOk P w K mg base CX0 1 (pa K (ga K "Lags") "start") (fdAt K (pa K (ga K "Lags") "start")) ["self"] ((sp_ps K)) := by
  refine okD (f_Lags_start E) sc_Lags_start (fun cdv A outer s H vs Q X hr h => ?_) (fun vs H Q X h => by obtain ⟨_, _, _, _, rfl, _⟩ := h; rfl)
  obtain ⟨v, f, s, p, rfl, hL, q⟩ := h
  refine ⟨_, (pss_one (ps_ret (pe_ix (ixT K) (pe_fldK K (pv 0)) pe_int (fun _ _ => rfl)))), ?_⟩
  refine lag_form E hL (fun Q' q => ⟨v, rfl, q⟩) fun tv ⟨t, tf, fl, e, h1, h2, r⟩ => ?_
  subst e
  exact ⟨t, _, _, .int s, rfl, rfl, h1, rfl, q⟩
theorem sc_Lags_period : FnScope ["self"] ["self"] (defScope s_Lags_period) := ⟨rfl, rfl, rfl, by decide +kernel, rfl, by decide +kernel, by decide +kernel⟩
theorem bp_Lags_period (E : Env K mg base) : Binds K (fdAt K (pa K (ga K "Lags") "period")) ["self"] [] := (f_Lags_period E).bindsN fun _ _ _ _ _ _ us hl => match us, hl with | [_], _ => rfl
def sp_pp (K : PySem.W.Frag) : Sp := fun vs H Q _ => ∃ (v : V) (f : Nat → Bool) (s p : Nat), vs = [v] ∧ LagSP K H v f s p ∧ Q (.int p) H
theorem ok_Lags_period (E : Env K mg base) : FnOk P w K mg base CX0 1 (pa K (ga K "Lags") "period") (fdAt K (pa K (ga K "Lags") "period")) ["self"] ((sp_pp K)) := by
  refine okD (f_Lags_period E) sc_Lags_period (fun cdv A outer s H vs Q X hr h => ?_) (fun vs H Q X h => by obtain ⟨_, _, _, _, rfl, _⟩ := h; rfl)
  obtain ⟨v, f, s, p, rfl, hL, q⟩ := h
  refine ⟨_, (pss_one (ps_ret (pe_ix (ixT K) (pe_fldK K (pv 0)) pe_int (fun _ _ => rfl)))), ?_⟩
  refine lag_form E hL (fun Q' q => ⟨v, rfl, q⟩) fun tv ⟨t, tf, fl, e, h1, h2, r⟩ => ?_
  subst e
  exact ⟨t, _, _, .int p, rfl, rfl, h1, rfl, q⟩
end
end Own
set_option Elab.async false
set_option linter.all false
set_option maxRecDepth 100000
set_option maxHeartbeats 4000000
/-! lag sets: members, first, in, within -/
namespace Own
open PySem PySem.Spec PyProof.Rows L2 He OwnR
section
variable {P : Program} {w : World} {K : PySem.W.Frag} {mg : Str → Option Value} {base : Heap}
theorem sc_Lags_members : FnScope ["self", "k", "flag"] ["self"] (defScope s_Lags_members) := ⟨rfl, rfl, rfl, by decide +kernel, rfl, by decide +kernel, by decide +kernel⟩
theorem bp_Lags_members (E : Env K mg base) : Binds K (fdAt K (pa K (ga K "Lags") "members")) ["self"] [] := (f_Lags_members E).bindsN fun _ _ _ _ _ _ us hl => match us, hl with | [_], _ => rfl
def sp_pm (K : PySem.W.Frag) : Sp := fun vs H Q _ => ∃ (v : V) (f : Nat → Bool) (s p : Nat), vs = [v] ∧ LagSP K H v f s p ∧ s + p ≤ 1000000 ∧ ∀ a H', Same H H' → SqT K H' a (((List.range (s + p)).filter f).map fun k => .int (k : Nat)) → Q (.ref a) H'
theorem ok_Lags_members (E : Env K mg base) : FnOk P w K mg base CX0 1 (pa K (ga K "Lags") "members") (fdAt K (pa K (ga K "Lags") "members")) ["self"] ((sp_pm K)) := by
  refine okD (f_Lags_members E) sc_Lags_members (fun cdv A outer s H vs Q X hr h => ?_) (fun vs H Q X h => by obtain ⟨_, _, _, _, rfl, _⟩ := h; rfl)
  obtain ⟨v, f, s, p, rfl, hL, hz, q⟩ := h
  refine ⟨_, (pss_one (ps_ret (pe_callTy (tupK K) rfl (n_tuple E) boot_tuple (pa_cons (pe_lc (own := [("k", 1), ("flag", 2)]) (g := (gTup K 2 (gCons (gName 1) (gCons (gName 2) gNil)))) rfl sc_Lags_members.nd (pi_enumT rfl (n_enumerate E) (pa_cons (pe_ix (ixT K) (pe_fldK K (pv 0)) pe_int (fun _ _ => rfl)) pa_nil)) (blkOk_by (own := [("k", 1), ("flag", 2)]) (N := (["self", "k", "flag"] : List Str)) (sc := defScope s_Lags_members) (by decide +kernel)) (fun _ _ _ _ _ => (pg_tup rfl (pgs_cons (pg_name (i := 1) sc_Lags_members.nd rfl (Or.inl rfl)) (pgs_cons (pg_name (i := 2) sc_Lags_members.nd rfl (Or.inl rfl)) pgs_nil)))) (fun _ _ _ _ _ => (pts_one (pt_val (pv 2)))) (fun _ _ _ _ _ => (pv 1))) pa_nil)))), ?_⟩
  refine lag_form E hL (fun Q' q => ⟨v, rfl, q⟩) fun tv ⟨t, tf, fl, e, h1, h2, r⟩ => ?_
  subst e
  refine ⟨t, _, _, .ref tf, rfl, rfl, h1, rfl, tf, _, rfl, h2, fun D hD => ?_⟩
  refine lc_map (walk_enumT (K := K) (a := tf) (xs := fl.map V.bl)) hD (fun k => .int (k : Nat)) f (by rw [List.length_map, r.len]; exact hz) (fun H s => sT s h2) ?_ ?_
  · rintro k x H2 H3 Nk Ns hk s2 ⟨T, y, z, rfl, hT, rfl, e1, e2⟩ k1 k2
    have hk' : k < s + p := by rw [List.length_map, r.len] at hk; exact hk
    obtain ⟨b, eb, rfl⟩ := map_get e2
    have eb' : b = f k := by
      have := r.at_ k hk'
      rw [this] at eb
      exact (Option.some.inj eb).symm
    obtain rfl : V.int (k : Int) = y := Option.some.inj e1
    subst eb'
    refine ⟨T, _, rfl, SqT.of upd_same, rfl, _, _, rfl, _, _, rfl, rfl, rfl, _, rfl, _, rfl, ?_⟩
    cases hb : f k with
    | true => exact ite_t rfl ⟨_, rfl, k1 hb _ (sNew hT)⟩
    | false => exact ite_f rfl (k2 hb _ (sNew hT))
  · intro H2 s2 h2
    rw [List.length_map, r.len] at h2
    exact ⟨D, _, rfl, .inl ⟨SqL.of h2, fun l hl => q l _ (s2.trans (sNew hl)) (SqT.of upd_same)⟩⟩
theorem sc_Lags_first : FnScope ["self"] ["self"] (defScope s_Lags_first) := ⟨rfl, rfl, rfl, by decide +kernel, rfl, by decide +kernel, by decide +kernel⟩
theorem bp_Lags_first (E : Env K mg base) : Binds K (fdAt K (pa K (ga K "Lags") "first")) ["self"] [] := (f_Lags_first E).bindsN fun _ _ _ _ _ _ us hl => match us, hl with | [_], _ => rfl
/-- the least, or None -/
def sp_pf (K : PySem.W.Frag) : Sp := fun vs H Q _ => ∃ (v : V) (f : Nat → Bool), vs = [v] ∧ LagAt K H v f ∧ (∀ H', Same H H' → (∀ k, f k = false) → Q .non H') ∧ ∀ k H', Same H H' → f k = true → (∀ j, j < k → f j = false) → k < 40000 → Q (.int (k : Nat)) H'
theorem filter_first {f : Nat → Bool} : ∀ {n : Nat}, (∃ k, k < n ∧ f k = true) → ∃ k l, k < n ∧ (List.range n).filter f = k :: l ∧ f k = true ∧ ∀ j, j < k → f j = false
  | 0, h => by obtain ⟨k, h, _⟩ := h; omega
  | n + 1, h => by
    by_cases c : ∃ k, k < n ∧ f k = true
    · obtain ⟨k, l, h0, h1, h2, h3⟩ := filter_first c
      refine ⟨k, l ++ [n].filter f, by omega, ?_, h2, h3⟩
      rw [List.range_succ, List.filter_append, h1]; rfl
    · obtain ⟨k, h1, h2⟩ := h
      have e : k = n := by
        have : ¬ k < n := fun z => c ⟨k, z, h2⟩
        omega
      subst e
      have h0 : (List.range k).filter f = [] := List.filter_eq_nil_iff.mpr fun j hj hf => c ⟨j, List.mem_range.mp hj, hf⟩
      refine ⟨k, [], by omega, ?_, h2, fun j hj => ?_⟩
      · rw [List.range_succ, List.filter_append, h0, List.filter_cons, if_pos h2]; rfl
      · cases hb : f j with
        | false => rfl
        | true => exact absurd ⟨j, hj, hb⟩ c
theorem LagAt.of {H : Hp} {v : V} {f : Nat → Bool} {s p : Nat} (h : LagSP K H v f s p) (a : s ≤ 10000) (b : p ∣ LL) : LagAt K H v f := ⟨s, p, h, a, b⟩
theorem rep_any {f : Nat → Bool} {s p : Nat} {fl : List Bool} (r : Rep f s p fl) : fl.any id = true ↔ ∃ k, k < s + p ∧ f k = true := by
  rw [List.any_eq_true]
  constructor
  · rintro ⟨b, hb, e⟩
    obtain ⟨k, hk, e2⟩ := List.mem_iff_getElem.mp hb
    have hl : k < s + p := by rw [← r.len]; exact hk
    refine ⟨k, hl, ?_⟩
    have e3 := r.at_ k hl
    rw [List.getElem?_eq_getElem hk, e2] at e3
    rw [← Option.some.inj e3]
    exact e
  · rintro ⟨k, hk, e⟩
    exact ⟨true, List.mem_of_getElem? (by rw [r.at_ k hk, e]), rfl⟩
theorem rep_none {f : Nat → Bool} {s p : Nat} {fl : List Bool} (r : Rep f s p fl) (h : ∀ k, k < s + p → f k = false) : ∀ k, f k = false := by
  intro k
  rw [← r.mem k]
  show (if k < s + p then fl.getD k false else fl.getD (s + (k - s) % p) false) = false
  have g : ∀ j, j < s + p → fl.getD j false = false := fun j hj => by
    rw [List.getD_eq_getElem?_getD, r.at_ j hj, h j hj]; rfl
  have hm : (k - s) % p < p := Nat.mod_lt _ r.pos
  split
  · exact g _ ‹_›
  · exact g _ (by omega)
theorem ok_Lags_first (E : Env K mg base) : FnOk P w K mg base CX0 3 (pa K (ga K "Lags") "first") (fdAt K (pa K (ga K "Lags") "first")) ["self"] ((sp_pf K)) := by
  refine okD (f_Lags_first E) sc_Lags_first (fun cdv A outer s H vs Q X hr h => ?_) (fun vs H Q X h => by obtain ⟨_, _, rfl, _⟩ := h; rfl)
  obtain ⟨v, f, rfl, ⟨s, p, hL, hs, hp⟩, q0, q1⟩ := h
  have lp : p ≤ 27720 := Nat.le_of_dvd (by decide) hp
  refine ⟨_, (pss_one (ps_ret (pe_ifExp (pt_val (pe_callB (anyTK K) rfl (n_any E) boot_any (pa_cons (pe_ix (ixT K) (pe_fldK K (pv 0)) pe_int (fun _ _ => rfl)) pa_nil))) (pe_ix (ixT K) (pe_prL (pv 0) (q_members E) (ok_Lags_members E) (hr.mono (by decide)) (bp_Lags_members E) rfl) pe_int (fun _ _ => rfl)) pe_non))), ?_⟩
  refine lag_form E hL (fun Q' q => ⟨v, rfl, q⟩) fun tv ⟨t, tf, fl, e, h1, h2, r⟩ => ?_
  subst e
  refine ⟨t, _, _, .ref tf, rfl, rfl, h1, rfl, tf, fl, rfl, h2, _, rfl, ?_⟩
  refine ite2 (fun c => ?_) (fun c => ?_)
  · obtain ⟨k, l, hk, e, hf, hm⟩ := filter_first ((rep_any r).mp c)
    have hL' := hL
    obtain ⟨a, C, dx, tv', rfl, hC, ha, hF⟩ := hL'
    refine ⟨_, rfl, a, C, dx, _, rfl, hC, ha, _, f, s, p, rfl, hL, by omega, fun m H1 s1 h1 => ?_⟩
    rw [e] at h1
    exact ⟨m, _, _, .int (k : Nat), rfl, rfl, h1, atN (n := 0) rfl rfl, q1 k H1 s1 hf hm (by omega)⟩
  · exact q0 H (Same.refl _) (rep_none r fun k hk => by
      cases hb : f k with
      | false => rfl
      | true => exact absurd ((rep_any r).mpr ⟨k, hk, hb⟩) c)
theorem sc_Lags_contains : FnScope ["self", "value"] ["self", "value"] (defScope s_Lags_contains) := ⟨rfl, rfl, rfl, by decide +kernel, rfl, by decide +kernel, by decide +kernel⟩
theorem b_Lags_contains (E : Env K mg base) : Binds K (fdAt K (ma K (ga K "Lags") "__contains__")) ["self", "value"] [] := (f_Lags_contains E).bindsN fun _ _ _ _ _ _ us hl => match us, hl with | [_, _], _ => rfl
def sp_ct (K : PySem.W.Frag) : Sp := fun vs H Q _ => ∃ (v : V) (f : Nat → Bool) (i : Int), vs = [v, .int i] ∧ LagAt K H v f ∧ Q (.bl (decide (0 ≤ i) && f i.toNat)) H
theorem ok_Lags_contains (E : Env K mg base) : FnOk P w K mg base CX0 2 (ma K (ga K "Lags") "__contains__") (fdAt K (ma K (ga K "Lags") "__contains__")) ["self", "value"] ((sp_ct K)) := by
  refine okD (f_Lags_contains E) sc_Lags_contains (fun cdv A outer s H vs Q X hr h => ?_) (fun vs H Q X h => by obtain ⟨_, _, _, rfl, _⟩ := h; rfl)
  obtain ⟨v, f, i, rfl, ⟨s, p, hL, hs, hp⟩, q⟩ := h
  refine ⟨_, (pss_one (ps_ret (pe_and (pe_call (ok_is_integer E) (hr.mono (by decide)) rfl (g_is_integer E) (f_is_integer E).kp (b_is_integer E) .nil pass0 (pa_cons (pv 1) pa_nil)) (pe_and (pe_cmpR op_ge (pv 1) pe_int (nomark _)) (pe_one (pe_call (ok_flag_at E) (hr.mono (by decide)) rfl (g_flag_at E) (f_flag_at E).kp (b_flag_at E) .nil pass0 (pa_cons (pe_fldK K (pv 0)) (pa_cons (pv 1) pa_nil)))))))), ?_⟩
  refine ⟨_, rfl, i, rfl, _, rfl, ite_t rfl ⟨_, rfl, _, _, rfl, rfl, _, rfl, ?_⟩⟩
  by_cases c : 0 ≤ i
  · rw [decide_eq_true c, Bool.true_and] at q
    obtain ⟨k, rfl⟩ := Int.eq_ofNat_of_zero_le c
    refine ite_t (decide_eq_true c) ?_
    refine lag_form E hL (fun Q' q => ⟨v, rfl, q⟩) fun tv hF => ?_
    exact ⟨_, rfl, tv, f, s, p, k, rfl, hF, q⟩
  · rw [decide_eq_false c, Bool.false_and] at q
    refine ite_f (decide_eq_false c) ?_
    have e : (V.bl (decide (i ≥ 0))) = .bl false := congrArg V.bl (decide_eq_false c)
    first | exact q | (rw [e]; exact q)
theorem sc_Lags_within : FnScope ["self", "other"] ["self", "other"] (defScope s_Lags_within) := ⟨rfl, rfl, rfl, by decide +kernel, rfl, by decide +kernel, by decide +kernel⟩
theorem b_Lags_within (E : Env K mg base) : Binds K (fdAt K (ma K (ga K "Lags") "within")) ["self", "other"] [] := (f_Lags_within E).bindsN fun _ _ _ _ _ _ us hl => match us, hl with | [_, _], _ => rfl
def sp_wi (K : PySem.W.Frag) : Sp := fun vs H Q _ => ∃ (u v : V) (f g : Nat → Bool), vs = [u, v] ∧ LagAt K H u f ∧ LagAt K H v g ∧ (∀ k, f k = true → g k = true) ∧ ∀ H', Same H H' → Q (.bl true) H'
theorem ok_Lags_within (E : Env K mg base) : FnOk P w K mg base CX0 6 (ma K (ga K "Lags") "within") (fdAt K (ma K (ga K "Lags") "within")) ["self", "other"] ((sp_wi K)) := by
  refine okD (f_Lags_within E) sc_Lags_within (fun cdv A outer s H vs Q X hr h => ?_) (fun vs H Q X h => by obtain ⟨_, _, _, _, rfl, _⟩ := h; rfl)
  obtain ⟨u, v, f, g, rfl, ⟨s, p, hu, l1, d1⟩, hV, hfg, q⟩ := h
  have hV' := hV
  obtain ⟨t, r, hv, l2, d2⟩ := hV'
  refine ⟨_, (pss_cons (ps_expr (pe_call (ok_check_lags E) (hr.mono (by decide)) rfl (g_check_lags E) (f_check_lags E).kp (b_check_lags E) .nil pass0 (pa_cons (pv 1) pa_nil)))
      (pss_one (ps_ret (pe_not (pe_callB (anyTK K) rfl (n_any E) boot_any (pa_cons (pe_ix (ixT K) (pe_call (ok_form_left E) (hr.mono (by decide)) rfl (g_form_left E) (f_form_left E).kp (b_form_left E) .nil pass0 (pa_cons (pv 0) (pa_cons (pv 1) pa_nil))) pe_int (fun _ _ => rfl)) pa_nil)))))), ?_⟩
  refine ⟨_, rfl, v, g, rfl, hV, ?_⟩
  refine ⟨_, rfl, _, rfl, u, v, f, g, s, p, t, r, rfl, hu, hv, l1, l2, d1, d2, fun x s' p' H1 s1 hF l3 d3 => ?_⟩
  obtain ⟨t, tf, fl, rfl, h1, h2, r⟩ := hF
  refine ⟨t, _, _, .ref tf, rfl, rfl, h1, rfl, tf, fl, rfl, h2, _, rfl, ?_⟩
  have e : fl.any id = false := by
    cases hb : fl.any id with
    | false => rfl
    | true =>
      obtain ⟨k, hk, e⟩ := (rep_any r).mp hb
      have e1 := (Bool.and_eq_true_iff.mp e)
      rw [hfg k e1.1] at e1
      exact absurd e1.2 (by decide)
  rw [e]
  exact q H1 s1
end
end Own
set_option Elab.async false
set_option linter.all false
/-! plain lines -/
namespace Own
open PySem PySem.Spec PyProof.Rows L2
structure Sta where
  name : Str
  hands : Option Nat
  timed : Bool
structure Lnk where
  src : Str
  tgt : Str
  stock : Nat
  early : Bool
structure Lin where
  sts : List Sta
  lks : List Lnk
  out : Str
def okName (z : Str) : Bool := (decide (1 ≤ z.length) && decide (z.length ≤ 8)) && ((match z.cps.toList with | [] => false | c :: _ => decide (c ∈ (Str.ofString "abcdefghijklmnopqrstuvwxyz").cps.toList)) && z.cps.toList.all fun c => decide (c ∈ ((Str.ofString "abcdefghijklmnopqrstuvwxyz") ++ (Str.ofString "0123456789")).cps.toList))
def Lin.names (L : Lin) : List Str := L.sts.map Sta.name
def hV : Option Nat → V
  | none => .non
  | some n => .int (n : Nat)
/-- what the makers ask -/
structure Lin.Ok (L : Lin) : Prop where
  nd : L.names.Nodup
  n1 : L.sts ≠ []
  n6 : L.sts.length ≤ 4
  name : ∀ s ∈ L.sts, okName s.name = true
  hands : ∀ s ∈ L.sts, ∀ n, s.hands = some n → 1 ≤ n ∧ n ≤ 3
  n12 : L.lks.length ≤ 6
  src : ∀ l ∈ L.lks, l.src ∈ L.names
  tgt : ∀ l ∈ L.lks, l.tgt ∈ L.names
  stock : ∀ l ∈ L.lks, l.stock ≤ 3
  out : L.out ∈ L.names
end Own
set_option Elab.async false
set_option linter.all false
set_option maxRecDepth 100000
set_option maxHeartbeats 4000000
/-! lines: their parts -/
namespace Own
open PySem PySem.Spec PyProof.Rows L2 He OwnR
section
variable {P : Program} {w : World} {K : PySem.W.Frag} {mg : Str → Option Value} {base : Heap}
theorem qi_Station (E : Env K mg base) : ∀ C, C = ga K "Station" → InsT K C (ga K "Station") := fun C h => by subst h; exact t_Station_Station E
theorem qi_Link (E : Env K mg base) : ∀ C, C = ga K "Link" → InsT K C (ga K "Link") := fun C h => by subst h; exact t_Link_Link E
theorem qi_Line (E : Env K mg base) : ∀ C, C = ga K "Line" → InsT K C (ga K "Line") := fun C h => by subst h; exact t_Line_Line E
theorem atNa {α : Type} {xs : List α} {n : Nat} {v : α} {i : Int} (e : i = (n : Int)) (h : xs[n]? = some v) : atI xs i = some v := by
  have hl : n < xs.length := by
    rcases Nat.lt_or_ge n xs.length with c | c
    · exact c
    · rw [List.getElem?_eq_none c] at h; cases h
  have : ixN xs.length i = some n := by
    unfold ixN
    rw [if_pos (by omega), if_pos (by omega)]
    congr 1; omega
  unfold atI
  rw [this]
  exact h
theorem sc_is_name : FnScope ["value", "sign"] ["value"] (defScope s_is_name) := ⟨rfl, rfl, rfl, by decide +kernel, rfl, by decide +kernel, by decide +kernel⟩
theorem b_is_name (E : Env K mg base) : Binds K (fdAt K (ga K "is_name")) ["value"] [] := (f_is_name E).bindsN fun _ _ _ _ _ _ us hl => match us, hl with | [_], _ => rfl
def sp_in : Sp := fun vs H Q _ => ∃ z : Str, vs = [.str z] ∧ okName z = true ∧ ∀ H', Same H H' → Q (.bl true) H'
theorem ok_is_name (E : Env K mg base) : FnOk P w K mg base CX0 4 (ga K "is_name") (fdAt K (ga K "is_name")) ["value"] (sp_in) := by
  refine okD (f_is_name E) sc_is_name (fun cdv A outer s H vs Q X hr h => ?_) (fun vs H Q X h => by obtain ⟨_, rfl, _⟩ := h; rfl)
  obtain ⟨z, rfl, hz, q⟩ := h
  have hz0 := (Bool.and_eq_true_iff.mp hz)
  have h1 := (Bool.and_eq_true_iff.mp hz0.1)
  have h2 := (Bool.and_eq_true_iff.mp hz0.2)
  have a1 := of_decide_eq_true h1.1
  have a2 := of_decide_eq_true h1.2
  have e3 : sizeLine = 16777216 := sizeLine_eq
  refine ⟨_, (pss_cons (ps_if (PW.pt (pw_or (pt_not (pt_val (pe_callB call_isi rfl (n_isinstance E) boot_isinstance (pa_cons (pv 0) (pa_cons (pe_bltn (v := .ty "str") rfl (n_str E) boot_str rfl) pa_nil))))) (pw_or (pt_not (pt_chain op_le op_le pe_int (pe_callB call_len_str rfl (n_len E) boot_len (pa_cons (pv 0) pa_nil)) (pe_gi (i_MOST_SIGNS E)))) (pw_or1 (pt_cmpR op_notIn_sign (pe_ix ix_str (pv 0) pe_int (fun _ _ => rfl)) (pe_gs (z_LETTERS E)) rfl))))) (pss_one (ps_ret pe_bl)) pss_nil)
      (pss_one (ps_ret (pe_callB (allK K) rfl (n_all E) boot_all (pa_cons (pe_lc (own := [("sign", 1)]) (g := (gName 1)) rfl sc_is_name.nd (pi_str (pv 0)) (blkOk_by (own := [("sign", 1)]) (N := (["value", "sign"] : List Str)) (sc := defScope s_is_name) (by decide +kernel)) (fun _ _ _ _ _ => (pg_name (i := 1) sc_is_name.nd rfl (Or.inl rfl))) (fun _ _ _ _ _ => pts_nil) (fun _ _ _ _ _ => (pe_cmpR op_in_sign (pv 1) (pe_op op_add_str (pe_gs (z_LETTERS E)) (pe_gs (z_DIGITS E))) rfl))) pa_nil))))), ?_⟩
  refine ⟨_, rfl, _, .ty "str", _, _, true, rfl, .ty _, .base (.str z), kit_ty (by decide +kernel), _, rfl, ite_f (b := !true) rfl ?_⟩
  refine ⟨_, rfl, z, rfl, by omega, ?_⟩
  refine ⟨_, _, rfl, rfl, _, rfl, ite_t (decide_eq_true (by omega)) ⟨_, _, rfl, rfl, _, rfl, ite_f (b := !decide ((z.length : Int) ≤ 8)) (by rw [decide_eq_true (by omega)]; rfl) ?_⟩⟩
  have h3 := h2.1
  obtain ⟨c0, rest, ec⟩ : ∃ c0 rest, z.cps.toList = c0 :: rest := by
    cases e : z.cps.toList with
    | nil => rw [e] at h3; cases h3
    | cons c r => exact ⟨c, r, rfl⟩
  rw [ec] at h3
  refine ⟨_, rfl, z, 0, c0, rfl, rfl, by omega, (by rw [ec]; exact atNa (n := 0) rfl rfl), ?_⟩
  refine ⟨c0, _, rfl, rfl, _, rfl, ite_f (b := !decide _) (congrArg not h3) ?_⟩
  refine ⟨_, rfl, z, rfl, fun D hD => ?_⟩
  have hsz : z.cps.size = z.length := rfl
  refine lc_map (walk_str (z := z)) hD (fun _ => .bl true) (fun _ => true) (by omega) (fun _ _ => trivial) ?_ ?_
  · rintro k x H2 H3 Nk Ns hk s2 ⟨rfl, c, hc, rfl⟩ k1 k2
    refine ⟨rfl, tyes_if ?_⟩
    refine ⟨_, rfl, _, _, rfl, rfl, by decide +kernel, c, _, rfl, rfl, ?_⟩
    have hm : c ∈ z.cps.toList := by
      rw [← Array.getElem?_toList] at hc
      exact List.mem_of_getElem? hc
    have := List.all_eq_true.mp h2.2 c hm
    rw [this]
    exact k1 rfl _ (Same.refl _)
  · intro H2 s2 h2
    refine ⟨D, (List.range z.cps.size).map fun _ => true, rfl, SqL.of (h2.trans ?_), ?_⟩
    · rw [filter_true, List.map_map]; rfl
    · have e : ((List.range z.cps.size).map fun _ => true).all id = true := by
        rw [List.all_eq_true]
        intro b hb
        obtain ⟨_, _, rfl⟩ := List.mem_map.mp hb
        rfl
      rw [e]
      exact q _ s2
theorem sc_check_name : FnScope ["value"] ["value"] (defScope s_check_name) := ⟨rfl, rfl, rfl, by decide +kernel, rfl, by decide +kernel, by decide +kernel⟩
theorem b_check_name (E : Env K mg base) : Binds K (fdAt K (ga K "check_name")) ["value"] [] := (f_check_name E).bindsN fun _ _ _ _ _ _ us hl => match us, hl with | [_], _ => rfl
def sp_cnm : Sp := fun vs H Q _ => ∃ z : Str, vs = [.str z] ∧ okName z = true ∧ ∀ H', Same H H' → Q .non H'
theorem ok_check_name (E : Env K mg base) : FnOk P w K mg base CX0 5 (ga K "check_name") (fdAt K (ga K "check_name")) ["value"] (sp_cnm) := by
  refine okD (f_check_name E) sc_check_name (fun cdv A outer s H vs Q X hr h => ?_) (fun vs H Q X h => by obtain ⟨_, rfl, _⟩ := h; rfl)
  obtain ⟨z, rfl, hz, q⟩ := h
  refine ⟨_, (pss_one (ps_if (pt_not (pt_val (pe_call (ok_is_name E) (hr.mono (by decide)) rfl (g_is_name E) (f_is_name E).kp (b_is_name E) .nil pass0 (pa_cons (pv 0) pa_nil)))) (pss_one ps_never) pss_nil)), ?_⟩
  exact ⟨_, rfl, z, rfl, hz, fun H' s => ⟨_, rfl, ite_f (b := !true) rfl (q H' s)⟩⟩
theorem sc_check_flag : FnScope ["value"] ["value"] (defScope s_check_flag) := ⟨rfl, rfl, rfl, by decide +kernel, rfl, by decide +kernel, by decide +kernel⟩
theorem b_check_flag (E : Env K mg base) : Binds K (fdAt K (ga K "check_flag")) ["value"] [] := (f_check_flag E).bindsN fun _ _ _ _ _ _ us hl => match us, hl with | [_], _ => rfl
def sp_cfl : Sp := fun vs H Q _ => ∃ b : Bool, vs = [.bl b] ∧ Q .non H
theorem ok_check_flag (E : Env K mg base) : FnOk P w K mg base CX0 1 (ga K "check_flag") (fdAt K (ga K "check_flag")) ["value"] (sp_cfl) := by
  refine okD (f_check_flag E) sc_check_flag (fun cdv A outer s H vs Q X hr h => ?_) (fun vs H Q X h => by obtain ⟨_, rfl, _⟩ := h; rfl)
  obtain ⟨b, rfl, q⟩ := h
  refine ⟨_, (pss_one (ps_if (pt_not (pt_val (pe_callB call_isi rfl (n_isinstance E) boot_isinstance (pa_cons (pv 0) (pa_cons (pe_bltn (v := .ty "bool") rfl (n_bool E) boot_bool rfl) pa_nil))))) (pss_one ps_never) pss_nil)), ?_⟩
  exact ⟨_, rfl, _, .ty "bool", _, _, true, rfl, .ty _, .base (.bl b), kit_ty (by decide +kernel), _, rfl, ite_f (b := !true) rfl q⟩
/-! stations -/
def StaAt (K : PySem.W.Frag) (H : Hp) (v : V) (s : Sta) : Prop := ∃ (a dx t : Addr), v = .ref a ∧ H a = some (.ins (ga K "Station") dx [("sides", .ref t)]) ∧ SqT K H t [.str s.name, hV s.hands, .bl s.timed]
theorem StaAt.mono {H H' : Hp} {v : V} {s : Sta} (h : StaAt K H v s) (e : SameI H H') : StaAt K H' v s := by
  obtain ⟨a, dx, t, rfl, h1, h2⟩ := h
  exact ⟨a, dx, t, rfl, e _ _ h1 rfl, e.seqT h2⟩
theorem sc_Station_init : FnScope ["self", "name", "hands", "timed"] ["self", "name", "hands", "timed"] (defScope s_Station_init) := ⟨rfl, rfl, rfl, by decide +kernel, rfl, by decide +kernel, by decide +kernel⟩
def sp_si (K : PySem.W.Frag) : Sp := fun vs H Q _ => ∃ (x dx : Addr) (s : Sta), vs = [.ref x, .str s.name, hV s.hands, .bl s.timed] ∧ H x = some (.ins (ga K "Station") dx []) ∧ okName s.name = true ∧ (∀ n, s.hands = some n → 1 ≤ n ∧ n ≤ 3) ∧
  ∀ H', (∀ c o, c ≠ x → H c = some o → H' c = some o) → StaAt K H' (.ref x) s → Q .non H'
theorem ok_Station_init (E : Env K mg base) : FnOk P w K mg base CX0 6 (ma K (ga K "Station") "__init__") (fdAt K (ma K (ga K "Station") "__init__")) ["self", "name", "hands", "timed"] ((sp_si K)) := by
  refine okD (f_Station_init E) sc_Station_init (fun cdv A outer s H vs Q X hr h => ?_) (fun vs H Q X h => by obtain ⟨_, _, _, rfl, _⟩ := h; rfl)
  obtain ⟨x, dx, ⟨nm, hd, tm⟩, rfl, hx, hn, hh, q⟩ := h
  refine ⟨_, (pss_cons (ps_expr (pe_call (ok_check_name E) (hr.mono (by decide)) rfl (g_check_name E) (f_check_name E).kp (b_check_name E) .nil pass0 (pa_cons (pv 1) pa_nil)))
      (pss_cons (ps_if (PW.pt (pw_and (pt_cmpR op_notN (pv 2) pe_non (nomark _)) (pw_and1 (PW.pt (pw_or (pt_not (pt_val (pe_call (ok_is_integer E) (hr.mono (by decide)) rfl (g_is_integer E) (f_is_integer E).kp (b_is_integer E) .nil pass0 (pa_cons (pv 2) pa_nil)))) (pw_or1 (pt_not (pt_chain op_le op_le pe_int (pv 2) (pe_gi (i_MOST_HANDS E)))))))))) (pss_one ps_never) pss_nil)
      (pss_cons (ps_expr (pe_call (ok_check_flag E) (hr.mono (by decide)) rfl (g_check_flag E) (f_check_flag E).kp (b_check_flag E) .nil pass0 (pa_cons (pv 3) pa_nil)))
      (pss_one (ps_fld (pv 0) (pe_tup (pa_cons (pv 1) (pa_cons (pv 2) (pa_cons (pv 3) pa_nil)))) rfl))))), ?_⟩
  refine ⟨_, rfl, nm, rfl, hn, fun H1 s1 => ?_⟩
  have fin : ∀ u, hV hd = u → ∀ t, H1 t = none → Q .non (upd (upd H1 t (.tup [.str nm, u, .bl tm])) x (.ins (ga K "Station") dx [("sides", .ref t)])) := by
    rintro u rfl t nt
    have nx : t ≠ x := fun e => by rw [e, s1 _ _ hx] at nt; cases nt
    refine q _ (fun c o hc e => ?_) ⟨x, dx, t, rfl, upd_same, SqT.of ?_⟩
    · rw [upd_ne hc]; exact sNew nt _ _ (s1 _ _ e)
    · rw [upd_ne nx]; exact upd_same
  have e3 : sizeLine = 16777216 := sizeLine_eq
  cases hd with
  | none =>
    refine ⟨_, rfl, rfl, _, rfl, ite_f (b := !decide (V.non = V.non)) rfl ?_⟩
    refine ⟨_, rfl, tm, rfl, _, rfl, _, rfl, _, rfl, by show 3 ≤ sizeLine; omega, fun t nt => ?_⟩
    exact ⟨_, rfl, x, _, dx, [], rfl, sNew nt _ _ (s1 _ _ hx), c_Station E, a_Station_sides E, (by show 0 < 1000; decide), fin _ rfl t nt⟩
  | some n =>
    have := hh n rfl
    refine ⟨_, rfl, rfl, _, rfl, ite_t (b := !decide (V.int n = V.non)) rfl ?_⟩
    refine ⟨_, rfl, _, rfl, _, rfl, ite_f (b := !true) rfl ?_⟩
    refine ⟨_, rfl, _, _, rfl, rfl, _, rfl, ite_t (decide_eq_true (by omega)) ⟨_, _, rfl, rfl, _, rfl, ite_f (b := !decide ((n : Int) ≤ 4)) (by rw [decide_eq_true (by omega)]; rfl) ?_⟩⟩
    refine ⟨_, rfl, tm, rfl, _, rfl, _, rfl, _, rfl, by show 3 ≤ sizeLine; omega, fun t nt => ?_⟩
    exact ⟨_, rfl, x, _, dx, [], rfl, sNew nt _ _ (s1 _ _ hx), c_Station E, a_Station_sides E, (by show 0 < 1000; decide), fin _ rfl t nt⟩
theorem sc_Station_name : FnScope ["self"] ["self"] (defScope s_Station_name) := ⟨rfl, rfl, rfl, by decide +kernel, rfl, by decide +kernel, by decide +kernel⟩
theorem bp_Station_name (E : Env K mg base) : Binds K (fdAt K (pa K (ga K "Station") "name")) ["self"] [] := (f_Station_name E).bindsN fun _ _ _ _ _ _ us hl => match us, hl with | [_], _ => rfl
def sp_sname (K : PySem.W.Frag) : Sp := fun vs H Q _ => ∃ (v : V) (s : Sta), vs = [v] ∧ StaAt K H v s ∧ Q (.str s.name) H
theorem ok_Station_name (E : Env K mg base) : FnOk P w K mg base CX0 1 (pa K (ga K "Station") "name") (fdAt K (pa K (ga K "Station") "name")) ["self"] ((sp_sname K)) := by
  refine okD (f_Station_name E) sc_Station_name (fun cdv A outer s H vs Q X hr h => ?_) (fun vs H Q X h => by obtain ⟨_, _, rfl, _⟩ := h; rfl)
  obtain ⟨v, s, rfl, ⟨a, dx, t, rfl, ha, ht⟩, q⟩ := h
  refine ⟨_, (pss_one (ps_ret (pe_ix (ixT K) (pe_fldK K (pv 0)) pe_int (fun _ _ => rfl)))), ?_⟩
  exact ⟨_, rfl, a, _, _, _, .ref t, rfl, ha, c_Station E, a_Station_sides E, rfl, t, _, _, _, rfl, rfl, ht, rfl, q⟩
theorem sc_Station_hands : FnScope ["self"] ["self"] (defScope s_Station_hands) := ⟨rfl, rfl, rfl, by decide +kernel, rfl, by decide +kernel, by decide +kernel⟩
theorem bp_Station_hands (E : Env K mg base) : Binds K (fdAt K (pa K (ga K "Station") "hands")) ["self"] [] := (f_Station_hands E).bindsN fun _ _ _ _ _ _ us hl => match us, hl with | [_], _ => rfl
def sp_shands (K : PySem.W.Frag) : Sp := fun vs H Q _ => ∃ (v : V) (s : Sta), vs = [v] ∧ StaAt K H v s ∧ Q (hV s.hands) H
theorem ok_Station_hands (E : Env K mg base) : FnOk P w K mg base CX0 1 (pa K (ga K "Station") "hands") (fdAt K (pa K (ga K "Station") "hands")) ["self"] ((sp_shands K)) := by
  refine okD (f_Station_hands E) sc_Station_hands (fun cdv A outer s H vs Q X hr h => ?_) (fun vs H Q X h => by obtain ⟨_, _, rfl, _⟩ := h; rfl)
  obtain ⟨v, s, rfl, ⟨a, dx, t, rfl, ha, ht⟩, q⟩ := h
  refine ⟨_, (pss_one (ps_ret (pe_ix (ixT K) (pe_fldK K (pv 0)) pe_int (fun _ _ => rfl)))), ?_⟩
  exact ⟨_, rfl, a, _, _, _, .ref t, rfl, ha, c_Station E, a_Station_sides E, rfl, t, _, _, _, rfl, rfl, ht, rfl, q⟩
theorem sc_Station_timed : FnScope ["self"] ["self"] (defScope s_Station_timed) := ⟨rfl, rfl, rfl, by decide +kernel, rfl, by decide +kernel, by decide +kernel⟩
theorem bp_Station_timed (E : Env K mg base) : Binds K (fdAt K (pa K (ga K "Station") "timed")) ["self"] [] := (f_Station_timed E).bindsN fun _ _ _ _ _ _ us hl => match us, hl with | [_], _ => rfl
def sp_stimed (K : PySem.W.Frag) : Sp := fun vs H Q _ => ∃ (v : V) (s : Sta), vs = [v] ∧ StaAt K H v s ∧ Q (.bl s.timed) H
theorem ok_Station_timed (E : Env K mg base) : FnOk P w K mg base CX0 1 (pa K (ga K "Station") "timed") (fdAt K (pa K (ga K "Station") "timed")) ["self"] ((sp_stimed K)) := by
  refine okD (f_Station_timed E) sc_Station_timed (fun cdv A outer s H vs Q X hr h => ?_) (fun vs H Q X h => by obtain ⟨_, _, rfl, _⟩ := h; rfl)
  obtain ⟨v, s, rfl, ⟨a, dx, t, rfl, ha, ht⟩, q⟩ := h
  refine ⟨_, (pss_one (ps_ret (pe_ix (ixT K) (pe_fldK K (pv 0)) pe_int (fun _ _ => rfl)))), ?_⟩
  exact ⟨_, rfl, a, _, _, _, .ref t, rfl, ha, c_Station E, a_Station_sides E, rfl, t, _, _, _, rfl, rfl, ht, rfl, q⟩
/-! links -/
def LnkAt (K : PySem.W.Frag) (H : Hp) (v : V) (s : Lnk) : Prop := ∃ (a dx t : Addr), v = .ref a ∧ H a = some (.ins (ga K "Link") dx [("sides", .ref t)]) ∧ SqT K H t [.str s.src, .str s.tgt, .int (s.stock : Nat), .bl s.early]
theorem LnkAt.mono {H H' : Hp} {v : V} {s : Lnk} (h : LnkAt K H v s) (e : SameI H H') : LnkAt K H' v s := by
  obtain ⟨a, dx, t, rfl, h1, h2⟩ := h
  exact ⟨a, dx, t, rfl, e _ _ h1 rfl, e.seqT h2⟩
theorem sc_Link_init : FnScope ["self", "source", "target", "stock", "early"] ["self", "source", "target", "stock", "early"] (defScope s_Link_init) := ⟨rfl, rfl, rfl, by decide +kernel, rfl, by decide +kernel, by decide +kernel⟩
def sp_ki (K : PySem.W.Frag) : Sp := fun vs H Q _ => ∃ (x dx : Addr) (s : Lnk), vs = [.ref x, .str s.src, .str s.tgt, .int (s.stock : Nat), .bl s.early] ∧ H x = some (.ins (ga K "Link") dx []) ∧ okName s.src = true ∧ okName s.tgt = true ∧ s.stock ≤ 3 ∧
  ∀ H', (∀ c o, c ≠ x → H c = some o → H' c = some o) → LnkAt K H' (.ref x) s → Q .non H'
theorem ok_Link_init (E : Env K mg base) : FnOk P w K mg base CX0 6 (ma K (ga K "Link") "__init__") (fdAt K (ma K (ga K "Link") "__init__")) ["self", "source", "target", "stock", "early"] ((sp_ki K)) := by
  refine okD (f_Link_init E) sc_Link_init (fun cdv A outer s H vs Q X hr h => ?_) (fun vs H Q X h => by obtain ⟨_, _, _, rfl, _⟩ := h; rfl)
  obtain ⟨x, dx, ⟨sr, tg, st, ea⟩, rfl, hx, hn, hn2, hs, q⟩ := h
  have hs' : st ≤ 3 := hs
  have e3 : sizeLine = 16777216 := sizeLine_eq
  refine ⟨_, (pss_cons (ps_expr (pe_call (ok_check_name E) (hr.mono (by decide)) rfl (g_check_name E) (f_check_name E).kp (b_check_name E) .nil pass0 (pa_cons (pv 1) pa_nil)))
      (pss_cons (ps_expr (pe_call (ok_check_name E) (hr.mono (by decide)) rfl (g_check_name E) (f_check_name E).kp (b_check_name E) .nil pass0 (pa_cons (pv 2) pa_nil)))
      (pss_cons (ps_if (PW.pt (pw_or (pt_not (pt_val (pe_call (ok_is_integer E) (hr.mono (by decide)) rfl (g_is_integer E) (f_is_integer E).kp (b_is_integer E) .nil pass0 (pa_cons (pv 3) pa_nil)))) (pw_or1 (pt_not (pt_chain op_le op_le pe_int (pv 3) (pe_gi (i_MOST_STOCK E))))))) (pss_one ps_never) pss_nil)
      (pss_cons (ps_expr (pe_call (ok_check_flag E) (hr.mono (by decide)) rfl (g_check_flag E) (f_check_flag E).kp (b_check_flag E) .nil pass0 (pa_cons (pv 4) pa_nil)))
      (pss_one (ps_fld (pv 0) (pe_tup (pa_cons (pv 1) (pa_cons (pv 2) (pa_cons (pv 3) (pa_cons (pv 4) pa_nil))))) rfl)))))), ?_⟩
  refine ⟨_, rfl, sr, rfl, hn, fun H1 s1 => ?_⟩
  refine ⟨_, rfl, tg, rfl, hn2, fun H2 s2 => ?_⟩
  have s02 := s1.trans s2
  refine ⟨_, rfl, _, rfl, _, rfl, ite_f (b := !true) rfl ?_⟩
  refine ⟨_, rfl, _, _, rfl, rfl, _, rfl, ite_t (decide_eq_true (by omega)) ⟨_, _, rfl, rfl, _, rfl, ite_f (b := !decide ((st : Int) ≤ 5)) (by rw [decide_eq_true (by omega)]; rfl) ?_⟩⟩
  refine ⟨_, rfl, ea, rfl, _, rfl, _, rfl, _, rfl, _, rfl, by show 4 ≤ sizeLine; omega, fun t nt => ?_⟩
  refine ⟨_, rfl, x, _, dx, [], rfl, sNew nt _ _ (s02 _ _ hx), c_Link E, a_Link_sides E, (by show 0 < 1000; decide), ?_⟩
  have nx : t ≠ x := fun e => by rw [e, s02 _ _ hx] at nt; cases nt
  refine q _ (fun c o hc e => ?_) ⟨x, dx, t, rfl, upd_same, SqT.of ?_⟩
  · rw [upd_ne hc]; exact sNew nt _ _ (s02 _ _ e)
  · rw [upd_ne nx]; exact upd_same
theorem sc_Link_source : FnScope ["self"] ["self"] (defScope s_Link_source) := ⟨rfl, rfl, rfl, by decide +kernel, rfl, by decide +kernel, by decide +kernel⟩
theorem bp_Link_source (E : Env K mg base) : Binds K (fdAt K (pa K (ga K "Link") "source")) ["self"] [] := (f_Link_source E).bindsN fun _ _ _ _ _ _ us hl => match us, hl with | [_], _ => rfl
def sp_ksource (K : PySem.W.Frag) : Sp := fun vs H Q _ => ∃ (v : V) (s : Lnk), vs = [v] ∧ LnkAt K H v s ∧ Q (.str s.src) H
theorem ok_Link_source (E : Env K mg base) : FnOk P w K mg base CX0 1 (pa K (ga K "Link") "source") (fdAt K (pa K (ga K "Link") "source")) ["self"] ((sp_ksource K)) := by
  refine okD (f_Link_source E) sc_Link_source (fun cdv A outer s H vs Q X hr h => ?_) (fun vs H Q X h => by obtain ⟨_, _, rfl, _⟩ := h; rfl)
  obtain ⟨v, s, rfl, ⟨a, dx, t, rfl, ha, ht⟩, q⟩ := h
  refine ⟨_, (pss_one (ps_ret (pe_ix (ixT K) (pe_fldK K (pv 0)) pe_int (fun _ _ => rfl)))), ?_⟩
  exact ⟨_, rfl, a, _, _, _, .ref t, rfl, ha, c_Link E, a_Link_sides E, rfl, t, _, _, _, rfl, rfl, ht, rfl, q⟩
theorem sc_Link_target : FnScope ["self"] ["self"] (defScope s_Link_target) := ⟨rfl, rfl, rfl, by decide +kernel, rfl, by decide +kernel, by decide +kernel⟩
theorem bp_Link_target (E : Env K mg base) : Binds K (fdAt K (pa K (ga K "Link") "target")) ["self"] [] := (f_Link_target E).bindsN fun _ _ _ _ _ _ us hl => match us, hl with | [_], _ => rfl
def sp_ktarget (K : PySem.W.Frag) : Sp := fun vs H Q _ => ∃ (v : V) (s : Lnk), vs = [v] ∧ LnkAt K H v s ∧ Q (.str s.tgt) H
theorem ok_Link_target (E : Env K mg base) : FnOk P w K mg base CX0 1 (pa K (ga K "Link") "target") (fdAt K (pa K (ga K "Link") "target")) ["self"] ((sp_ktarget K)) := by
  refine okD (f_Link_target E) sc_Link_target (fun cdv A outer s H vs Q X hr h => ?_) (fun vs H Q X h => by obtain ⟨_, _, rfl, _⟩ := h; rfl)
  obtain ⟨v, s, rfl, ⟨a, dx, t, rfl, ha, ht⟩, q⟩ := h
  refine ⟨_, (pss_one (ps_ret (pe_ix (ixT K) (pe_fldK K (pv 0)) pe_int (fun _ _ => rfl)))), ?_⟩
  exact ⟨_, rfl, a, _, _, _, .ref t, rfl, ha, c_Link E, a_Link_sides E, rfl, t, _, _, _, rfl, rfl, ht, rfl, q⟩
theorem sc_Link_stock : FnScope ["self"] ["self"] (defScope s_Link_stock) := ⟨rfl, rfl, rfl, by decide +kernel, rfl, by decide +kernel, by decide +kernel⟩
theorem bp_Link_stock (E : Env K mg base) : Binds K (fdAt K (pa K (ga K "Link") "stock")) ["self"] [] := (f_Link_stock E).bindsN fun _ _ _ _ _ _ us hl => match us, hl with | [_], _ => rfl
def sp_kstock (K : PySem.W.Frag) : Sp := fun vs H Q _ => ∃ (v : V) (s : Lnk), vs = [v] ∧ LnkAt K H v s ∧ Q (.int (s.stock : Nat)) H
theorem ok_Link_stock (E : Env K mg base) : FnOk P w K mg base CX0 1 (pa K (ga K "Link") "stock") (fdAt K (pa K (ga K "Link") "stock")) ["self"] ((sp_kstock K)) := by
  refine okD (f_Link_stock E) sc_Link_stock (fun cdv A outer s H vs Q X hr h => ?_) (fun vs H Q X h => by obtain ⟨_, _, rfl, _⟩ := h; rfl)
  obtain ⟨v, s, rfl, ⟨a, dx, t, rfl, ha, ht⟩, q⟩ := h
  refine ⟨_, (pss_one (ps_ret (pe_ix (ixT K) (pe_fldK K (pv 0)) pe_int (fun _ _ => rfl)))), ?_⟩
  exact ⟨_, rfl, a, _, _, _, .ref t, rfl, ha, c_Link E, a_Link_sides E, rfl, t, _, _, _, rfl, rfl, ht, rfl, q⟩
theorem sc_Link_early : FnScope ["self"] ["self"] (defScope s_Link_early) := ⟨rfl, rfl, rfl, by decide +kernel, rfl, by decide +kernel, by decide +kernel⟩
theorem bp_Link_early (E : Env K mg base) : Binds K (fdAt K (pa K (ga K "Link") "early")) ["self"] [] := (f_Link_early E).bindsN fun _ _ _ _ _ _ us hl => match us, hl with | [_], _ => rfl
def sp_kearly (K : PySem.W.Frag) : Sp := fun vs H Q _ => ∃ (v : V) (s : Lnk), vs = [v] ∧ LnkAt K H v s ∧ Q (.bl s.early) H
theorem ok_Link_early (E : Env K mg base) : FnOk P w K mg base CX0 1 (pa K (ga K "Link") "early") (fdAt K (pa K (ga K "Link") "early")) ["self"] ((sp_kearly K)) := by
  refine okD (f_Link_early E) sc_Link_early (fun cdv A outer s H vs Q X hr h => ?_) (fun vs H Q X h => by obtain ⟨_, _, rfl, _⟩ := h; rfl)
  obtain ⟨v, s, rfl, ⟨a, dx, t, rfl, ha, ht⟩, q⟩ := h
  refine ⟨_, (pss_one (ps_ret (pe_ix (ixT K) (pe_fldK K (pv 0)) pe_int (fun _ _ => rfl)))), ?_⟩
  exact ⟨_, rfl, a, _, _, _, .ref t, rfl, ha, c_Link E, a_Link_sides E, rfl, t, _, _, _, rfl, rfl, ht, rfl, q⟩
end
end Own
set_option Elab.async false
set_option linter.all false
/-! paths of ties: a ring without stock is none where ties without stock go up -/
namespace Own
/-- a walk along ties (by their numbers) from b: the ties, the places seen -/
inductive PathP (ps : List (Nat × Nat)) (b : Nat) : List Nat → List Nat → Prop
  | nil : PathP ps b [] [b]
  | snoc {r q : List Nat} {i s t : Nat} : PathP ps b r q → ps[i]? = some (s, t) → q.getLast? = some s → PathP ps b (r ++ [i]) (q ++ [t])
def RingP (ps : List (Nat × Nat)) (b : Nat) (r : List Nat) : Prop := ∃ r' q i s, PathP ps b r' q ∧ ps[i]? = some (s, b) ∧ q.getLast? = some s ∧ r = r' ++ [i]
theorem PathP.ne {ps : List (Nat × Nat)} {b : Nat} {r q : List Nat} (h : PathP ps b r q) : q ≠ [] := by
  cases h <;> simp
theorem PathP.last {ps : List (Nat × Nat)} {b : Nat} {r q : List Nat} (h : PathP ps b r q) : ∃ s, q.getLast? = some s := by
  cases h with
  | nil => exact ⟨b, rfl⟩
  | snoc _ _ _ => exact ⟨_, List.getLast?_concat⟩
theorem PathP.ix {ps : List (Nat × Nat)} {b : Nat} {r q : List Nat} (h : PathP ps b r q) : ∀ i ∈ r, i < ps.length := by
  induction h with
  | nil => intro i hi; cases hi
  | snoc _ hp _ ih =>
    intro j hj
    rcases List.mem_append.mp hj with hj | hj
    · exact ih j hj
    · rw [List.mem_singleton.mp hj]
      rcases Nat.lt_or_ge ‹Nat› ps.length with c | c
      · exact (List.getElem?_eq_some_iff.mp hp).1
      · exact (List.getElem?_eq_some_iff.mp hp).1
theorem PathP.up {ps : List (Nat × Nat)} {b : Nat} {rk : Nat → Nat} {z : Nat → Nat} (hz : ∀ i s t, ps[i]? = some (s, t) → z i = 0 → rk s < rk t) {r q : List Nat} (h : PathP ps b r q) (hr : ∀ i ∈ r, z i = 0) : ∀ s, q.getLast? = some s → rk b ≤ rk s := by
  induction h with
  | nil =>
    intro s e
    cases e
    exact Nat.le_refl _
  | @snoc r q i s t _ hp hl ih =>
    intro x e
    rw [List.getLast?_concat] at e
    cases e
    have h1 := ih (fun j hj => hr j (List.mem_append_left _ hj)) s hl
    have h2 := hz i s t hp (hr i (by simp))
    omega
theorem le_sum : ∀ {l : List Nat} {x : Nat}, x ∈ l → x ≤ l.sum
  | y :: l, x, h => by
    rw [List.sum_cons]
    rcases List.mem_cons.mp h with e | h
    · omega
    · have := le_sum h; omega
theorem RingP.sum {ps : List (Nat × Nat)} {b : Nat} {rk : Nat → Nat} {z : Nat → Nat} (hz : ∀ i s t, ps[i]? = some (s, t) → z i = 0 → rk s < rk t) {r : List Nat} (h : RingP ps b r) : (r.map z).sum ≠ 0 := by
  intro e
  obtain ⟨r', q, i, s, h1, h2, h3, rfl⟩ := h
  have all0 : ∀ j ∈ r' ++ [i], z j = 0 := by
    intro j hj
    have : z j ≤ ((r' ++ [i]).map z).sum := le_sum (List.mem_map.mpr ⟨j, hj, rfl⟩) 
    omega
  have a1 := h1.up hz (fun j hj => all0 j (List.mem_append_left _ hj)) s h3
  have a2 := hz i s b h2 (all0 i (by simp))
  omega
theorem RingP.ne {ps : List (Nat × Nat)} {b : Nat} {r : List Nat} (h : RingP ps b r) : r ≠ [] := by
  obtain ⟨r', q, i, s, _, _, _, rfl⟩ := h
  simp
theorem RingP.ix {ps : List (Nat × Nat)} {b : Nat} {r : List Nat} (h : RingP ps b r) : ∀ i ∈ r, i < ps.length := by
  obtain ⟨r', q, i, s, h1, h2, _, rfl⟩ := h
  intro j hj
  rcases List.mem_append.mp hj with hj | hj
  · exact h1.ix j hj
  · rw [List.mem_singleton.mp hj]
    exact (List.getElem?_eq_some_iff.mp h2).1
/-- places not seen -/
def rest (n : Nat) (q : List Nat) : Nat := (List.range n).countP fun t => decide (t ∉ q)
theorem countP_lt {p p' : Nat → Bool} : ∀ {l : List Nat}, (∀ x ∈ l, p x = true → p' x = true) → (∃ x ∈ l, p' x = true ∧ p x = false) → l.countP p < l.countP p'
  | [], _, h => by obtain ⟨_, h, _⟩ := h; cases h
  | a :: l, hi, h => by
    have mono : l.countP p ≤ l.countP p' := List.countP_mono_left fun x hx hp => hi x (List.mem_cons_of_mem _ hx) hp
    rw [List.countP_cons, List.countP_cons]
    obtain ⟨x, hx, h1, h2⟩ := h
    rcases List.mem_cons.mp hx with e | hx
    · subst e
      rw [if_pos h1, if_neg (by rw [h2]; exact Bool.false_ne_true)]
      omega
    · have ih := countP_lt (l := l) (fun x hx hp => hi x (List.mem_cons_of_mem _ hx) hp) ⟨x, hx, h1, h2⟩
      by_cases c : p a = true
      · rw [if_pos c, if_pos (hi a List.mem_cons_self c)]; omega
      · rw [if_neg c]; omega
theorem rest_lt {n t : Nat} {q : List Nat} (h : t < n) (hq : t ∉ q) : rest n (q ++ [t]) < rest n q :=
  countP_lt (fun x _ hp => by
    have := of_decide_eq_true hp
    exact decide_eq_true fun z => this (List.mem_append_left _ z)) ⟨t, List.mem_range.mpr h, decide_eq_true hq, decide_eq_false (by simp)⟩
theorem rest_le (n : Nat) (q : List Nat) : rest n q ≤ n := by
  have := List.countP_le_length (p := fun t => decide (t ∉ q)) (l := List.range n)
  rw [List.length_range] at this
  exact this
/-- the measure of what waits -/
def mu (n : Nat) (qs : List (List Nat)) : Nat := (qs.map fun q => 7 ^ rest n q).sum
theorem mu_snoc (n : Nat) (qs : List (List Nat)) (q : List Nat) : mu n (qs ++ [q]) = mu n qs + 7 ^ rest n q := by
  unfold mu
  rw [List.map_append, List.sum_append]
  simp
end Own
set_option Elab.async false
set_option linter.all false
set_option maxRecDepth 100000
set_option maxHeartbeats 4000000
/-! sorted over lists of data -/
namespace OwnR
open PySem PySem.Spec PyProof.Rows L2
section
variable {K : PySem.W.Frag} {X : Cx} {pins : List (Addr × Obj)} {σ : L2.St} {H : Hp} {s : Shared}
theorem zip_fst : ∀ {xs : List V} {ds : List PyData}, DpAll K H xs ds → (xs.zip ds).map Prod.fst = xs ∧ (xs.zip ds).map Prod.snd = ds
  | _, _, .nil => ⟨rfl, rfl⟩
  | _, _, .cons _ t => by
    obtain ⟨a, b⟩ := zip_fst t
    exact ⟨by rw [List.zip_cons_cons, List.map_cons, a], by rw [List.zip_cons_cons, List.map_cons, b]⟩
theorem each_rel : ∀ {xs : List V} {ds : List PyData} {its : List Value}, DpAll K H xs ds → Vals xs its → PySem.W.EachIs (fun v (b : V × PyData) => RelV b.1 v) its (xs.zip ds)
  | _, _, _, .nil, .nil => .nil
  | _, _, _, .cons _ t, .cons r rs => .cons r (each_rel t rs)
theorem each_reads (I : Inv X pins σ H s) : ∀ {xs : List V} {ds : List PyData} {its : List Value}, DpAll X.K H xs ds → Vals xs its → PySem.W.EachIs (fun v (b : V × PyData) => ∃ as, Reads s.heap v b.2 as) its (xs.zip ds)
  | _, _, _, .nil, .nil => .nil
  | _, _, _, .cons d t, .cons r rs => .cons (Dp.reads I _ _ _ d r) (each_reads I t rs)
theorem vals_each : ∀ {out : List Value} {bs : List (V × PyData)}, PySem.W.EachIs (fun v (b : V × PyData) => RelV b.1 v) out bs → Vals (bs.map Prod.fst) out
  | _, _, .nil => .nil
  | _, _, .cons r t => .cons r (vals_each t)
end
/-- sorted(xs), a list of alike data: a list of the same items -/
def rSortedAny (K : PySem.W.Frag) : List V → Hp → VK → Prop := fun vs H Q => ∃ (a : Addr) (xs : List V) (ds : List PyData), vs = [V.ref a] ∧ SqL K H a xs ∧ DpAll K H xs ds ∧ PySem.W.AllAlike ds ∧ PySem.W.Sortable ds ∧ (∀ d ∈ ds, d.depth ≤ 8) ∧
  ∀ (ys : List V) (p : Addr), ys.Perm xs → H p = none → Q (.ref p) (upd H p (.lst ys))
theorem cr_sortedAny {X : Cx} (hu : X.A.units + 64 < cLine) : CallR X (.builtin "sorted") (rSortedAny X.K) := by
  intro pins s σ H vs us Q I r h
  obtain ⟨a, xs, ds, rfl, hs, hd, hal, hk, hdep, q⟩ := h
  obtain ⟨its, rv, hl, hz⟩ := I.list hs
  rw [Vals.ref1 r]
  obtain ⟨z1, z2⟩ := zip_fst hd
  have hlen : (xs.zip ds).length = xs.length := by rw [← List.length_map (f := Prod.fst) (as := xs.zip ds), z1]
  refine PySem.W.sorted_data (enc := Prod.snd) hl.isList (each_rel hd rv) (each_reads I hd rv) (by rw [z2]; exact hal) (by rw [z2]; exact hk) (by rw [hlen]; exact hz) (fun b hb => ?_) fun out ho eo => ?_
  · have : b.2 ∈ ds := by rw [← z2]; exact List.mem_map.mpr ⟨b, hb, rfl⟩
    have := hdep _ this
    omega
  · obtain ⟨ep, he'⟩ := PyProof.Rows.sortedAll_at s.heap its out.toArray
    have hp : (((xs.zip ds).mergeSort (PySem.W.dataLe false Prod.snd)).map Prod.fst).Perm xs := by
      have := (List.mergeSort_perm (xs.zip ds) (PySem.W.dataLe false Prod.snd)).map Prod.fst
      rw [z1] at this
      exact this
    have hz' : (((xs.zip ds).mergeSort (PySem.W.dataLe false Prod.snd)).map Prod.fst).length ≤ sizeLine := by rw [hp.length_eq]; exact hz
    exact ⟨.ref _, upd H (s.heap.objs.size + 1) (.lst _), I.laid (t' := s.toks) (fun _ _ => PyProof.Rows.sortedAll_old) (Nat.le_succ _) ⟨hz', out, ep, vals_each eo, he'⟩, rfl, q _ _ hp (I.hok.fresh (Nat.le_succ _))⟩
end OwnR
set_option Elab.async false
set_option linter.all false
set_option maxRecDepth 100000
set_option maxHeartbeats 4000000
/-! dict comprehensions over any walk, list += list -/
namespace OwnR
open PySem PySem.Spec PyProof.Rows L2
section
variable {J : It} {n : Nat} {G : Hp → Prop} {Y : Nat → Hp → V → Hp → Prop}
theorem dc_it (w : Walk J n G Y) {g : TG} {tt : TT} {tk tv : TE} {vs : List Nat} {σ : L2.St} {H1 : Hp} {D : Addr} {Qd : Hp → Prop} (Pv : Nat → Hp → Prop) (h0 : Pv 0 (upd H1 D (.dK []))) (hG : ∀ i H, i ≤ n → Pv i H → G H)
    (hs : ∀ i x H H', i < n → Pv i H → Y i H x H' → g x (wipe σ vs) H' fun σ2 H2 => wipe σ2 vs = wipe σ vs ∧ tt σ2 H2 fun b H3 =>
      if b = true then tk σ2 H3 fun y H4 => tv σ2 H4 fun z H5 => ∃ kvs k, y = kV k ∧ H5 D = some (.dK kvs) ∧ kvs.length < sizeLine ∧ Pv (i + 1) (upd H5 D (.dK (putK kvs k z))) else Pv (i + 1) H3) (hd : ∀ H, Pv n H → Qd H) :
    ∃ W : Nat → Nat → Hp → Prop, (∃ m, W 0 m (upd H1 D (.dK []))) ∧ ∀ i m H, W i m H →
      (J.stop i H ∧ Qd H) ∨ (J.go i H ∧ ∃ Nx : Hp → Prop, (∀ H', Nx H' → ∃ m', m' < m ∧ W (i + 1) m' H') ∧ ∀ x H', J.yld i H x H' → g x (wipe σ vs) H' fun σ2 H2 => wipe σ2 vs = wipe σ vs ∧ tt σ2 H2 fun b H3 =>
        if b = true then tk σ2 H3 fun y H4 => tv σ2 H4 fun z H5 => ∃ kvs k, y = kV k ∧ H5 D = some (.dK kvs) ∧ kvs.length < sizeLine ∧ Nx (upd H5 D (.dK (putK kvs k z))) else Nx H3) := by
  refine ⟨fun i m H => m = n - i ∧ i ≤ n ∧ Pv i H, ⟨n, by simp, Nat.zero_le _, h0⟩, ?_⟩
  rintro i m H ⟨rfl, hi, p⟩
  have q := hG i H hi p
  by_cases hlt : i < n
  · have e : ∀ H', Pv (i + 1) H' → ∃ m', m' < n - i ∧ m' = n - (i + 1) ∧ i + 1 ≤ n ∧ Pv (i + 1) H' := fun H' p' => ⟨n - (i + 1), by omega, rfl, hlt, p'⟩
    exact .inr ⟨w.goes i H hlt q, Pv (i + 1), e, fun x H' y => hs i x H H' hlt p (w.yields i H x H' hlt q y)⟩
  · have e : i = n := by omega
    subst e
    exact .inl ⟨w.stops H q, hd H p⟩
end
theorem ip_extL {X : Cx} : PIp X .Add rExt2 := fun pins s σ H x y v u Q I rx ry h => iop_ext pins s σ H x y v u Q I rx ry h
end OwnR
namespace OwnR
open PySem PySem.Spec PyProof.Rows L2
section
variable {X : Cx} {k : Nat} {f : Addr} {sp : Sp} {E : XK} {CX : CXT} {x : Str} {e : Expr} {es : List Expr} {p pos : Pos} {t : TA}
/-- x(e, ..), x a def that may have a star parameter -/
theorem pe_callR (F : FnR X.prog X.w X.K X.mg X.base CX k f sp) (hr : Room k X.A) (hk : PySem.W.keepIn X.K (.ref f) = true) (hg : Gl X x) (hm : X.mg x = some (.ref f)) (hx : Passes CX X E) (ha : PA X (e :: es) t) (hd : (x == ("__debug__" : Str)) = false := by decide)
    (he : starEach (e :: es) X.env = (false, eval e X.env) :: starEach es X.env := by rfl) (hpl : (backTo pos (starEach es X.env)).any (·.1) = false := by rfl) :
    PE X (.Call (.Name x p) (e :: es) [] pos) (fun σ H Q => t σ H fun vs H1 => sp vs H1 Q E) := by
  refine ⟨fun pins s σ H Q I h => ?_⟩
  refine wpAny_Call_Name_kw (ld_glob I hg hm ?_ hd)
  refine PySem.W.callWith_K (h₀ := X.base) I.ok.mod.kin hk (thn (ha.run pos pins s σ H _ I h) fun us s1 ⟨vs, H1, I1, r, q⟩ => ⟨I1.kIn, ?_⟩) he hpl
  exact wpAny_call (run_fnR F hr hx I1 r q)
end
end OwnR
set_option Elab.async false
set_option linter.all false
set_option maxRecDepth 100000
set_option maxHeartbeats 4000000
/-! lines -/
namespace Own
open PySem PySem.Spec PyProof.Rows L2 He OwnR
theorem pget {α β : Type} {F : α → β → Prop} : ∀ {l : List α} {m : List β}, Paired F l m → ∀ {i : Nat} {v : β}, m[i]? = some v → ∃ a, l[i]? = some a ∧ F a v
  | _, _, .nil, i, v, h => by simp at h
  | _, _, .cons r t, 0, v, h => ⟨_, rfl, by cases h; exact r⟩
  | _, _, .cons r t, i + 1, v, h => pget t (by simpa using h)
theorem inV_strs (z : Str) : ∀ zs : List Str, inV (.str z) (zs.map V.str) = decide (z ∈ zs)
  | [] => rfl
  | y :: zs => by
    have ih := inV_strs z zs
    unfold inV at ih ⊢
    rw [List.map_cons, List.any_cons, ih]
    show ((y == z) || decide (z ∈ zs)) = _
    by_cases c : y = z
    · subst c; simp
    · have c' : ¬ z = y := fun e => c e.symm
      simp [c, c']
theorem flat_strs' : ∀ zs : List Str, (zs.map V.str).all flatV = true
  | [] => rfl
  | z :: zs => by rw [List.map_cons, List.all_cons, flat_strs' zs]; rfl
theorem map_take_succ {α β : Type} {l : List α} {f : α → β} {i : Nat} {a : α} (h : l[i]? = some a) : (l.take (i + 1)).map f = (l.take i).map f ++ [f a] := by
  rw [List.take_succ, h, List.map_append]; rfl
section
variable {P : Program} {w : World} {K : PySem.W.Frag} {mg : Str → Option Value} {base : Heap}
def StasAt (K : PySem.W.Frag) (H : Hp) (a : Addr) (ss : List Sta) : Prop := ∃ xs, SqT K H a xs ∧ Paired (fun s v => StaAt K H v s) ss xs
theorem StasAt.mono {H H' : Hp} {a : Addr} {ss : List Sta} (h : StasAt K H a ss) (e : SameI H H') : StasAt K H' a ss := by
  obtain ⟨xs, h1, h2⟩ := h
  exact ⟨xs, e.seqT h1, L2.Paired.mapP h2 fun _ _ z => z.mono e⟩
def LnksAt (K : PySem.W.Frag) (H : Hp) (a : Addr) (ss : List Lnk) : Prop := ∃ xs, SqT K H a xs ∧ Paired (fun s v => LnkAt K H v s) ss xs
theorem LnksAt.mono {H H' : Hp} {a : Addr} {ss : List Lnk} (h : LnksAt K H a ss) (e : SameI H H') : LnksAt K H' a ss := by
  obtain ⟨xs, h1, h2⟩ := h
  exact ⟨xs, e.seqT h1, L2.Paired.mapP h2 fun _ _ z => z.mono e⟩
theorem tyV_l {H : Hp} {l : Addr} {xs : List V} (h : H l = some (.lst xs)) : tyV K "list" (.ref l) H := .inl ⟨rfl, xs, SqL.of h⟩
theorem flat_ss (ss : List Sta) : (ss.map fun s => V.str s.name) = (ss.map Sta.name).map V.str := by rw [List.map_map]; rfl
theorem sc_check_stations : FnScope ["stations", "names", "index", "station"] ["stations"] (defScope s_check_stations) := ⟨rfl, rfl, rfl, by decide +kernel, rfl, by decide +kernel, by decide +kernel⟩
theorem b_check_stations (E : Env K mg base) : Binds K (fdAt K (ga K "check_stations")) ["stations"] [] := (f_check_stations E).bindsN fun _ _ _ _ _ _ us hl => match us, hl with | [_], _ => rfl
def sp_cs (K : PySem.W.Frag) : Sp := fun vs H Q _ => ∃ (a : Addr) (ss : List Sta), vs = [.ref a] ∧ StasAt K H a ss ∧ ss ≠ [] ∧ ss.length ≤ 6 ∧ (ss.map Sta.name).Nodup ∧ ∀ H', Same H H' → Q .non H'
theorem ok_check_stations (E : Env K mg base) : FnOk P w K mg base CX0 8 (ga K "check_stations") (fdAt K (ga K "check_stations")) ["stations"] ((sp_cs K)) := by
  refine okD (f_check_stations E) sc_check_stations (fun cdv A outer s H vs Q X hr h => ?_) (fun vs H Q X h => by obtain ⟨_, _, rfl, _⟩ := h; rfl)
  obtain ⟨a, ss, rfl, ⟨xs, hA, hP⟩, hne, h6, hnd, q⟩ := h
  have hxl : ss.length = xs.length := Paired.length hP
  have hpos : 0 < ss.length := List.length_pos_iff.mpr hne
  have e3 : sizeLine = 16777216 := sizeLine_eq
  refine ⟨_, (pss_cons (ps_if (PW.pt (pw_or (pt_not (pt_val (pe_callB call_isi rfl (n_isinstance E) boot_isinstance (pa_cons (pv 0) (pa_cons (pe_bltn (v := .ty "tuple") rfl (n_tuple E) boot_tuple rfl) pa_nil))))) (pw_or1 (pt_cmpR op_eq (pe_callB (lenK K) rfl (n_len E) boot_len (pa_cons (pv 0) pa_nil)) pe_int (nomark _))))) (pss_one ps_never) pss_nil)
      (pss_cons (ps_set (i := 1) sc_check_stations.nd rfl (Or.inl rfl) (pe_lst pa_nil))
      (pss_one (ps_for PassesOwn.never rfl (pi_enumT rfl (n_enumerate E) (pa_cons (pv 0) pa_nil)) (pg_tup rfl (pgs_cons (pg_name (i := 2) sc_check_stations.nd rfl (Or.inl rfl)) (pgs_cons (pg_name (i := 3) sc_check_stations.nd rfl (Or.inl rfl)) pgs_nil))) (pss_cons (ps_if (PW.pt (pw_or (pt_cmpR op_ge (pv 2) (pe_gi (i_MOST_STATIONS E)) (nomark _)) (pw_or (pt_not (pt_val (pe_callB (call_isOwn (qi_Station E)) rfl (n_isinstance E) boot_isinstance (pa_cons (pv 3) (pa_cons (pe_glob (v := .ref (ga K "Station")) rfl (g_Station E) rfl) pa_nil))))) (pw_or1 (pt_cmpR (opInK K) (pe_pr (pv 3) (c_Station E) (p_Station_name E) (ok_Station_name E) (hr.mono (by decide)) (bp_Station_name E) rfl) (pv 1) rfl))))) (pss_one ps_never) pss_nil)
      (pss_one (ps_expr (pe_bm PySem.F.plainAttrs_list PySem.F.slot_list_append PySem.F.type_list_append mt_append (pv 1) (pa_cons (pe_pr (pv 3) (c_Station E) (p_Station_name E) (ok_Station_name E) (hr.mono (by decide)) (bp_Station_name E) rfl) pa_nil))))))))), ?_⟩
  refine ⟨_, rfl, _, .ty "tuple", _, _, true, rfl, .ty _, ty_tup hA, kit_ty (by decide +kernel), _, rfl, ite_f (b := !true) rfl ?_⟩
  refine ⟨_, rfl, a, xs, rfl, .inr hA, rfl, _, rfl, ite_f (decide_eq_false (fun e => by injection e with e; omega)) ?_⟩
  refine ⟨by show 0 ≤ sizeLine; omega, fun D hD => ?_⟩
  refine ⟨_, rfl, a, _, rfl, sT (sNew hD) hA, for_it (walk_enumT (K := K) (a := a) (xs := xs)) (fun i σ H' => Same H H' ∧ H' D = some (.lst ((ss.take i).map fun s => .str s.name)) ∧ ∃ v1 v2, σ = [some (.ref a), some (.ref D), v1, v2]) ⟨sNew hD, upd_same, _, _, rfl⟩ (fun i σ H' _ h => sT h.1 hA) ?_ ?_⟩
  · rintro i x σ H1 H2 hi ⟨hS, hD1, v1, v2, rfl⟩ ⟨T, y, z, rfl, hT, rfl, e1, e2⟩
    obtain rfl : V.int (i : Nat) = y := Option.some.inj e1
    obtain ⟨s, es, hs⟩ := pget hP e2
    have hi' : i < ss.length := by omega
    have sT1 := hS.trans (sNew (o := .tup [V.int (i : Nat), z]) hT)
    have neT : D ≠ T := fun e => by rw [e, hT] at hD1; cases hD1
    have hst : ∀ H3, Same (upd H1 T (.tup [V.int (i : Nat), z])) H3 → StaAt K H3 z s := fun H3 s3 => hs.mono (sameI (sT1.trans s3))
    have hnm : s.name ∉ (ss.take i).map Sta.name := by
      intro hm
      obtain ⟨s', hs', e⟩ := List.mem_map.mp hm
      obtain ⟨j, hj, ej⟩ := List.mem_iff_getElem.mp hs'
      have hji : j < i := by rw [List.length_take] at hj; omega
      have hin := (List.getElem?_inj (i := j) (j := i) (by rw [List.length_map]; omega) hnd).mp (by
        rw [List.getElem?_map, List.getElem?_map, es]
        rw [List.getElem_take] at ej
        rw [List.getElem?_eq_getElem (by omega), ej]
        show some s'.name = some s.name
        rw [e])
      omega
    refine ⟨T, _, rfl, SqT.of upd_same, rfl, _, _, rfl, _, _, rfl, rfl, ?_⟩
    refine ⟨_, rfl, _, _, rfl, rfl, _, rfl, ite_f (decide_eq_false (by omega)) ?_⟩
    obtain ⟨b, dx, t, rfl, hb, ht⟩ := id hs
    refine ⟨_, rfl, b, _, dx, _, rfl, rfl, sT1 _ _ hb, _, rfl, ite_f (b := !true) rfl ?_⟩
    refine ⟨_, rfl, b, dx, _, rfl, sT1 _ _ hb, _, s, rfl, hst _ (Same.refl _), ?_⟩
    have hD2 : upd H1 T (.tup [V.int (i : Nat), .ref b]) D = some (.lst ((ss.take i).map fun s => .str s.name)) := by rw [upd_ne neT]; exact hD1
    have em : ((ss.take i).map fun s => V.str s.name) = ((ss.take i).map Sta.name).map V.str := by rw [List.map_map]; rfl
    refine ⟨_, rfl, D, _, rfl, .inl (SqL.of (hD2.trans (by rw [em]))), rfl, flat_strs' _, ?_⟩
    rw [inV_strs]
    refine ⟨_, rfl, ite_f (decide_eq_false hnm) ?_⟩
    refine ⟨_, rfl, tyV_l hD2, _, rfl, b, dx, _, rfl, sT1 _ _ hb, _, s, rfl, hst _ (Same.refl _), ?_⟩
    refine ⟨D, _, _, rfl, rfl, hD2, by rw [List.length_map, List.length_take]; omega, ?_⟩
    refine ⟨sMut sT1 hD, ?_, _, _, rfl⟩
    rw [map_take_succ es]
    exact upd_same
  · rintro σ H' ⟨hS, _, v1, v2, rfl⟩
    exact q H' hS
theorem sc_check_links : FnScope ["links", "names", "index", "link"] ["links", "names"] (defScope s_check_links) := ⟨rfl, rfl, rfl, by decide +kernel, rfl, by decide +kernel, by decide +kernel⟩
theorem b_check_links (E : Env K mg base) : Binds K (fdAt K (ga K "check_links")) ["links", "names"] [] := (f_check_links E).bindsN fun _ _ _ _ _ _ us hl => match us, hl with | [_, _], _ => rfl
def sp_ck (K : PySem.W.Frag) : Sp := fun vs H Q _ => ∃ (a b : Addr) (ss : List Lnk) (ns : List Str), vs = [.ref a, .ref b] ∧ LnksAt K H a ss ∧ SqL K H b (ns.map V.str) ∧ ss.length ≤ 12 ∧ (∀ s ∈ ss, s.src ∈ ns ∧ s.tgt ∈ ns) ∧ ∀ H', Same H H' → Q .non H'
theorem ok_check_links (E : Env K mg base) : FnOk P w K mg base CX0 8 (ga K "check_links") (fdAt K (ga K "check_links")) ["links", "names"] ((sp_ck K)) := by
  refine okD (f_check_links E) sc_check_links (fun cdv A outer s H vs Q X hr h => ?_) (fun vs H Q X h => by obtain ⟨_, _, _, _, rfl, _⟩ := h; rfl)
  obtain ⟨a, nb, ss, ns, rfl, ⟨xs, hA, hP⟩, hN, h12, hm, q⟩ := h
  have hxl : ss.length = xs.length := Paired.length hP
  refine ⟨_, (pss_cons (ps_if (pt_not (pt_val (pe_callB call_isi rfl (n_isinstance E) boot_isinstance (pa_cons (pv 0) (pa_cons (pe_bltn (v := .ty "tuple") rfl (n_tuple E) boot_tuple rfl) pa_nil))))) (pss_one ps_never) pss_nil)
      (pss_one (ps_for PassesOwn.never rfl (pi_enumT rfl (n_enumerate E) (pa_cons (pv 0) pa_nil)) (pg_tup rfl (pgs_cons (pg_name (i := 2) sc_check_links.nd rfl (Or.inl rfl)) (pgs_cons (pg_name (i := 3) sc_check_links.nd rfl (Or.inl rfl)) pgs_nil))) (pss_cons (ps_if (PW.pt (pw_or (pt_cmpR op_ge (pv 2) (pe_gi (i_MOST_LINKS E)) (nomark _)) (pw_or1 (pt_not (pt_val (pe_callB (call_isOwn (qi_Link E)) rfl (n_isinstance E) boot_isinstance (pa_cons (pv 3) (pa_cons (pe_glob (v := .ref (ga K "Link")) rfl (g_Link E) rfl) pa_nil)))))))) (pss_one ps_never) pss_nil)
      (pss_one (ps_if (PW.pt (pw_or (pt_cmpR (opNotInK K) (pe_pr (pv 3) (c_Link E) (p_Link_source E) (ok_Link_source E) (hr.mono (by decide)) (bp_Link_source E) rfl) (pv 1) rfl) (pw_or1 (pt_cmpR (opNotInK K) (pe_pr (pv 3) (c_Link E) (p_Link_target E) (ok_Link_target E) (hr.mono (by decide)) (bp_Link_target E) rfl) (pv 1) rfl)))) (pss_one ps_never) pss_nil)))))), ?_⟩
  refine ⟨_, rfl, _, .ty "tuple", _, _, true, rfl, .ty _, ty_tup hA, kit_ty (by decide +kernel), _, rfl, ite_f (b := !true) rfl ?_⟩
  refine ⟨_, rfl, a, _, rfl, hA, for_it (walk_enumT (K := K) (a := a) (xs := xs)) (fun i σ H' => Same H H' ∧ ∃ v1 v2, σ = [some (.ref a), some (.ref nb), v1, v2]) ⟨Same.refl _, _, _, rfl⟩ (fun i σ H' _ h => sT h.1 hA) ?_ ?_⟩
  · rintro i x σ H1 H2 hi ⟨hS, v1, v2, rfl⟩ ⟨T, y, z, rfl, hT, rfl, e1, e2⟩
    obtain rfl : V.int (i : Nat) = y := Option.some.inj e1
    obtain ⟨s, es, hs⟩ := pget hP e2
    have sT1 := hS.trans (sNew (o := .tup [V.int (i : Nat), z]) hT)
    have hms := hm s (List.mem_of_getElem? es)
    have hst := hs.mono (sameI sT1)
    obtain ⟨b, dx, t, rfl, hb, ht⟩ := id hs
    refine ⟨T, _, rfl, SqT.of upd_same, rfl, _, _, rfl, _, _, rfl, rfl, ?_⟩
    refine ⟨_, rfl, _, _, rfl, rfl, _, rfl, ite_f (decide_eq_false (by omega)) ?_⟩
    refine ⟨_, rfl, b, _, dx, _, rfl, rfl, sT1 _ _ hb, _, rfl, ite_f (b := !true) rfl ?_⟩
    refine ⟨_, rfl, b, dx, _, rfl, sT1 _ _ hb, _, s, rfl, hst, ?_⟩
    refine ⟨_, rfl, nb, _, rfl, .inl (sT1.seq hN), rfl, flat_strs' _, ?_⟩
    rw [inV_strs]
    refine ⟨_, rfl, ite_f (b := !decide (s.src ∈ ns)) (by rw [decide_eq_true hms.1]; rfl) ?_⟩
    refine ⟨_, rfl, b, dx, _, rfl, sT1 _ _ hb, _, s, rfl, hst, ?_⟩
    refine ⟨_, rfl, nb, _, rfl, .inl (sT1.seq hN), rfl, flat_strs' _, ?_⟩
    rw [inV_strs]
    refine ⟨_, rfl, ite_f (b := !decide (s.tgt ∈ ns)) (by rw [decide_eq_true hms.2]; rfl) ?_⟩
    exact ⟨sT1, _, _, rfl⟩
  · rintro σ H' ⟨hS, v1, v2, rfl⟩
    exact q H' hS
/-- a line stands at v -/
def LineAt (K : PySem.W.Frag) (H : Hp) (v : V) (L : Lin) : Prop := ∃ (a dx t ta tb : Addr), v = .ref a ∧ H a = some (.ins (ga K "Line") dx [("sides", .ref t)]) ∧ SqT K H t [.ref ta, .ref tb, .str L.out] ∧ StasAt K H ta L.sts ∧ LnksAt K H tb L.lks
theorem LineAt.mono {H H' : Hp} {v : V} {s : Lin} (h : LineAt K H v s) (e : SameI H H') : LineAt K H' v s := by
  obtain ⟨a, dx, t, ta, tb, rfl, h1, h2, h3, h4⟩ := h
  exact ⟨a, dx, t, ta, tb, rfl, e _ _ h1 rfl, e.seqT h2, h3.mono e, h4.mono e⟩
theorem ins_mono {H H' : Hp} {x C dx : Addr} {fs : List (Str × V)} (hx : H x = some (.ins C dx [])) (e : ∀ c o, c ≠ x → H c = some o → H' c = some o) : ∀ a xs, SqT K H a xs → SqT K H' a xs := fun a xs h => by
  have g : ∀ o, H a = some o → (∀ z, o ≠ z → True) → (∀ C dx fs, o ≠ .ins C dx fs) → H' a = some o := fun o ho _ hno => e a o (fun c => by subst c; rw [hx] at ho; exact hno _ _ _ (Option.some.inj ho).symm) ho
  rcases h with (h | ⟨u, h⟩) | h
  · exact .inl (.inl (g _ h (fun _ _ => trivial) (fun _ _ _ z => by cases z)))
  · exact .inl (.inr ⟨u, g _ h (fun _ _ => trivial) (fun _ _ _ z => by cases z)⟩)
  · exact .inr h
/-- a heap that keeps all but the instance under way (which has no fields yet) -/
def KeepX (K : PySem.W.Frag) (H H' : Hp) (x : Addr) : Prop := (∀ a xs, SqT K H a xs → SqT K H' a xs) ∧ ∀ a C dx fs, fs ≠ [] → H a = some (.ins C dx fs) → H' a = some (.ins C dx fs)
theorem StaAt.keep {H H' : Hp} {x : Addr} {v : V} {s : Sta} (h : StaAt K H v s) (k : KeepX K H H' x) : StaAt K H' v s := by
  obtain ⟨a, dx, t, rfl, h1, h2⟩ := h
  exact ⟨a, dx, t, rfl, k.2 _ _ _ _ (by simp) h1, k.1 _ _ h2⟩
theorem LnkAt.keep {H H' : Hp} {x : Addr} {v : V} {s : Lnk} (h : LnkAt K H v s) (k : KeepX K H H' x) : LnkAt K H' v s := by
  obtain ⟨a, dx, t, rfl, h1, h2⟩ := h
  exact ⟨a, dx, t, rfl, k.2 _ _ _ _ (by simp) h1, k.1 _ _ h2⟩
theorem keepX_of {H H' : Hp} {x C dx : Addr} (hx : H x = some (.ins C dx [])) (e : ∀ c o, c ≠ x → H c = some o → H' c = some o) : KeepX K H H' x :=
  ⟨ins_mono (fs := []) hx e, fun a C' dx' fs hf h => e a _ (fun c => by subst c; rw [hx] at h; injection h with h; injection h with _ _ h; exact hf h.symm) h⟩
theorem sc_Line_init : FnScope ["self", "stations", "links", "outlet", "names", "station"] ["self", "stations", "links", "outlet"] (defScope s_Line_init) := ⟨rfl, rfl, rfl, by decide +kernel, rfl, by decide +kernel, by decide +kernel⟩
def sp_lni (K : PySem.W.Frag) : Sp := fun vs H Q _ => ∃ (x dx ta tb : Addr) (L : Lin), vs = [.ref x, .ref ta, .ref tb, .str L.out] ∧ H x = some (.ins (ga K "Line") dx []) ∧ StasAt K H ta L.sts ∧ LnksAt K H tb L.lks ∧ L.Ok ∧
  ∀ H', (∀ c o, c ≠ x → H c = some o → H' c = some o) → LineAt K H' (.ref x) L → Q .non H'
theorem ok_Line_init (E : Env K mg base) : FnOk P w K mg base CX0 9 (ma K (ga K "Line") "__init__") (fdAt K (ma K (ga K "Line") "__init__")) ["self", "stations", "links", "outlet"] ((sp_lni K)) := by
  refine okD (f_Line_init E) sc_Line_init (fun cdv A outer s H vs Q X hr h => ?_) (fun vs H Q X h => by obtain ⟨_, _, _, _, _, rfl, _⟩ := h; rfl)
  obtain ⟨x, dx, ta, tb, L, rfl, hx, hS, hK, hO, q⟩ := h
  have e3 : sizeLine = 16777216 := sizeLine_eq
  have n4 := hO.n6
  have n6 := hO.n12
  refine ⟨_, (pss_cons (ps_expr (pe_call (ok_check_stations E) (hr.mono (by decide)) rfl (g_check_stations E) (f_check_stations E).kp (b_check_stations E) .nil pass0 (pa_cons (pv 1) pa_nil)))
      (pss_cons (ps_setLc (i := 4) (own := [("station", 5)]) (g := (gName 5)) rfl sc_Line_init.nd rfl rfl (sw_true rfl rfl rfl (by decide +kernel)) (pi_tup (pv 1)) (blkOk_by (own := [("station", 5)]) (N := (["self", "stations", "links", "outlet", "names", "station"] : List Str)) (sc := defScope s_Line_init) (by decide +kernel)) (fun _ _ _ _ _ => (pg_name (i := 5) sc_Line_init.nd rfl (Or.inl rfl))) (fun _ _ _ _ _ => pts_nil) (fun _ _ _ _ _ => (pe_pr (pv 5) (c_Station E) (p_Station_name E) (ok_Station_name E) (hr.mono (by decide)) (bp_Station_name E) rfl)))
      (pss_cons (ps_expr (pe_call (ok_check_links E) (hr.mono (by decide)) rfl (g_check_links E) (f_check_links E).kp (b_check_links E) .nil pass0 (pa_cons (pv 2) (pa_cons (pv 4) pa_nil))))
      (pss_cons (ps_if (PW.pt (pw_or (pt_not (pt_val (pe_callB call_isi rfl (n_isinstance E) boot_isinstance (pa_cons (pv 3) (pa_cons (pe_bltn (v := .ty "str") rfl (n_str E) boot_str rfl) pa_nil))))) (pw_or1 (pt_cmpR (opNotInK K) (pv 3) (pv 4) rfl)))) (pss_one ps_never) pss_nil)
      (pss_one (ps_fld (pv 0) (pe_tup (pa_cons (pv 1) (pa_cons (pv 2) (pa_cons (pv 3) pa_nil)))) rfl)))))), ?_⟩
  refine ⟨_, rfl, ta, L.sts, rfl, hS, hO.n1, by omega, hO.nd, fun H1 s1 => ?_⟩
  have hS1 := hS.mono (sameI s1)
  obtain ⟨xs, hA, hP⟩ := hS1
  refine ⟨_, rfl, ta, rfl, ⟨xs, hA⟩, fun D hD => ?_⟩
  have hxl : L.sts.length = xs.length := Paired.length hP
  refine lc_map (walk_tup (K := K) (a := ta) (xs := xs)) hD (fun i => match L.sts[i]? with | some s => .str s.name | none => .non) (fun _ => true) (by omega) (fun H s => sT s hA) ?_ ?_
  · rintro k y H2 H3 Nk Ns hk s2 ⟨rfl, hy⟩ k1 k2
    obtain ⟨s, es, hs⟩ := pget hP hy
    obtain ⟨b, bd, bt, rfl, hb, ht⟩ := id hs
    refine ⟨rfl, tyes_if ?_⟩
    refine ⟨_, rfl, b, bd, _, rfl, s2 _ _ hb, _, s, rfl, hs.mono (sameI s2), ?_⟩
    have := k1 rfl _ (Same.refl _)
    rw [es] at this
    exact this
  · intro H2 s2 h2
    have hn : H2 D = some (.lst (L.names.map V.str)) := by
      refine h2.trans (congrArg (fun z => some (HO.lst z)) ?_)
      rw [filter_true]
      apply List.ext_getElem?
      intro i
      rw [List.getElem?_map, List.getElem?_map]
      show _ = Option.map V.str ((L.sts.map Sta.name)[i]?)
      rw [List.getElem?_map]
      rcases Nat.lt_or_ge i L.sts.length with c | c
      · rw [List.getElem?_range (by omega), List.getElem?_eq_getElem c]
        show some (match L.sts[i]? with | some s => V.str s.name | none => .non) = _
        rw [List.getElem?_eq_getElem c]; rfl
      · rw [List.getElem?_eq_none (by rw [List.length_range]; omega), List.getElem?_eq_none c]; rfl
    have s02 := s1.trans s2
    refine ⟨_, rfl, _, rfl, tb, D, L.lks, L.names, rfl, hK.mono (sameI s02), SqL.of hn, by omega, fun l hl => ⟨hO.src l hl, hO.tgt l hl⟩, fun H3 s3 => ?_⟩
    have s03 := s02.trans s3
    refine ⟨_, rfl, _, .ty "str", _, _, true, rfl, .ty _, .base (.str L.out), kit_ty (by decide +kernel), _, rfl, ite_f (b := !true) rfl ?_⟩
    refine ⟨_, rfl, _, rfl, D, _, rfl, .inl (SqL.of (s3 _ _ hn)), rfl, flat_strs' _, ?_⟩
    rw [inV_strs]
    refine ⟨_, rfl, ite_f (b := !decide (L.out ∈ L.names)) (by rw [decide_eq_true hO.out]; rfl) ?_⟩
    refine ⟨_, rfl, _, rfl, _, rfl, by show 3 ≤ sizeLine; omega, fun t nt => ?_⟩
    refine ⟨_, rfl, x, _, dx, [], rfl, sNew nt _ _ (s03 _ _ hx), c_Line E, a_Line_sides E, (by show 0 < 1000; decide), ?_⟩
    have nx : t ≠ x := fun e => by rw [e, s03 _ _ hx] at nt; cases nt
    have hk : ∀ c o, c ≠ x → H c = some o → upd (upd H3 t (.tup [.ref ta, .ref tb, .str L.out])) x (.ins (ga K "Line") dx [("sides", .ref t)]) c = some o := fun c o hc e => by rw [upd_ne hc]; exact sNew nt _ _ (s03 _ _ e)
    have kx := keepX_of (K := K) hx hk
    refine q _ hk ⟨x, dx, t, ta, tb, rfl, upd_same, SqT.of ?_, ?_, ?_⟩
    · rw [upd_ne nx]; exact upd_same
    · obtain ⟨ys, h1, h2⟩ := hS
      exact ⟨ys, kx.1 _ _ h1, L2.Paired.mapP h2 fun _ _ z => z.keep kx⟩
    · obtain ⟨ys, h1, h2⟩ := hK
      exact ⟨ys, kx.1 _ _ h1, L2.Paired.mapP h2 fun _ _ z => z.keep kx⟩
theorem sc_Line_stations : FnScope ["self"] ["self"] (defScope s_Line_stations) := ⟨rfl, rfl, rfl, by decide +kernel, rfl, by decide +kernel, by decide +kernel⟩
theorem bp_Line_stations (E : Env K mg base) : Binds K (fdAt K (pa K (ga K "Line") "stations")) ["self"] [] := (f_Line_stations E).bindsN fun _ _ _ _ _ _ us hl => match us, hl with | [_], _ => rfl
def sp_lstations (K : PySem.W.Frag) : Sp := fun vs H Q _ => ∃ (v : V) (L : Lin), vs = [v] ∧ LineAt K H v L ∧ ∀ ta, StasAt K H ta L.sts → Q (.ref ta) H
theorem ok_Line_stations (E : Env K mg base) : FnOk P w K mg base CX0 1 (pa K (ga K "Line") "stations") (fdAt K (pa K (ga K "Line") "stations")) ["self"] ((sp_lstations K)) := by
  refine okD (f_Line_stations E) sc_Line_stations (fun cdv A outer s H vs Q X hr h => ?_) (fun vs H Q X h => by obtain ⟨_, _, rfl, _⟩ := h; rfl)
  obtain ⟨v, L, rfl, ⟨a, dx, t, ta, tb, rfl, ha, ht, h3, h4⟩, q⟩ := h
  refine ⟨_, (pss_one (ps_ret (pe_ix (ixT K) (pe_fldK K (pv 0)) pe_int (fun _ _ => rfl)))), ?_⟩
  exact ⟨_, rfl, a, _, _, _, .ref t, rfl, ha, c_Line E, a_Line_sides E, rfl, t, _, _, _, rfl, rfl, ht, rfl, q ta h3⟩
theorem sc_Line_links : FnScope ["self"] ["self"] (defScope s_Line_links) := ⟨rfl, rfl, rfl, by decide +kernel, rfl, by decide +kernel, by decide +kernel⟩
theorem bp_Line_links (E : Env K mg base) : Binds K (fdAt K (pa K (ga K "Line") "links")) ["self"] [] := (f_Line_links E).bindsN fun _ _ _ _ _ _ us hl => match us, hl with | [_], _ => rfl
def sp_llinks (K : PySem.W.Frag) : Sp := fun vs H Q _ => ∃ (v : V) (L : Lin), vs = [v] ∧ LineAt K H v L ∧ ∀ tb, LnksAt K H tb L.lks → Q (.ref tb) H
theorem ok_Line_links (E : Env K mg base) : FnOk P w K mg base CX0 1 (pa K (ga K "Line") "links") (fdAt K (pa K (ga K "Line") "links")) ["self"] ((sp_llinks K)) := by
  refine okD (f_Line_links E) sc_Line_links (fun cdv A outer s H vs Q X hr h => ?_) (fun vs H Q X h => by obtain ⟨_, _, rfl, _⟩ := h; rfl)
  obtain ⟨v, L, rfl, ⟨a, dx, t, ta, tb, rfl, ha, ht, h3, h4⟩, q⟩ := h
  refine ⟨_, (pss_one (ps_ret (pe_ix (ixT K) (pe_fldK K (pv 0)) pe_int (fun _ _ => rfl)))), ?_⟩
  exact ⟨_, rfl, a, _, _, _, .ref t, rfl, ha, c_Line E, a_Line_sides E, rfl, t, _, _, _, rfl, rfl, ht, rfl, q tb h4⟩
theorem sc_Line_outlet : FnScope ["self"] ["self"] (defScope s_Line_outlet) := ⟨rfl, rfl, rfl, by decide +kernel, rfl, by decide +kernel, by decide +kernel⟩
theorem bp_Line_outlet (E : Env K mg base) : Binds K (fdAt K (pa K (ga K "Line") "outlet")) ["self"] [] := (f_Line_outlet E).bindsN fun _ _ _ _ _ _ us hl => match us, hl with | [_], _ => rfl
def sp_loutlet (K : PySem.W.Frag) : Sp := fun vs H Q _ => ∃ (v : V) (L : Lin), vs = [v] ∧ LineAt K H v L ∧ Q (.str L.out) H
theorem ok_Line_outlet (E : Env K mg base) : FnOk P w K mg base CX0 1 (pa K (ga K "Line") "outlet") (fdAt K (pa K (ga K "Line") "outlet")) ["self"] ((sp_loutlet K)) := by
  refine okD (f_Line_outlet E) sc_Line_outlet (fun cdv A outer s H vs Q X hr h => ?_) (fun vs H Q X h => by obtain ⟨_, _, rfl, _⟩ := h; rfl)
  obtain ⟨v, L, rfl, ⟨a, dx, t, ta, tb, rfl, ha, ht, h3, h4⟩, q⟩ := h
  refine ⟨_, (pss_one (ps_ret (pe_ix (ixT K) (pe_fldK K (pv 0)) pe_int (fun _ _ => rfl)))), ?_⟩
  exact ⟨_, rfl, a, _, _, _, .ref t, rfl, ha, c_Line E, a_Line_sides E, rfl, t, _, _, _, rfl, rfl, ht, rfl, q⟩
theorem names_of {ss : List Sta} : ((List.range ss.length).map fun i => match ss[i]? with | some s => V.str s.name | none => .non) = (ss.map Sta.name).map V.str := by
  apply List.ext_getElem?
  intro i
  rw [List.getElem?_map, List.getElem?_map, List.getElem?_map]
  rcases Nat.lt_or_ge i ss.length with c | c
  · rw [List.getElem?_range (by omega), List.getElem?_eq_getElem c]
    show some (match ss[i]? with | some s => V.str s.name | none => .non) = _
    rw [List.getElem?_eq_getElem c]; rfl
  · rw [List.getElem?_eq_none (by rw [List.length_range]; omega), List.getElem?_eq_none c]; rfl
theorem timed_of : ∀ (ss : List Sta), (((List.range ss.length).filter fun i => match ss[i]? with | some s => s.timed | none => false).map fun i => match ss[i]? with | some s => V.str s.name | none => .non) = ((ss.filter Sta.timed).map Sta.name).map V.str := by
  intro ss
  have g : ∀ n, n ≤ ss.length → (((List.range n).filter fun i => match ss[i]? with | some s => s.timed | none => false).map fun i => match ss[i]? with | some s => V.str s.name | none => .non) = (((ss.take n).filter Sta.timed).map Sta.name).map V.str := by
    intro n
    induction n with
    | zero => intro _; rfl
    | succ n ih =>
      intro hn
      have hlt : n < ss.length := by omega
      have e : ss[n]? = some ss[n] := List.getElem?_eq_getElem hlt
      rw [List.range_succ, List.filter_append, List.map_append, ih (by omega), List.take_succ, e, List.filter_append, List.map_append, List.map_append]
      congr 1
      show List.map _ (List.filter _ [n]) = _
      rw [List.filter_cons, e]
      show List.map _ (if ss[n].timed = true then n :: [] else []) = List.map V.str (List.map Sta.name (List.filter Sta.timed [ss[n]]))
      rw [List.filter_cons]
      cases hb : ss[n].timed with
      | true =>
        rw [if_pos rfl, if_pos rfl, List.map_cons, e]; rfl
      | false => rfl
  have := g ss.length (Nat.le_refl _)
  rw [List.take_length] at this
  exact this
theorem sc_Line_names : FnScope ["self", "station"] ["self"] (defScope s_Line_names) := ⟨rfl, rfl, rfl, by decide +kernel, rfl, by decide +kernel, by decide +kernel⟩
theorem bp_Line_names (E : Env K mg base) : Binds K (fdAt K (pa K (ga K "Line") "names")) ["self"] [] := (f_Line_names E).bindsN fun _ _ _ _ _ _ us hl => match us, hl with | [_], _ => rfl
def sp_lnames (K : PySem.W.Frag) : Sp := fun vs H Q _ => ∃ (v : V) (L : Lin), vs = [v] ∧ LineAt K H v L ∧ L.sts.length ≤ 60 ∧ ∀ H' t, Same H H' → SqT K H' t (L.names.map V.str) → Q (.ref t) H'
theorem ok_Line_names (E : Env K mg base) : FnOk P w K mg base CX0 3 (pa K (ga K "Line") "names") (fdAt K (pa K (ga K "Line") "names")) ["self"] ((sp_lnames K)) := by
  refine okD (f_Line_names E) sc_Line_names (fun cdv A outer s H vs Q X hr h => ?_) (fun vs H Q X h => by obtain ⟨_, _, rfl, _⟩ := h; rfl)
  obtain ⟨v, L, rfl, ⟨a, dx, t, ta, tb, rfl, ha, ht, ⟨xs, hA, hP⟩, h4⟩, h60, q⟩ := h
  have hxl : L.sts.length = xs.length := Paired.length hP
  refine ⟨_, (pss_one (ps_ret (pe_callTy (tupK K) rfl (n_tuple E) boot_tuple (pa_cons (pe_lc (own := [("station", 1)]) (g := (gName 1)) rfl sc_Line_names.nd (pi_tup (pe_ix (ixT K) (pe_fldK K (pv 0)) pe_int (fun _ _ => rfl))) (blkOk_by (own := [("station", 1)]) (N := (["self", "station"] : List Str)) (sc := defScope s_Line_names) (by decide +kernel)) (fun _ _ _ _ _ => (pg_name (i := 1) sc_Line_names.nd rfl (Or.inl rfl))) (fun _ _ _ _ _ => pts_nil) (fun _ _ _ _ _ => (pe_pr (pv 1) (c_Station E) (p_Station_name E) (ok_Station_name E) (hr.mono (by decide)) (bp_Station_name E) rfl))) pa_nil)))), ?_⟩
  refine ⟨_, rfl, a, _, _, _, .ref t, rfl, ha, c_Line E, a_Line_sides E, rfl, t, _, _, .ref ta, rfl, rfl, ht, rfl, ta, rfl, ⟨xs, hA⟩, fun D hD => ?_⟩
  refine lc_map (walk_tup (K := K) (a := ta) (xs := xs)) hD (fun i => match L.sts[i]? with | some s => .str s.name | none => .non) (fun _ => true) (by omega) (fun H s => sT s hA) ?_ ?_
  · rintro k y H2 H3 Nk Ns hk s2 ⟨rfl, hy⟩ k1 k2
    obtain ⟨s, es, hs⟩ := pget hP hy
    obtain ⟨b, bd, bt, rfl, hb, ht⟩ := id hs
    refine ⟨rfl, tyes_if ?_⟩
    refine ⟨_, rfl, b, bd, _, rfl, s2 _ _ hb, _, s, rfl, hs.mono (sameI s2), ?_⟩
    have := k1 rfl _ (Same.refl _)
    rw [es] at this
    exact this
  · intro H2 s2 h2
    rw [filter_true, ← hxl, names_of] at h2
    exact ⟨D, _, rfl, .inl ⟨SqL.of h2, fun l hl => q _ l (s2.trans (sNew hl)) (SqT.of upd_same)⟩⟩
theorem sc_Line_timed : FnScope ["self", "station"] ["self"] (defScope s_Line_timed) := ⟨rfl, rfl, rfl, by decide +kernel, rfl, by decide +kernel, by decide +kernel⟩
theorem bp_Line_timed (E : Env K mg base) : Binds K (fdAt K (pa K (ga K "Line") "timed")) ["self"] [] := (f_Line_timed E).bindsN fun _ _ _ _ _ _ us hl => match us, hl with | [_], _ => rfl
def sp_ltimed (K : PySem.W.Frag) : Sp := fun vs H Q _ => ∃ (v : V) (L : Lin), vs = [v] ∧ LineAt K H v L ∧ L.sts.length ≤ 60 ∧ ∀ H' t (zs : List Str), Same H H' → zs.Perm ((L.sts.filter Sta.timed).map Sta.name) → SqT K H' t (zs.map V.str) → Q (.ref t) H'
theorem ok_Line_timed (E : Env K mg base) : FnOk P w K mg base CX0 3 (pa K (ga K "Line") "timed") (fdAt K (pa K (ga K "Line") "timed")) ["self"] ((sp_ltimed K)) := by
  refine okD (f_Line_timed E) sc_Line_timed (fun cdv A outer s H vs Q X hr h => ?_) (fun vs H Q X h => by obtain ⟨_, _, rfl, _⟩ := h; rfl)
  obtain ⟨v, L, rfl, ⟨a, dx, t, ta, tb, rfl, ha, ht, ⟨xs, hA, hP⟩, h4⟩, h60, q⟩ := h
  have hxl : L.sts.length = xs.length := Paired.length hP
  refine ⟨_, (pss_one (ps_ret (pe_callTy (tupK K) rfl (n_tuple E) boot_tuple (pa_cons (pe_callB cr_sortedS rfl (n_sorted E) boot_sorted (pa_cons (pe_lc (own := [("station", 1)]) (g := (gName 1)) rfl sc_Line_timed.nd (pi_tup (pe_ix (ixT K) (pe_fldK K (pv 0)) pe_int (fun _ _ => rfl))) (blkOk_by (own := [("station", 1)]) (N := (["self", "station"] : List Str)) (sc := defScope s_Line_timed) (by decide +kernel)) (fun _ _ _ _ _ => (pg_name (i := 1) sc_Line_timed.nd rfl (Or.inl rfl))) (fun _ _ _ _ _ => (pts_one (pt_val (pe_pr (pv 1) (c_Station E) (p_Station_timed E) (ok_Station_timed E) (hr.mono (by decide)) (bp_Station_timed E) rfl)))) (fun _ _ _ _ _ => (pe_pr (pv 1) (c_Station E) (p_Station_name E) (ok_Station_name E) (hr.mono (by decide)) (bp_Station_name E) rfl))) pa_nil)) pa_nil)))), ?_⟩
  refine ⟨_, rfl, a, _, _, _, .ref t, rfl, ha, c_Line E, a_Line_sides E, rfl, t, _, _, .ref ta, rfl, rfl, ht, rfl, ta, rfl, ⟨xs, hA⟩, fun D hD => ?_⟩
  refine lc_map (walk_tup (K := K) (a := ta) (xs := xs)) hD (fun i => match L.sts[i]? with | some s => .str s.name | none => .non) (fun i => match L.sts[i]? with | some s => s.timed | none => false) (by omega) (fun H s => sT s hA) ?_ ?_
  · rintro k y H2 H3 Nk Ns hk s2 ⟨rfl, hy⟩ k1 k2
    obtain ⟨s, es, hs⟩ := pget hP hy
    rw [es] at k1 k2
    obtain ⟨b, bd, bt, rfl, hb, ht⟩ := id hs
    refine ⟨rfl, ?_⟩
    refine ⟨_, rfl, b, bd, _, rfl, s2 _ _ hb, _, s, rfl, hs.mono (sameI s2), _, rfl, ?_⟩
    cases hb' : s.timed with
    | true => exact ite_t rfl ⟨_, rfl, b, bd, _, rfl, s2 _ _ hb, _, s, rfl, hs.mono (sameI s2), k1 hb' _ (Same.refl _)⟩
    | false => exact ite_f rfl (k2 hb' _ (Same.refl _))
  · intro H2 s2 h2
    rw [← hxl, timed_of] at h2
    refine ⟨D, _, rfl, SqL.of h2, ?_, fun ys p hp hs np => ?_⟩
    · rw [List.length_map]
      have := List.length_filter_le Sta.timed L.sts
      omega
    · exact ⟨p, _, rfl, .inl ⟨SqL.of upd_same, fun l hl => q _ l ys ((s2.trans (sNew np)).trans (sNew hl)) hp (SqT.of upd_same)⟩⟩
theorem sc_Line_len : FnScope ["self"] ["self"] (defScope s_Line_len) := ⟨rfl, rfl, rfl, by decide +kernel, rfl, by decide +kernel, by decide +kernel⟩
theorem b_Line_len (E : Env K mg base) : Binds K (fdAt K (ma K (ga K "Line") "__len__")) ["self"] [] := (f_Line_len E).bindsN fun _ _ _ _ _ _ us hl => match us, hl with | [_], _ => rfl
def sp_llen (K : PySem.W.Frag) : Sp := fun vs H Q _ => ∃ (v : V) (L : Lin), vs = [v] ∧ LineAt K H v L ∧ Q (.int (L.sts.length : Nat)) H
theorem ok_Line_len (E : Env K mg base) : FnOk P w K mg base CX0 1 (ma K (ga K "Line") "__len__") (fdAt K (ma K (ga K "Line") "__len__")) ["self"] ((sp_llen K)) := by
  refine okD (f_Line_len E) sc_Line_len (fun cdv A outer s H vs Q X hr h => ?_) (fun vs H Q X h => by obtain ⟨_, _, rfl, _⟩ := h; rfl)
  obtain ⟨v, L, rfl, ⟨a, dx, t, ta, tb, rfl, ha, ht, ⟨xs, hA, hP⟩, h4⟩, q⟩ := h
  have hxl : L.sts.length = xs.length := Paired.length hP
  rw [hxl] at q
  refine ⟨_, (pss_one (ps_ret (pe_callB (lenK K) rfl (n_len E) boot_len (pa_cons (pe_ix (ixT K) (pe_fldK K (pv 0)) pe_int (fun _ _ => rfl)) pa_nil)))), ?_⟩
  exact ⟨_, rfl, a, _, _, _, .ref t, rfl, ha, c_Line E, a_Line_sides E, rfl, t, _, _, .ref ta, rfl, rfl, ht, rfl, ta, xs, rfl, .inr hA, q⟩
theorem sc_check_line : FnScope ["value"] ["value"] (defScope s_check_line) := ⟨rfl, rfl, rfl, by decide +kernel, rfl, by decide +kernel, by decide +kernel⟩
theorem b_check_line (E : Env K mg base) : Binds K (fdAt K (ga K "check_line")) ["value"] [] := (f_check_line E).bindsN fun _ _ _ _ _ _ us hl => match us, hl with | [_], _ => rfl
def sp_cln (K : PySem.W.Frag) : Sp := fun vs H Q _ => ∃ (v : V) (L : Lin), vs = [v] ∧ LineAt K H v L ∧ Q .non H
theorem ok_check_line (E : Env K mg base) : FnOk P w K mg base CX0 11 (ga K "check_line") (fdAt K (ga K "check_line")) ["value"] ((sp_cln K)) := by
  refine okD (f_check_line E) sc_check_line (fun cdv A outer s H vs Q X hr h => ?_) (fun vs H Q X h => by obtain ⟨_, _, rfl, _⟩ := h; rfl)
  obtain ⟨v, L, rfl, ⟨a, dx, t, ta, tb, rfl, ha, _⟩, q⟩ := h
  refine ⟨_, (pss_one (ps_if (pt_not (pt_val (pe_callB (call_isOwn (qi_Line E)) rfl (n_isinstance E) boot_isinstance (pa_cons (pv 0) (pa_cons (pe_glob (v := .ref (ga K "Line")) rfl (g_Line E) rfl) pa_nil))))) (pss_one ps_never) pss_nil)), ?_⟩
  exact ⟨_, rfl, a, _, dx, _, rfl, rfl, ha, _, rfl, ite_f (b := !true) rfl q⟩
theorem sc_check_station : FnScope ["line", "value"] ["line", "value"] (defScope s_check_station) := ⟨rfl, rfl, rfl, by decide +kernel, rfl, by decide +kernel, by decide +kernel⟩
theorem b_check_station (E : Env K mg base) : Binds K (fdAt K (ga K "check_station")) ["line", "value"] [] := (f_check_station E).bindsN fun _ _ _ _ _ _ us hl => match us, hl with | [_, _], _ => rfl
def sp_cst (K : PySem.W.Frag) : Sp := fun vs H Q _ => ∃ (v : V) (L : Lin) (z : Str), vs = [v, .str z] ∧ LineAt K H v L ∧ L.sts.length ≤ 60 ∧ z ∈ L.names ∧ ∀ H', Same H H' → Q .non H'
theorem ok_check_station (E : Env K mg base) : FnOk P w K mg base CX0 5 (ga K "check_station") (fdAt K (ga K "check_station")) ["line", "value"] ((sp_cst K)) := by
  refine okD (f_check_station E) sc_check_station (fun cdv A outer s H vs Q X hr h => ?_) (fun vs H Q X h => by obtain ⟨_, _, _, rfl, _⟩ := h; rfl)
  obtain ⟨v, L, z, rfl, hL, h60, hz, q⟩ := h
  obtain ⟨a, dx, t, ta, tb, rfl, ha, _⟩ := id hL
  refine ⟨_, (pss_one (ps_if (PW.pt (pw_or (pt_not (pt_val (pe_callB call_isi rfl (n_isinstance E) boot_isinstance (pa_cons (pv 1) (pa_cons (pe_bltn (v := .ty "str") rfl (n_str E) boot_str rfl) pa_nil))))) (pw_or1 (pt_cmpR (opNotInK K) (pv 1) (pe_pr (pv 0) (c_Line E) (p_Line_names E) (ok_Line_names E) (hr.mono (by decide)) (bp_Line_names E) rfl) rfl)))) (pss_one ps_never) pss_nil)), ?_⟩
  refine ⟨_, rfl, _, .ty "str", _, _, true, rfl, .ty _, .base (.str z), kit_ty (by decide +kernel), _, rfl, ite_f (b := !true) rfl ?_⟩
  refine ⟨_, rfl, _, rfl, a, dx, _, rfl, ha, _, L, rfl, hL, h60, fun H1 p s1 h1 => ?_⟩
  refine ⟨p, _, rfl, .inr h1, rfl, flat_strs' _, ?_⟩
  rw [inV_strs]
  exact ⟨_, rfl, ite_f (b := !decide (z ∈ L.names)) (by rw [decide_eq_true hz]; rfl) (q H1 s1)⟩
end
end Own
set_option Elab.async false
set_option linter.all false
/-! what begins when: the walk's rows as sets -/
namespace Own
open PySem PySem.Spec PyProof.Rows L2
/-- ties without stock go up -/
def Acyc (L : Lin) : Prop := ∃ rk : Str → Nat, ∀ l ∈ L.lks, l.stock = 0 → rk l.src < rk l.tgt
/-- an entry of a station: lag, name, early -/
inductive Ent (L : Lin) : Str → Nat → Str → Bool → Prop
  | hands {s : Sta} {h : Nat} : s ∈ L.sts → s.hands = some h → Ent L s.name h s.name false
  | tie {l : Lnk} : l ∈ L.lks → Ent L l.tgt l.stock l.src l.early
/-- begins -/
inductive Bg (L : Lin) (z : Str) : Nat → Str → Prop
  | first {n : Str} {lag : Nat} : Ent L n lag z false → Bg L z lag n
  | next {d lag : Nat} {m n : Str} {p : Bool} : Bg L z d m → Ent L n lag m p → Bg L z (d + lag) n
/-- ends -/
def En (L : Lin) (z : Str) (d : Nat) (n : Str) : Prop := (d = 0 ∧ n = z) ∨ Bg L z d n
/-- at a place -/
def Pl (L : Lin) (z : Str) : Bool → Nat → Str → Prop
  | true => Bg L z
  | false => En L z
theorem Bg.iff {L : Lin} {z : Str} {d : Nat} {n : Str} : Bg L z d n ↔ ∃ lag m p, Ent L n lag m p ∧ lag ≤ d ∧ Pl L z p (d - lag) m := by
  constructor
  · intro h
    cases h with
    | first h => exact ⟨_, _, _, h, Nat.le_refl _, .inl ⟨Nat.sub_self _, rfl⟩⟩
    | @next d' lag m _ p h1 h2 =>
      refine ⟨_, _, _, h2, by omega, ?_⟩
      have e : d' + lag - lag = d' := by omega
      rw [e]
      cases p
      · exact .inr h1
      · exact h1
  · rintro ⟨lag, m, p, h1, h2, h3⟩
    have hB : ∀ d', d' + lag = d → Bg L z d' m → Bg L z d n := fun d' e h => by
      subst e
      exact .next h h1
    cases p
    · rcases h3 with ⟨e, rfl⟩ | h
      · have : d = lag := by omega
        subst this
        exact .first h1
      · exact hB (d - lag) (by omega) h
    · exact hB (d - lag) (by omega) h3
theorem Ent.mem {L : Lin} (hO : L.Ok) {n m : Str} {lag : Nat} {p : Bool} (h : Ent L n lag m p) : n ∈ L.names ∧ m ∈ L.names ∧ lag ≤ 3 := by
  cases h with
  | hands hs hh => exact ⟨List.mem_map.mpr ⟨_, hs, rfl⟩, List.mem_map.mpr ⟨_, hs, rfl⟩, (hO.hands _ hs _ hh).2⟩
  | tie hl => exact ⟨hO.tgt _ hl, hO.src _ hl, hO.stock _ hl⟩
theorem Bg.mem {L : Lin} (hO : L.Ok) {z n : Str} {d : Nat} (h : Bg L z d n) : n ∈ L.names := by
  cases h with
  | first h => exact (h.mem hO).1
  | next _ h => exact (h.mem hO).1
theorem Ent.up {L : Lin} (hO : L.Ok) {rk : Str → Nat} (hr : ∀ l ∈ L.lks, l.stock = 0 → rk l.src < rk l.tgt) {n m : Str} {p : Bool} (h : Ent L n 0 m p) : rk m < rk n := by
  generalize e : 0 = k at h
  cases h with
  | hands hs hh => have := (hO.hands _ hs _ hh).1; omega
  | tie hl => exact hr _ hl e.symm
/-- some steps -/
inductive Cn (L : Lin) : Str → Str → Nat → Prop
  | one {m n : Str} {lag : Nat} {p : Bool} : Ent L n lag m p → Cn L m n lag
  | more {k m n : Str} {e lag : Nat} {p : Bool} : Cn L k m e → Ent L n lag m p → Cn L k n (e + lag)
theorem Cn.trans {L : Lin} {a b c : Str} {e f : Nat} (h : Cn L a b e) (g : Cn L b c f) : Cn L a c (e + f) := by
  induction g with
  | one hE => exact .more h hE
  | more _ hE ih => rw [← Nat.add_assoc]; exact .more ih hE
theorem Cn.bg {L : Lin} {z a b : Str} {d e : Nat} (g : Cn L a b e) (h : Bg L z d a) : Bg L z (d + e) b := by
  induction g with
  | one hE => exact .next h hE
  | more _ hE ih => rw [← Nat.add_assoc]; exact .next ih hE
theorem Cn.up {L : Lin} (hO : L.Ok) {rk : Str → Nat} (hr : ∀ l ∈ L.lks, l.stock = 0 → rk l.src < rk l.tgt) {a b : Str} {e : Nat} (g : Cn L a b e) (h0 : e = 0) : rk a < rk b := by
  induction g with
  | @one n lag p hE => subst h0; exact hE.up hO hr
  | @more m n e lag p _ hE ih =>
    have h1 : e = 0 := by omega
    have h2 : lag = 0 := by omega
    subst h2
    have := ih h1
    have := hE.up hO hr
    omega
theorem nodup_le : ∀ {n : Nat} {l : List Nat}, l.Nodup → (∀ x ∈ l, x < n) → l.length ≤ n
  | 0, [], _, _ => Nat.le_refl _
  | 0, x :: l, _, h => by have := h x List.mem_cons_self; omega
  | n + 1, l, hd, h => by
    have h1 : (l.filter fun x => decide (x ≠ n)).length ≤ n := by
      refine nodup_le (List.Pairwise.filter _ hd) fun x hx => ?_
      obtain ⟨h2, h3⟩ := List.mem_filter.mp hx
      have h3 := of_decide_eq_true h3
      have := h x h2
      omega
    have h2 : ∀ l : List Nat, l.Nodup → l.length ≤ (l.filter fun x => decide (x ≠ n)).length + 1 := by
      intro l
      induction l with
      | nil => intro _; exact Nat.zero_le _
      | cons y l ih =>
        intro hd
        obtain ⟨hy, hd⟩ := List.nodup_cons.mp hd
        by_cases c : y = n
        · subst c
          have e : (l.filter fun x => decide (x ≠ y)) = l := List.filter_eq_self.mpr fun x hx => decide_eq_true fun e => hy (e ▸ hx)
          rw [List.filter_cons_of_neg (by simp), e]
          exact Nat.le_refl _
        · rw [List.filter_cons_of_pos (by simp [c])]
          have := ih hd
          show l.length + 1 ≤ _ + 1 + 1
          omega
    have := h2 l hd
    omega
/-- what begins late enough may begin later by some 1..12 again and again -/
theorem Bg.pump {L : Lin} (hO : L.Ok) (hA : Acyc L) {z n : Str} {d : Nat} (h : Bg L z d n) (hd : 13 ≤ d) : ∃ c, 1 ≤ c ∧ c ≤ 12 ∧ ∀ k, Bg L z (d + c * k) n := by
  obtain ⟨rk, hr⟩ := hA
  have unroll : ∀ {d : Nat} {n : Str}, Bg L z d n → 4 ≤ d → ∃ d' m l, Bg L z d' m ∧ Cn L m n l ∧ l ≤ 3 ∧ d = d' + l := by
    intro d n h hd
    cases h with
    | first hE => have := (hE.mem hO).2.2; omega
    | next hB hE => exact ⟨_, _, _, hB, .one hE, (hE.mem hO).2.2, rfl⟩
  have fin : ∀ {x : Str} {t c e : Nat}, Bg L z t x → Cn L x x c → (Cn L x n e ∨ (x = n ∧ e = 0)) → d = t + c + e → c ≤ 12 → ∃ c, 1 ≤ c ∧ c ≤ 12 ∧ ∀ k, Bg L z (d + c * k) n := by
    intro x t c e hB hC hE he hc
    refine ⟨c, ?_, hc, fun k => ?_⟩
    · rcases Nat.eq_zero_or_pos c with e0 | e0
      · have := hC.up hO hr e0; omega
      · exact e0
    · have hk : ∀ k, Bg L z (t + c + c * k) x := by
        intro k
        induction k with
        | zero => exact hC.bg hB
        | succ k ih =>
          have := hC.bg ih
          have e1 : c * (k + 1) = c * k + c := Nat.mul_succ _ _
          have e2 : t + c + c * (k + 1) = t + c + c * k + c := by omega
          rw [e2]; exact this
      rcases hE with hE | ⟨rfl, rfl⟩
      · have := hE.bg (hk k)
        have e2 : d + c * k = t + c + c * k + e := by omega
        rw [e2]; exact this
      · have e2 : d + c * k = t + c + c * k := by omega
        rw [e2]; exact hk k
  obtain ⟨d4, n4, l4, b4, c4, le4, rfl⟩ := unroll h (by omega)
  obtain ⟨d3, n3, l3, b3, c3, le3, rfl⟩ := unroll b4 (by omega)
  obtain ⟨d2, n2, l2, b2, c2, le2, rfl⟩ := unroll b3 (by omega)
  obtain ⟨d1, n1, l1, b1, c1, le1, rfl⟩ := unroll b2 (by omega)
  by_cases e12 : n1 = n2
  · subst e12; exact fin b1 c1 (.inl ((c2.trans c3).trans c4)) (by omega) (by omega)
  by_cases e13 : n1 = n3
  · subst e13; exact fin b1 (c1.trans c2) (.inl (c3.trans c4)) (by omega) (by omega)
  by_cases e14 : n1 = n4
  · subst e14; exact fin b1 ((c1.trans c2).trans c3) (.inl c4) (by omega) (by omega)
  by_cases e15 : n1 = n
  · subst e15; exact fin b1 (((c1.trans c2).trans c3).trans c4) (.inr ⟨rfl, rfl⟩) (by omega) (by omega)
  by_cases e23 : n2 = n3
  · subst e23; exact fin b2 c2 (.inl (c3.trans c4)) (by omega) (by omega)
  by_cases e24 : n2 = n4
  · subst e24; exact fin b2 (c2.trans c3) (.inl c4) (by omega) (by omega)
  by_cases e25 : n2 = n
  · subst e25; exact fin b2 ((c2.trans c3).trans c4) (.inr ⟨rfl, rfl⟩) (by omega) (by omega)
  by_cases e34 : n3 = n4
  · subst e34; exact fin b3 c3 (.inl c4) (by omega) (by omega)
  by_cases e35 : n3 = n
  · subst e35; exact fin b3 (c3.trans c4) (.inr ⟨rfl, rfl⟩) (by omega) (by omega)
  by_cases e45 : n4 = n
  · subst e45; exact fin b4 c4 (.inr ⟨rfl, rfl⟩) (by omega) (by omega)
  exfalso
  have m1 := b1.mem hO
  have m2 := b2.mem hO
  have m3 := b3.mem hO
  have m4 := b4.mem hO
  have m5 := h.mem hO
  have inj : ∀ {x y : Str}, x ∈ L.names → L.names.idxOf x = L.names.idxOf y → x = y := fun {x y} hx e => by
    have hl := List.idxOf_lt_length_of_mem hx
    have e1 : L.names[L.names.idxOf x] = x := List.getElem_idxOf hl
    have hl2 : L.names.idxOf y < L.names.length := by omega
    have e2 : L.names[L.names.idxOf y] = y := List.getElem_idxOf hl2
    rw [← e1, ← e2]
    congr 1
  have hnd : ([n1, n2, n3, n4, n].map L.names.idxOf).Nodup := by
    simp only [List.map_cons, List.map_nil, List.nodup_cons, List.mem_cons, List.not_mem_nil, or_false, not_or, List.nodup_nil, not_false_eq_true, and_true]
    exact ⟨⟨fun e => e12 (inj m1 e), fun e => e13 (inj m1 e), fun e => e14 (inj m1 e), fun e => e15 (inj m1 e)⟩, ⟨fun e => e23 (inj m2 e), fun e => e24 (inj m2 e), fun e => e25 (inj m2 e)⟩, ⟨fun e => e34 (inj m3 e), fun e => e35 (inj m3 e)⟩, fun e => e45 (inj m4 e)⟩
  have := nodup_le (n := L.names.length) hnd fun x hx => by
    obtain ⟨y, hy, rfl⟩ := List.mem_map.mp hx
    refine List.idxOf_lt_length_of_mem ?_
    simp only [List.mem_cons, List.not_mem_nil, or_false] at hy
    rcases hy with rfl | rfl | rfl | rfl | rfl <;> assumption
  have hl : L.names.length ≤ 4 := by
    have := hO.n6
    rw [Lin.names, List.length_map]; exact this
  have h5 : ([n1, n2, n3, n4, n].map L.names.idxOf).length = 5 := rfl
  omega
theorem div12 {c : Nat} (h1 : 1 ≤ c) (h2 : c ≤ 12) : c ∣ 27720 := by
  have : c = 1 ∨ c = 2 ∨ c = 3 ∨ c = 4 ∨ c = 5 ∨ c = 6 ∨ c = 7 ∨ c = 8 ∨ c = 9 ∨ c = 10 ∨ c = 11 ∨ c = 12 := by omega
  rcases this with rfl | rfl | rfl | rfl | rfl | rfl | rfl | rfl | rfl | rfl | rfl | rfl <;> decide
theorem Bg.later {L : Lin} (hO : L.Ok) (hA : Acyc L) {z n : Str} {d : Nat} (h : Bg L z d n) (hd : 13 ≤ d) : Bg L z (d + 27720) n := by
  obtain ⟨c, h1, h2, h3⟩ := h.pump hO hA hd
  obtain ⟨k, hk⟩ := div12 h1 h2
  rw [hk]
  exact h3 k
/-- the rows repeat where a window of them does -/
theorem rows_repeat {L : Lin} (hO : L.Ok) (hA : Acyc L) {z : Str} {wd b e : Nat} (hw1 : 1 ≤ wd) (hw : ∀ {n m : Str} {lag : Nat} {p : Bool}, Ent L n lag m p → lag ≤ wd)
    (hwin : ∀ i, i < wd → ∀ p n, Pl L z p (b + i) n ↔ Pl L z p (e + i) n) : ∀ k p n, Pl L z p (b + k) n ↔ Pl L z p (e + k) n := by
  obtain ⟨rk, hr⟩ := hA
  have main : ∀ k, wd ≤ k → (∀ k', k' < k → ∀ p n, Pl L z p (b + k') n ↔ Pl L z p (e + k') n) → ∀ N n, rk n ≤ N → (Bg L z (b + k) n ↔ Bg L z (e + k) n) := by
    intro k hk ih N
    induction N using Nat.strongRecOn with
    | _ N ihN =>
      intro n hn
      rw [Bg.iff, Bg.iff]
      have step : ∀ {lag m p}, Ent L n lag m p → (Pl L z p (b + k - lag) m ↔ Pl L z p (e + k - lag) m) := by
        intro lag m p hE
        have hl := hw hE
        rcases Nat.eq_zero_or_pos lag with e0 | e0
        · subst e0
          have hup := hE.up hO hr
          have q := ihN (rk m) (by omega) m (Nat.le_refl _)
          cases p
          · constructor
            · rintro (⟨h, _⟩ | h)
              · omega
              · exact .inr (q.mp h)
            · rintro (⟨h, _⟩ | h)
              · omega
              · exact .inr (q.mpr h)
          · exact q
        · have q := ih (k - lag) (by omega) p m
          have e1 : b + k - lag = b + (k - lag) := by omega
          have e2 : e + k - lag = e + (k - lag) := by omega
          rw [e1, e2]; exact q
      constructor
      · rintro ⟨lag, m, p, h1, h2, h3⟩
        exact ⟨lag, m, p, h1, by have := hw h1; omega, (step h1).mp h3⟩
      · rintro ⟨lag, m, p, h1, h2, h3⟩
        exact ⟨lag, m, p, h1, by have := hw h1; omega, (step h1).mpr h3⟩
  intro k
  induction k using Nat.strongRecOn with
  | _ k ih =>
    intro p n
    by_cases c : k < wd
    · exact hwin k c p n
    · have q := main k (by omega) ih (rk n) n (Nat.le_refl _)
      cases p
      · constructor
        · rintro (⟨h, _⟩ | h)
          · omega
          · exact .inr (q.mp h)
        · rintro (⟨h, _⟩ | h)
          · omega
          · exact .inr (q.mpr h)
      · exact q
end Own
set_option Elab.async false
set_option linter.all false
set_option maxRecDepth 100000
set_option maxHeartbeats 4000000
/-! rings of ties -/
namespace Own
open PySem PySem.Spec PyProof.Rows L2 He OwnR
theorem while_m {c : TT} {tb : TS} {D : Ends} {σ : L2.St} {H : Hp} (Pv : Nat → L2.St → Hp → Prop) (h0 : ∃ m, Pv m σ H)
    (hs : ∀ m σ H, Pv m σ H → c σ H fun b H1 => if b = true then tb { D with nx := fun σ' H' => ∃ m', m' < m ∧ Pv m' σ' H', ct := fun σ' H' => ∃ m', m' < m ∧ Pv m' σ' H', bk := D.nx } σ H1 else D.nx σ H1)
    (hmono : ∀ σ H (Q Q' : Bool → Hp → Prop), (∀ b H, Q b H → Q' b H) → c σ H Q → c σ H Q') : tWhile c tb D σ H :=
  ⟨Pv, h0, fun m σ H p => hmono _ _ _ _ (fun b H1 h => by
    cases b with
    | false => exact h
    | true => exact ite_t rfl ⟨_, fun σ' H' z => z, h⟩) (hs m σ H p)⟩
theorem paired_of {α β : Type} {F : α → β → Prop} : ∀ {l : List α} {m : List β}, l.length = m.length → (∀ (i : Nat) (a : α) (b : β), l[i]? = some a → m[i]? = some b → F a b) → Paired F l m
  | [], [], _, _ => .nil
  | a :: l, b :: m, h, g => .cons (g 0 a b rfl rfl) (paired_of (by simpa using h) fun i a b h1 h2 => g (i + 1) a b (by simpa using h1) (by simpa using h2))
theorem putK_len' {κ : Type} [DecidableEq κ] (c : List (κ × V)) (k : κ) (x : V) : (putK c k x).length ≤ c.length + 1 := by
  unfold putK
  split
  · rw [List.length_map]; omega
  · rw [List.length_append]; exact Nat.le_refl _
theorem paired_range {β γ : Type} {n : Nat} {P : Nat → β → Prop} {F : γ → β → Prop} {ps : List γ} {us : List β} (h : Paired P (List.range n) us) (hn : ps.length = n) (g : ∀ i p v, ps[i]? = some p → P i v → F p v) : Paired F ps us := by
  have e := Paired.length h
  rw [List.length_range] at e
  refine paired_of (by omega) fun i a b h1 h2 => ?_
  obtain ⟨j, hj, hp⟩ := pget h h2
  have hi : i < n := by
    rw [← hn]
    exact (List.getElem?_eq_some_iff.mp h1).1
  rw [List.getElem?_range hi] at hj
  obtain rfl := Option.some.inj hj
  exact g i a b h1 hp
theorem paired_last {α β : Type} {F : α → β → Prop} : ∀ {l : List α} {m : List β}, Paired F l m → m ≠ [] → ∃ l' a m' b, l = l' ++ [a] ∧ m = m' ++ [b] ∧ Paired F l' m' ∧ F a b
  | _, _, .nil, h => absurd rfl h
  | _, _, .cons (l₁ := l) (l₂ := m) (a := a) (b := b) r t, _ => by
    cases t with
    | nil => exact ⟨[], a, [], b, rfl, rfl, .nil, r⟩
    | cons r2 t2 =>
      obtain ⟨l', a', m', b', e1, e2, p, q⟩ := paired_last (Paired.cons r2 t2) (by simp)
      exact ⟨a :: l', a', b :: m', b', by rw [e1]; rfl, by rw [e2]; rfl, .cons r p, q⟩
theorem at_last {α : Type} {f : α → V} {q : List α} {s : α} (h : q.getLast? = some s) : atI (q.map f) (-1) = some (f s) := by
  have hne : q ≠ [] := fun e => by rw [e] at h; cases h
  have hl : 0 < q.length := List.length_pos_iff.mpr hne
  have : ixN (q.map f).length (-1) = some (q.length - 1) := by
    unfold ixN
    rw [List.length_map, if_neg (by omega), if_pos (by omega)]
    congr 1; omega
  unfold atI
  rw [this]
  show (q.map f)[q.length - 1]? = _
  rw [List.getElem?_map, ← List.getLast?_eq_getElem?, h]
  rfl
theorem inV_ints (i : Int) : ∀ ns : List Int, inV (.int i) (ns.map V.int) = decide (i ∈ ns)
  | [] => rfl
  | y :: zs => by
    have ih := inV_ints i zs
    unfold inV at ih ⊢
    rw [List.map_cons, List.any_cons, ih]
    show ((y == i) || decide (i ∈ zs)) = _
    by_cases c : y = i
    · subst c; simp
    · have c' : ¬ i = y := fun e => c e.symm
      simp [c, c']
theorem inV_nats (t : Nat) (q : List Nat) : inV (.int (t : Nat)) (q.map fun k => .int (k : Nat)) = decide (t ∈ q) := by
  have e : (q.map fun k => V.int (k : Nat)) = (q.map fun k => ((k : Nat) : Int)).map V.int := by rw [List.map_map]; rfl
  rw [e, inV_ints]
  apply decide_eq_decide.mpr
  constructor
  · intro h
    obtain ⟨k, hk, e⟩ := List.mem_map.mp h
    have : k = t := by omega
    rw [← this]; exact hk
  · intro h
    exact List.mem_map.mpr ⟨t, h, rfl⟩
theorem flat_nats : ∀ q : List Nat, (q.map fun k => V.int (k : Nat)).all flatV = true
  | [] => rfl
  | z :: zs => by rw [List.map_cons, List.all_cons, flat_nats zs]; rfl
section
variable {P : Program} {w : World} {K : PySem.W.Frag} {mg : Str → Option Value} {base : Heap}
def Pr2 (K : PySem.W.Frag) (H : Hp) (p : Nat × Nat) (v : V) : Prop := ∃ t, v = .ref t ∧ SqT K H t [.int (p.1 : Nat), .int (p.2 : Nat)]
def PairsAt (K : PySem.W.Frag) (H : Hp) (a : Addr) (ps : List (Nat × Nat)) : Prop := ∃ xs, SqL K H a xs ∧ Paired (Pr2 K H) ps xs
theorem Pr2.mono {H H' : Hp} {p : Nat × Nat} {v : V} (h : Pr2 K H p v) (e : SameI H H') : Pr2 K H' p v := by
  obtain ⟨t, rfl, h⟩ := h
  exact ⟨t, rfl, e.seqT h⟩
theorem PairsAt.mono {H H' : Hp} {a : Addr} {ps : List (Nat × Nat)} (h : PairsAt K H a ps) (e : Same H H') : PairsAt K H' a ps := by
  obtain ⟨xs, h1, h2⟩ := h
  exact ⟨xs, e.seq h1, L2.Paired.mapP h2 fun _ _ z => z.mono (sameI e)⟩
def Lin.idx (L : Lin) (z : Str) : Nat := L.names.idxOf z
def Lin.ends (L : Lin) : List (Nat × Nat) := L.lks.map fun l => (L.idx l.src, L.idx l.tgt)
theorem sc_ends_of : FnScope ["line", "places", "index", "name", "link"] ["line"] (defScope s_ends_of) := ⟨rfl, rfl, rfl, by decide +kernel, rfl, by decide +kernel, by decide +kernel⟩
theorem b_ends_of (E : Env K mg base) : Binds K (fdAt K (ga K "ends_of")) ["line"] [] := (f_ends_of E).bindsN fun _ _ _ _ _ _ us hl => match us, hl with | [_], _ => rfl
def sp_eo (K : PySem.W.Frag) : Sp := fun vs H Q _ => ∃ (v : V) (L : Lin), vs = [v] ∧ LineAt K H v L ∧ L.Ok ∧ ∀ D H', Same H H' → PairsAt K H' D L.ends → Q (.ref D) H'
theorem names_get {L : Lin} {z : Str} (h : z ∈ L.names) : L.names[L.idx z]? = some z := by
  have := List.idxOf_lt_length_of_mem h
  rw [Lin.idx, List.getElem?_eq_getElem this, List.getElem_idxOf]
theorem idx_lt {L : Lin} {z : Str} (h : z ∈ L.names) : L.idx z < L.names.length := List.idxOf_lt_length_of_mem h
theorem ok_ends_of (E : Env K mg base) : FnOk P w K mg base CX0 5 (ga K "ends_of") (fdAt K (ga K "ends_of")) ["line"] ((sp_eo K)) := by
  refine okD (f_ends_of E) sc_ends_of (fun cdv A outer s H vs Q X hr h => ?_) (fun vs H Q X h => by obtain ⟨_, _, rfl, _⟩ := h; rfl)
  obtain ⟨v, L, rfl, hL, hO, q⟩ := h
  have n4 := hO.n6
  have n6 := hO.n12
  have hnl : L.names.length = L.sts.length := List.length_map _
  have e3 : sizeLine = 16777216 := sizeLine_eq
  obtain ⟨a, dx, t, ta, tb, rfl, ha, _⟩ := id hL
  refine ⟨_, (pss_cons (ps_set (i := 1) sc_ends_of.nd rfl (Or.inr rfl) (pe_dc (own := [("index", 2), ("name", 3)]) (g := (gTup K 2 (gCons (gName 2) (gCons (gName 3) gNil)))) rfl sc_ends_of.nd (pi_enumT rfl (n_enumerate E) (pa_cons (pe_pr (pv 0) (c_Line E) (p_Line_names E) (ok_Line_names E) (hr.mono (by decide)) (bp_Line_names E) rfl) pa_nil)) (blkOk_by (own := [("index", 2), ("name", 3)]) (N := (["line", "places", "index", "name", "link"] : List Str)) (sc := defScope s_ends_of) (by decide +kernel)) (fun _ _ _ _ _ => (pg_tup rfl (pgs_cons (pg_name (i := 2) sc_ends_of.nd rfl (Or.inl rfl)) (pgs_cons (pg_name (i := 3) sc_ends_of.nd rfl (Or.inl rfl)) pgs_nil)))) (fun _ _ _ _ _ => pts_nil) (fun _ _ _ _ _ => (pv 3)) (fun _ _ _ _ _ => (pv 2))))
      (pss_one (ps_ret (pe_lc (own := [("link", 4)]) (g := (gName 4)) rfl sc_ends_of.nd (pi_tup (pe_pr (pv 0) (c_Line E) (p_Line_links E) (ok_Line_links E) (hr.mono (by decide)) (bp_Line_links E) rfl)) (blkOk_by (own := [("link", 4)]) (N := (["line", "places", "index", "name", "link"] : List Str)) (sc := defScope s_ends_of) (by decide +kernel)) (fun _ _ _ _ _ => (pg_name (i := 4) sc_ends_of.nd rfl (Or.inl rfl))) (fun _ _ _ _ _ => pts_nil) (fun _ _ _ _ _ => (pe_tup (pa_cons (pe_dget (hu_of hr) (pv 1) (pe_pr (pv 4) (c_Link E) (p_Link_source E) (ok_Link_source E) (hr.mono (by decide)) (bp_Link_source E) rfl) (fun _ _ => rfl)) (pa_cons (pe_dget (hu_of hr) (pv 1) (pe_pr (pv 4) (c_Link E) (p_Link_target E) (ok_Link_target E) (hr.mono (by decide)) (bp_Link_target E) rfl) (fun _ _ => rfl)) pa_nil)))))))), ?_⟩
  refine ⟨_, rfl, a, dx, _, rfl, ha, _, L, rfl, hL, by omega, fun H1 tn s1 h1 => ⟨tn, _, rfl, h1, fun D hD => ?_⟩⟩
  refine dc_it (walk_enumT (K := K) (a := tn) (xs := L.names.map V.str)) (fun i H => Same H1 H ∧ ∃ kvs, H D = some (.dK kvs) ∧ kvs.length ≤ i ∧ ∀ j z, j < i → L.names[j]? = some z → valV kvs (.inr z) = some (.int (j : Nat))) ⟨sNew hD, [], upd_same, Nat.le_refl _, fun j z h => by omega⟩ (fun i H _ h => sT h.1 h1) ?_ ?_
  · rintro k x H2 H3 hk ⟨s2, kvs, hd, hl, hv⟩ ⟨T, y, z, rfl, hT, rfl, e1, e2⟩
    obtain rfl : V.int (k : Nat) = y := Option.some.inj e1
    obtain ⟨s, es, rfl⟩ := map_get e2
    have neT : D ≠ T := fun e => by rw [e, hT] at hd; cases hd
    have hk' : k < L.names.length := by rw [List.length_map] at hk; exact hk
    refine ⟨T, _, rfl, SqT.of upd_same, rfl, _, _, rfl, _, _, rfl, rfl, rfl, tyes_if ?_⟩
    refine ⟨_, rfl, _, rfl, kvs, .inr s, rfl, by rw [upd_ne neT]; exact hd, by omega, ?_⟩
    refine ⟨sMut (s2.trans (sNew hT)) hD, _, upd_same, Nat.le_trans (putK_len' _ _ _) (by omega), fun j z hj hz => ?_⟩
    rw [valV_put]
    by_cases c : j = k
    · subst c
      obtain rfl := Option.some.inj (es.symm.trans hz)
      rw [if_pos rfl]
    · have hjk : j < k := by omega
      rw [if_neg ?_]
      · exact hv j z hjk hz
      · intro e
        obtain rfl : z = s := Sum.inr.inj e
        exact c ((List.getElem?_inj (i := j) (j := k) (by omega) hO.nd).mp (hz.trans es.symm))
  · rintro H2 ⟨s2, kvs, hd, hl, hv⟩
    rw [List.length_map] at hv
    have s02 := s1.trans s2
    refine ⟨_, rfl, a, dx, _, rfl, s02 _ _ ha, _, L, rfl, hL.mono (sameI s02), fun tk hk => ⟨tk, rfl, ?_⟩⟩
    obtain ⟨ys, hy, hP⟩ := hk
    have hyl : L.lks.length = ys.length := Paired.length hP
    refine ⟨⟨ys, hy⟩, fun D2 hD2 => ?_⟩
    refine lc_gen (walk_tup (K := K) (a := tk) (xs := ys)) hD2 (fun i v H => ∀ p, L.ends[i]? = some p → Pr2 K H p v) (fun _ => true) (by omega) (fun i v H H' h e p hp => (h p hp).mono e) (fun H s => sT s hy) ?_ ?_
    · rintro k y H3 H4 Nk Ns hk s3 ⟨rfl, hy'⟩ k1 k2
      obtain ⟨l, el, hl⟩ := pget hP hy'
      have hm := List.mem_of_getElem? el
      obtain ⟨b, bd, bt, rfl, hb, ht⟩ := id hl
      have hlk := hl.mono (sameI s3)
      have get : ∀ z, z ∈ L.names → DGet H4 D (V.str z) (some (.int (L.idx z : Nat))) := fun z hz => by
        have := hv (L.idx z) z (idx_lt hz) (names_get hz)
        have g := DGet.k (H := H4) (a := D) (kvs := kvs) (k := .inr z) (s3 _ _ hd)
        rw [this] at g
        exact g
      refine ⟨rfl, tyes_if ?_⟩
      refine ⟨_, rfl, _, rfl, b, bd, _, rfl, s3 _ _ hb, _, l, rfl, hlk, D, _, rfl, get _ (hO.src l hm), ?_⟩
      refine ⟨_, rfl, _, rfl, b, bd, _, rfl, s3 _ _ hb, _, l, rfl, hlk, D, _, rfl, get _ (hO.tgt l hm), ?_⟩
      refine ⟨by show 2 ≤ sizeLine; omega, fun p hp => ?_⟩
      refine k1 rfl _ _ (sNew hp) fun pr hpr => ?_
      rw [Lin.ends, List.getElem?_map, el] at hpr
      obtain rfl := Option.some.inj hpr
      exact ⟨p, rfl, SqT.of upd_same⟩
    · intro H3 us s3 hus hpd
      rw [filter_true] at hpd
      exact q D2 H3 (s02.trans s3) ⟨us, SqL.of hus, paired_range hpd (by rw [Lin.ends, List.length_map, hyl]) fun i p v hp h => h p hp⟩
/-- a path that waits -/
def WAt (K : PySem.W.Frag) (H : Hp) (ps : List (Nat × Nat)) (n b : Nat) (q : List Nat) (v : V) : Prop := ∃ (T R S : Addr) (r : List Nat), v = .ref T ∧ SqT K H T [.ref R, .ref S] ∧ SqT K H R (r.map fun k => .int (k : Nat)) ∧ SqT K H S (q.map fun k => .int (k : Nat)) ∧ PathP ps b r q ∧ r.length + 1 = q.length ∧ q.length + rest n q ≤ n + 1
def RAt (K : PySem.W.Frag) (H : Hp) (ps : List (Nat × Nat)) (b : Nat) (v : V) : Prop := ∃ (R : Addr) (r : List Nat), v = .ref R ∧ SqT K H R (r.map fun k => .int (k : Nat)) ∧ RingP ps b r ∧ r.length ≤ 100
theorem WAt.mono {H H' : Hp} {ps : List (Nat × Nat)} {n b : Nat} {q : List Nat} {v : V} (h : WAt K H ps n b q v) (e : SameI H H') : WAt K H' ps n b q v := by
  obtain ⟨T, R, S, r, rfl, h1, h2, h3, h4⟩ := h
  exact ⟨T, R, S, r, rfl, e.seqT h1, e.seqT h2, e.seqT h3, h4⟩
theorem RAt.mono {H H' : Hp} {ps : List (Nat × Nat)} {b : Nat} {v : V} (h : RAt K H ps b v) (e : SameI H H') : RAt K H' ps b v := by
  obtain ⟨R, r, rfl, h1, h2⟩ := h
  exact ⟨R, r, rfl, e.seqT h1, h2⟩
theorem sI_lst {H H' : Hp} {D : Addr} {xs ys : List V} (s : SameI H H') (h : H' D = some (.lst xs)) : SameI H (upd H' D (.lst ys)) := s.trans (SameI.lst h)
theorem sc_rings_from : FnScope ["ends", "begin", "found", "waiting", "ring", "seen", "index", "source", "target"] ["ends", "begin"] (defScope s_rings_from) := ⟨rfl, rfl, rfl, by decide +kernel, rfl, by decide +kernel, by decide +kernel⟩
theorem b_rings_from (E : Env K mg base) : Binds K (fdAt K (ga K "rings_from")) ["ends", "begin"] [] := (f_rings_from E).bindsN fun _ _ _ _ _ _ us hl => match us, hl with | [_, _], _ => rfl
def sp_rf (K : PySem.W.Frag) : Sp := fun vs H Q _ => ∃ (a : Addr) (ps : List (Nat × Nat)) (n b : Nat), vs = [.ref a, .int b] ∧ PairsAt K H a ps ∧ ps.length ≤ 6 ∧ n ≤ 4 ∧ (∀ p ∈ ps, p.2 < n) ∧
  ∀ D H' us, Same H H' → H' D = some (.lst us) → H D = none → (∀ u ∈ us, RAt K H' ps b u) → us.length ≤ 16807 → Q (.ref D) H'
/-- what holds of the two lists -/
def RfI (K : PySem.W.Frag) (H0 : Hp) (ps : List (Nat × Nat)) (n b : Nat) (fd wd : Addr) (m : Nat) (H : Hp) : Prop := Same H0 H ∧ ∃ fs ws qs, H fd = some (.lst fs) ∧ H wd = some (.lst ws) ∧ (∀ u ∈ fs, RAt K H ps b u) ∧ Paired (WAt K H ps n b) qs ws ∧ fs.length + 7 * mu n qs = m ∧ m ≤ 16807
theorem mu_pos {n : Nat} {qs : List (List Nat)} : qs.length ≤ mu n qs := by
  induction qs with
  | nil => exact Nat.zero_le _
  | cons q qs ih =>
    have : 0 < 7 ^ rest n q := Nat.pow_pos (by decide)
    show qs.length + 1 ≤ mu n (q :: qs)
    have e : mu n (q :: qs) = 7 ^ rest n q + mu n qs := rfl
    omega
theorem ok_rings_from (E : Env K mg base) : FnOk P w K mg base CX0 4 (ga K "rings_from") (fdAt K (ga K "rings_from")) ["ends", "begin"] ((sp_rf K)) := by
  refine okD (f_rings_from E) sc_rings_from (fun cdv A outer s H vs Q X hr h => ?_) (fun vs H Q X h => by obtain ⟨_, _, _, _, rfl, _⟩ := h; rfl)
  obtain ⟨a, ps, n, b, rfl, hA, h6, hn4, hlt, q⟩ := h
  have e3 : sizeLine = 16777216 := sizeLine_eq
  refine ⟨_, (pss_cons (ps_par (i := 2) (j := 3) rfl sc_rings_from.nd rfl rfl (by decide) rfl rfl (pa_cons (pe_lst pa_nil) (pa_cons (pe_lst (pa_cons (pe_tup (pa_cons (pe_tup pa_nil) (pa_cons (pe_tup (pa_cons (pv 1) pa_nil)) pa_nil))) pa_nil)) pa_nil)) (by rfl))
      (pss_cons (ps_while PassesOwn.never (pt_truthK K (pv 3)) (pss_cons (ps_asg (pe_bm0 PySem.F.plainAttrs_list PySem.F.slot_list_pop PySem.F.type_list_pop mt_pop (pv 3)) (pg_tup rfl (pgs_cons (pg_name (i := 4) sc_rings_from.nd rfl (Or.inl rfl)) (pgs_cons (pg_name (i := 5) sc_rings_from.nd rfl (Or.inl rfl)) pgs_nil))))
      (pss_one (ps_for PassesOwn.never rfl (pi_enum rfl (n_enumerate E) (pa_cons (pv 0) pa_nil)) (pg_tup rfl (pgs_cons (pg_name (i := 6) sc_rings_from.nd rfl (Or.inl rfl)) (pgs_cons (pg_tup rfl (pgs_cons (pg_name (i := 7) sc_rings_from.nd rfl (Or.inl rfl)) (pgs_cons (pg_name (i := 8) sc_rings_from.nd rfl (Or.inl rfl)) pgs_nil))) pgs_nil))) (pss_one (ps_if (PW.pt (pw_and (pt_cmpR op_eq (pv 7) (pe_ix (ixT K) (pv 5) (pe_un un_neg pe_int) (fun _ _ => rfl)) (nomark _)) (pw_and1 (pt_cmpR op_eq (pv 8) (pv 1) (nomark _))))) (pss_one (ps_expr (pe_bm PySem.F.plainAttrs_list PySem.F.slot_list_append PySem.F.type_list_append mt_append (pv 2) (pa_cons (pe_tup (StX.pa_star (pv 4) (pa_cons (pv 6) pa_nil))) pa_nil)))) (pss_one (ps_if (PW.pt (pw_and (pt_cmpR op_eq (pv 7) (pe_ix (ixT K) (pv 5) (pe_un un_neg pe_int) (fun _ _ => rfl)) (nomark _)) (pw_and (pt_cmpR op_gt (pv 8) (pv 1) (nomark _)) (pw_and1 (pt_cmpR (opNotInK K) (pv 8) (pv 5) rfl))))) (pss_one (ps_expr (pe_bm PySem.F.plainAttrs_list PySem.F.slot_list_append PySem.F.type_list_append mt_append (pv 3) (pa_cons (pe_tup (pa_cons (pe_tup (StX.pa_star (pv 4) (pa_cons (pv 6) pa_nil))) (pa_cons (pe_tup (StX.pa_star (pv 5) (pa_cons (pv 8) pa_nil))) pa_nil))) pa_nil)))) pss_nil))))))))
      (pss_one (ps_ret (pv 2))))), ?_⟩
  refine ⟨by show 0 ≤ sizeLine; omega, fun fd hfd => ?_⟩
  refine ⟨by show 0 ≤ sizeLine; omega, fun R hR => ?_⟩
  refine ⟨_, rfl, by show 1 ≤ sizeLine; omega, fun S hS => ?_⟩
  refine ⟨by show 2 ≤ sizeLine; omega, fun T hT => ?_⟩
  refine ⟨by show 1 ≤ sizeLine; omega, fun wd hwd => ⟨_, _, rfl, ?_⟩⟩
  have hb1 : Same H (upd H fd (.lst [])) := sNew hfd
  have hb2 := hb1.trans (sNew (o := .tup []) hR)
  have hb3 := hb2.trans (sNew (o := .tup [.int (b : Nat)]) hS)
  have hb4 := hb3.trans (sNew (o := .tup [.ref R, .ref S]) hT)
  have hb5 := hb4.trans (sNew (o := .lst [.ref T]) hwd)
  have nRf : R ≠ fd := fun e => by rw [e, upd_same] at hR; cases hR
  have nSf : S ≠ fd := fun e => by rw [e, upd_ne (Ne.symm nRf), upd_same] at hS; cases hS
  have nSR : S ≠ R := fun e => by rw [e, upd_same] at hS; cases hS
  have nTf : T ≠ fd := fun e => by rw [e, upd_ne (Ne.symm nSf), upd_ne (Ne.symm nRf), upd_same] at hT; cases hT
  have nTS : T ≠ S := fun e => by rw [e, upd_same] at hT; cases hT
  have nTR : T ≠ R := fun e => by rw [e, upd_ne (Ne.symm nSR), upd_same] at hT; cases hT
  have nWf : wd ≠ fd := fun e => by rw [e, upd_ne (Ne.symm nTf), upd_ne (Ne.symm nSf), upd_ne (Ne.symm nRf), upd_same] at hwd; cases hwd
  have nWT : wd ≠ T := fun e => by rw [e, upd_same] at hwd; cases hwd
  have nWS : wd ≠ S := fun e => by rw [e, upd_ne (Ne.symm nTS), upd_same] at hwd; cases hwd
  have nWR : wd ≠ R := fun e => by rw [e, upd_ne (Ne.symm nTR), upd_ne (Ne.symm nSR), upd_same] at hwd; cases hwd
  have hwn : H wd = none := by
    rw [upd_ne nWT, upd_ne nWS, upd_ne nWR, upd_ne nWf] at hwd; exact hwd
  have hr0 : rest n [b] ≤ n := rest_le n [b]
  have hmu0 : 7 * mu n [[b]] ≤ 16807 := by
    have e1 : mu n [[b]] = 7 ^ rest n [b] := Nat.add_zero _
    have e2 : 7 ^ rest n [b] ≤ 7 ^ 4 := Nat.pow_le_pow_right (by decide) (by omega)
    have e4 : (7 : Nat) ^ 4 = 2401 := by decide
    omega
  dsimp only [tSeq]
  refine while_m (fun m σ H' => (∃ v4 v5 v6 v7 v8, σ = [some (.ref a), some (.int (b : Nat)), some (.ref fd), some (.ref wd), v4, v5, v6, v7, v8]) ∧ RfI K H ps n b fd wd m H')
    ⟨_, ⟨_, _, _, _, _, rfl⟩, hb5, [], [.ref T], [[b]], ?_, upd_same, (fun u hu => nomatch hu), ?_, rfl, (by show 0 + _ ≤ _; omega)⟩ ?_ (fun σ H Q Q' hq ⟨x, e, k, t, z⟩ => ⟨x, e, k, t, hq _ _ z⟩)
  · rw [upd_ne (Ne.symm nWf), upd_ne (Ne.symm nTf), upd_ne (Ne.symm nSf), upd_ne (Ne.symm nRf)]; exact upd_same
  · refine .cons ⟨T, R, S, [], rfl, SqT.of ?_, SqT.of ?_, SqT.of ?_, .nil, rfl, by show 1 + _ ≤ _; omega⟩ .nil
    · rw [upd_ne (Ne.symm nWT)]; exact upd_same
    · rw [upd_ne (Ne.symm nWR), upd_ne (Ne.symm nTR), upd_ne (Ne.symm nSR)]; exact upd_same
    · rw [upd_ne (Ne.symm nWS), upd_ne (Ne.symm nTS)]; exact upd_same
  · rintro m σ H1 ⟨⟨v4, v5, v6, v7, v8, rfl⟩, hS1, fs, ws, qs, hf, hw, hF, hW, rfl, hm⟩
    refine ⟨_, rfl, !ws.isEmpty, .inl ⟨ws, SqL.of hw, rfl⟩, ?_⟩
    refine ite2 (fun c => ?_) (fun c => ?_)
    · have hne : ws ≠ [] := fun e => by rw [e] at c; cases c
      obtain ⟨qs', q0, ws', y, rfl, rfl, hW', hy⟩ := paired_last hW hne
      obtain ⟨T0, R0, S0, r0, rfl, t1, t2, t3, hp, hrl, hql⟩ := id hy
      have hmq := mu_pos (n := n) (qs := qs' ++ [q0])
      have hwl : ws'.length ≤ 16807 := by
        have := Paired.length hW'
        rw [List.length_append] at hmq
        omega
      have si1 : SameI H1 (upd H1 wd (.lst ws')) := SameI.lst hw
      refine ⟨_, rfl, tyV_l hw, wd, ws' ++ [.ref T0], .ref T0, rfl, rfl, hw, by simp, ?_⟩
      rw [List.dropLast_concat]
      refine ⟨T0, _, rfl, si1.seqT t1, rfl, _, _, rfl, _, _, rfl, rfl, ?_⟩
      obtain ⟨xs, hAx, hAP⟩ := id hA
      have hxl : ps.length = xs.length := Paired.length hAP
      have sA : Same H (upd H1 wd (.lst ws')) := sMut hS1 hwn
      have hmu1 : mu n (qs' ++ [q0]) = mu n qs' + 7 ^ rest n q0 := mu_snoc n qs' q0
      refine ⟨_, rfl, a, xs, rfl, sA.seq hAx, ?_⟩
      refine for_it (walk_enum (K := K) (a := a) (xs := xs)) (fun i σ H' => (∃ v6 v7 v8, σ = [some (.ref a), some (.int (b : Nat)), some (.ref fd), some (.ref wd), some (.ref R0), some (.ref S0), v6, v7, v8]) ∧ SqT K H' R0 (r0.map fun k => .int (k : Nat)) ∧ SqT K H' S0 (q0.map fun k => .int (k : Nat)) ∧
        Same H H' ∧ ∃ fs' ws' qs2, H' fd = some (.lst fs') ∧ H' wd = some (.lst ws') ∧ (∀ u ∈ fs', RAt K H' ps b u) ∧ Paired (WAt K H' ps n b) qs2 ws' ∧ fs'.length + 7 * mu n qs2 ≤ fs.length + 7 * mu n qs' + i * 7 ^ rest n q0)
        ⟨⟨_, _, _, rfl⟩, si1.seqT t2, si1.seqT t3, sA, fs, ws', qs', by rw [upd_ne (Ne.symm nWf)]; exact hf, upd_same, fun u hu => (hF u hu).mono si1, L2.Paired.mapP hW' fun _ _ z => z.mono si1, by omega⟩ (fun i σ H' _ h => h.2.2.2.1.seq hAx) ?_ ?_
      · rintro i x σ H2 H3 hi ⟨⟨u6, u7, u8, rfl⟩, b2, b3, sB, fs2, ws2, qs2, hf2, hw2, hF2, hW2, hle⟩ ⟨T1, y, z, rfl, hT1, rfl, e1, e2⟩
        obtain rfl : V.int (i : Nat) = y := Option.some.inj e1
        obtain ⟨⟨s, t⟩, ep, tz, rfl, hz⟩ := pget hAP e2
        have hi6 : i < 6 := by omega
        have htn : t < n := hlt (s, t) (List.mem_of_getElem? ep)
        have sN : Same H2 (upd H2 T1 (.tup [.int (i : Nat), .ref tz])) := sNew hT1
        have sC := sB.trans sN
        have nTf1 : fd ≠ T1 := fun e => by rw [e, hT1] at hf2; cases hf2
        have nTw1 : wd ≠ T1 := fun e => by rw [e, hT1] at hw2; cases hw2
        have hf3 : upd H2 T1 (.tup [.int (i : Nat), .ref tz]) fd = some (.lst fs2) := sN _ _ hf2
        have hw3 : upd H2 T1 (.tup [.int (i : Nat), .ref tz]) wd = some (.lst ws2) := sN _ _ hw2
        have hpw : 0 < 7 ^ rest n q0 := Nat.pow_pos (by decide)
        have hbig : i * 7 ^ rest n q0 ≤ 6 * 7 ^ rest n q0 := Nat.mul_le_mul_right _ (by omega)
        have hmul : (i + 1) * 7 ^ rest n q0 = i * 7 ^ rest n q0 + 7 ^ rest n q0 := Nat.succ_mul _ _
        refine ⟨T1, _, rfl, SqT.of upd_same, rfl, _, _, rfl, _, _, rfl, tz, _, rfl, (sT sC hz), rfl, _, _, rfl, _, _, rfl, rfl, rfl, ?_⟩
        have b2' := sT sN b2
        have b3' := sT sN b3
        obtain ⟨s0, hs0⟩ := hp.last
        have hF3 : ∀ u ∈ fs2, RAt K (upd H2 T1 (.tup [.int (i : Nat), .ref tz])) ps b u := fun u hu => (hF2 u hu).mono (sameI sN)
        have hW3 : Paired (WAt K (upd H2 T1 (.tup [.int (i : Nat), .ref tz])) ps n b) qs2 ws2 := L2.Paired.mapP hW2 fun _ _ z => z.mono (sameI sN)
        have hws2 : ws2.length ≤ 20000 := by
          have e1 := Paired.length hW2
          have e2 := mu_pos (n := n) (qs := qs2)
          omega
        have hfs2 : fs2.length ≤ 40000 := by omega
        refine ⟨_, rfl, _, rfl, _, rfl, S0, _, _, .int (s0 : Nat), rfl, rfl, b3', at_last hs0, rfl, _, rfl, ?_⟩
        by_cases c1 : s = s0
        · subst c1
          refine ite_t (decide_eq_true rfl) ⟨_, rfl, _, rfl, rfl, _, rfl, ?_⟩
          by_cases c2 : t = b
          · subst c2
            refine ite_t (decide_eq_true rfl) ?_
            refine ⟨_, rfl, tyV_l hf3, _, rfl, R0, _, rfl, .inl b2', _, rfl, by rw [List.length_append, List.length_map]; show _ + 1 ≤ _; omega, fun p hp' => ?_⟩
            have sP : Same (upd H2 T1 (.tup [.int (i : Nat), .ref tz])) (upd (upd H2 T1 (.tup [.int (i : Nat), .ref tz])) p (.tup ((r0.map fun k => V.int (k : Nat)) ++ [.int (i : Nat)]))) := sNew hp'
            have hf4 := sP _ _ hf3
            have si4 : SameI (upd H2 T1 (.tup [.int (i : Nat), .ref tz])) (upd (upd (upd H2 T1 (.tup [.int (i : Nat), .ref tz])) p (.tup ((r0.map fun k => V.int (k : Nat)) ++ [.int (i : Nat)]))) fd (.lst (fs2 ++ [.ref p]))) := sI_lst (sameI sP) hf4
            have npf : p ≠ fd := fun e => by rw [e, hf3] at hp'; cases hp'
            refine ⟨fd, fs2, _, rfl, rfl, hf4, by omega, ?_⟩
            refine ⟨⟨_, _, _, rfl⟩, si4.seqT b2', si4.seqT b3', sMut (sC.trans sP) hfd, fs2 ++ [.ref p], ws2, qs2, upd_same, by rw [upd_ne nWf]; exact sP _ _ hw3, fun u hu => ?_, L2.Paired.mapP hW3 fun _ _ z => z.mono si4, ?_⟩
            · rcases List.mem_append.mp hu with hu | hu
              · exact (hF3 u hu).mono si4
              · rw [List.mem_singleton.mp hu]
                refine ⟨p, r0 ++ [i], rfl, SqT.of ?_, ⟨r0, q0, i, s, hp, ep, hs0, rfl⟩, by rw [List.length_append]; show _ + 1 ≤ _; omega⟩
                rw [upd_ne npf, upd_same, List.map_append]; rfl
            · rw [List.length_append]
              show fs2.length + 1 + _ ≤ _
              omega
          · have c2' : ¬ (V.int (t : Nat) = V.int (b : Nat)) := fun e => c2 (by injection e with e; omega)
            refine ite_f (decide_eq_false c2') ?_
            refine ⟨_, rfl, _, rfl, _, rfl, S0, _, _, .int (s : Nat), rfl, rfl, b3', at_last hs0, rfl, _, rfl, ite_t (decide_eq_true rfl) ⟨_, rfl, _, rfl, _, _, rfl, rfl, _, rfl, ?_⟩⟩
            by_cases c3 : (t : Int) > (b : Int)
            · refine ite_t (decide_eq_true c3) ?_
              refine ⟨_, rfl, _, rfl, S0, _, rfl, .inr b3', rfl, flat_nats _, ?_⟩
              rw [inV_nats]
              by_cases c4 : t ∈ q0
              · refine ⟨_, rfl, ite_f (b := !decide (t ∈ q0)) (by rw [decide_eq_true c4]; rfl) ?_⟩
                exact ⟨⟨_, _, _, rfl⟩, b2', b3', sC, fs2, ws2, qs2, hf3, hw3, hF3, hW3, by omega⟩
              · refine ⟨_, rfl, ite_t (b := !decide (t ∈ q0)) (by rw [decide_eq_false c4]; rfl) ?_⟩
                have hrl := rest_lt htn c4
                have hlr : r0.length ≤ 8 := by omega
                have hlq : q0.length ≤ 8 := by omega
                refine ⟨_, rfl, tyV_l hw3, _, rfl, R0, _, rfl, .inl b2', _, rfl, by rw [List.length_append, List.length_map]; show _ + 1 ≤ _; omega, fun p1 hp1 => ?_⟩
                have sP1 : Same (upd H2 T1 (.tup [.int (i : Nat), .ref tz])) (upd (upd H2 T1 (.tup [.int (i : Nat), .ref tz])) p1 (.tup ((r0.map fun k => V.int (k : Nat)) ++ [.int (i : Nat)]))) := sNew hp1
                refine ⟨_, rfl, S0, _, rfl, .inl (sT sP1 b3'), _, rfl, by rw [List.length_append, List.length_map]; show _ + 1 ≤ _; omega, fun p2 hp2 => ?_⟩
                have sP2 := sP1.trans (sNew (o := .tup ((q0.map fun k => V.int (k : Nat)) ++ [.int (t : Nat)])) hp2)
                refine ⟨by show 2 ≤ sizeLine; omega, fun p3 hp3 => ?_⟩
                have sP3 := sP2.trans (sNew (o := .tup [.ref p1, .ref p2]) hp3)
                have hw4 := sP3 _ _ hw3
                have n1 : p1 ≠ wd := fun e => by rw [e, hw3] at hp1; cases hp1
                have n2 : p2 ≠ wd := fun e => by rw [e, sP1 _ _ hw3] at hp2; cases hp2
                have n3 : p3 ≠ wd := fun e => by rw [e, sP2 _ _ hw3] at hp3; cases hp3
                have n12 : p1 ≠ p2 := fun e => by rw [← e, upd_same] at hp2; cases hp2
                have n13 : p1 ≠ p3 := fun e => by rw [← e, upd_ne n12, upd_same] at hp3; cases hp3
                have n23 : p2 ≠ p3 := fun e => by rw [← e, upd_same] at hp3; cases hp3
                refine ⟨wd, ws2, _, rfl, rfl, hw4, by omega, ?_⟩
                have si4 := sI_lst (ys := ws2 ++ [V.ref p3]) (sameI sP3) hw4
                refine ⟨⟨_, _, _, rfl⟩, si4.seqT b2', si4.seqT b3', sMut (sC.trans sP3) hwn, fs2, ws2 ++ [.ref p3], qs2 ++ [q0 ++ [t]], by rw [upd_ne (Ne.symm nWf)]; exact sP3 _ _ hf3, upd_same, fun u hu => (hF3 u hu).mono si4, OwnR.Paired.snoc (L2.Paired.mapP hW3 fun _ _ z => z.mono si4) ⟨p3, p1, p2, r0 ++ [i], rfl, SqT.of ?_, SqT.of ?_, SqT.of ?_, .snoc hp ep hs0, by rw [List.length_append, List.length_append]; show _ + 1 + 1 = _ + 1; omega, by rw [List.length_append]; show _ + 1 + _ ≤ _; omega⟩, ?_⟩
                · rw [upd_ne n3]; exact upd_same
                · rw [upd_ne n1, upd_ne n13, upd_ne n12, upd_same, List.map_append]; rfl
                · rw [upd_ne n2, upd_ne n23, upd_same, List.map_append]; rfl
                · rw [mu_snoc]
                  have e1 : 7 * 7 ^ rest n (q0 ++ [t]) ≤ 7 ^ rest n q0 := by
                    have : 7 * 7 ^ rest n (q0 ++ [t]) = 7 ^ (rest n (q0 ++ [t]) + 1) := by rw [Nat.pow_succ, Nat.mul_comm]
                    rw [this]
                    exact Nat.pow_le_pow_right (by decide) hrl
                  omega
            · refine ite_f (decide_eq_false c3) (ite_f rfl ?_)
              exact ⟨⟨_, _, _, rfl⟩, b2', b3', sC, fs2, ws2, qs2, hf3, hw3, hF3, hW3, by omega⟩
        · have c1' : ¬ (V.int (s : Nat) = V.int (s0 : Nat)) := fun e => c1 (by injection e with e; omega)
          refine ite_f (decide_eq_false c1') (ite_f rfl ?_)
          refine ⟨_, rfl, _, rfl, _, rfl, S0, _, _, .int (s0 : Nat), rfl, rfl, b3', at_last hs0, rfl, _, rfl, ite_f (decide_eq_false c1') (ite_f rfl ?_)⟩
          exact ⟨⟨_, _, _, rfl⟩, b2', b3', sC, fs2, ws2, qs2, hf3, hw3, hF3, hW3, by omega⟩
      · rintro σ H2 ⟨⟨u6, u7, u8, rfl⟩, b2, b3, sB, fs2, ws2, qs2, hf2, hw2, hF2, hW2, hle⟩
        have hpw : 0 < 7 ^ rest n q0 := Nat.pow_pos (by decide)
        have hbig : xs.length * 7 ^ rest n q0 ≤ 6 * 7 ^ rest n q0 := Nat.mul_le_mul_right _ (by omega)
        exact ⟨fs2.length + 7 * mu n qs2, by omega, ⟨_, _, _, _, _, rfl⟩, sB, fs2, ws2, qs2, hf2, hw2, hF2, hW2, rfl, by omega⟩
    · have he : ws = [] := by
        cases ws with
        | nil => rfl
        | cons _ _ => exact absurd rfl c
      exact ⟨_, rfl, q fd H1 fs hS1 hf hfd hF (by omega)⟩
theorem sc_rings : FnScope ["line", "ends", "found", "begin"] ["line"] (defScope s_rings) := ⟨rfl, rfl, rfl, by decide +kernel, rfl, by decide +kernel, by decide +kernel⟩
theorem b_rings (E : Env K mg base) : Binds K (fdAt K (ga K "rings")) ["line"] [] := (f_rings E).bindsN fun _ _ _ _ _ _ us hl => match us, hl with | [_], _ => rfl
theorem ql_len (E : Env K mg base) : ∀ C, C = ga K "Line" → Meth K C "__len__" (ma K (ga K "Line") "__len__") := fun C h => by subst h; exact m_Line_len E
def sp_rs (K : PySem.W.Frag) : Sp := fun vs H Q _ => ∃ (v : V) (L : Lin), vs = [v] ∧ LineAt K H v L ∧ L.Ok ∧ ∀ t H' us, Same H H' → SqT K H' t us → (∀ u ∈ us, ∃ b, RAt K H' L.ends b u) → Q (.ref t) H'
theorem dpall_nats {H : Hp} : ∀ r : List Nat, DpAll K H (r.map fun k => .int (k : Nat)) (r.map fun k => PyData.int (k : Nat))
  | [] => .nil
  | b :: bs => .cons (.int b) (dpall_nats bs)
theorem alike_nats : ∀ r r' : List Nat, PySem.W.alikeAll (r.map fun k => PyData.int (k : Nat)) (r'.map fun k => PyData.int (k : Nat)) = true
  | [], _ => by simp [PySem.W.alikeAll]
  | _ :: _, [] => by simp [PySem.W.alikeAll]
  | _ :: r, _ :: r' => by
    have := alike_nats r r'
    simp [PySem.W.alikeAll, PySem.W.alike] at this ⊢
    exact this
theorem depth_nats : ∀ r : List Nat, PyData.depthAll (r.map fun k => PyData.int (k : Nat)) = 0
  | [] => by simp [PyData.depthAll]
  | _ :: r => by
    have := depth_nats r
    simp [PyData.depthAll, PyData.depth] at this ⊢
    exact this
theorem dpall_rings {H : Hp} {ps : List (Nat × Nat)} : ∀ {us : List V}, (∀ u ∈ us, ∃ b, RAt K H ps b u) → ∃ rs : List (List Nat), (∀ r ∈ rs, r ≠ []) ∧ DpAll K H us (rs.map fun r => PyData.tuple (r.map fun k => PyData.int (k : Nat)))
  | [], _ => ⟨[], (fun _ h => nomatch h), .nil⟩
  | u :: us, h => by
    obtain ⟨rs, h1, h2⟩ := dpall_rings (us := us) fun u hu => h u (List.mem_cons_of_mem _ hu)
    obtain ⟨b, R, r, rfl, h3, h4, _⟩ := h u List.mem_cons_self
    refine ⟨r :: rs, fun x hx => ?_, .cons (.tup h3 (dpall_nats r)) h2⟩
    rcases List.mem_cons.mp hx with e | hx
    · rw [e]; exact h4.ne
    · exact h1 x hx
theorem ok_rings (E : Env K mg base) : FnOk P w K mg base CX0 12 (ga K "rings") (fdAt K (ga K "rings")) ["line"] ((sp_rs K)) := by
  refine okD (f_rings E) sc_rings (fun cdv A outer s H vs Q X hr h => ?_) (fun vs H Q X h => by obtain ⟨_, _, rfl, _⟩ := h; rfl)
  obtain ⟨v, L, rfl, hL, hO, q⟩ := h
  have n4 := hO.n6
  have n6 := hO.n12
  have e3 : sizeLine = 16777216 := sizeLine_eq
  have hnl : L.names.length = L.sts.length := List.length_map _
  refine ⟨_, (pss_cons (ps_expr (pe_call (ok_check_line E) (hr.mono (by decide)) rfl (g_check_line E) (f_check_line E).kp (b_check_line E) .nil pass0 (pa_cons (pv 0) pa_nil)))
      (pss_cons (ps_par (i := 1) (j := 2) rfl sc_rings.nd rfl rfl (by decide) rfl rfl (pa_cons (pe_call (ok_ends_of E) (hr.mono (by decide)) rfl (g_ends_of E) (f_ends_of E).kp (b_ends_of E) .nil pass0 (pa_cons (pv 0) pa_nil)) (pa_cons (pe_lst pa_nil) pa_nil)) (by rfl))
      (pss_cons (ps_for PassesOwn.never rfl (pi_range1 rfl (n_range E) (pa_cons (pe_callB (call_lenOwn (CP := fun C => C = ga K "Line") (ql_len E) (ok_Line_len E) (hr.mono (by decide)) (b_Line_len E)) rfl (n_len E) boot_len (pa_cons (pv 0) pa_nil)) pa_nil)) (pg_name (i := 3) sc_rings.nd rfl (Or.inl rfl)) (pss_one (ps_aug (i := 2) sc_rings.nd rfl (Or.inl rfl) (pe_call (ok_rings_from E) (hr.mono (by decide)) rfl (g_rings_from E) (f_rings_from E).kp (b_rings_from E) .nil pass0 (pa_cons (pv 1) (pa_cons (pv 3) pa_nil))) ip_extL)))
      (pss_one (ps_ret (pe_callTy (tupK K) rfl (n_tuple E) boot_tuple (pa_cons (pe_callB (cr_sortedAny hr.units) rfl (n_sorted E) boot_sorted (pa_cons (pv 2) pa_nil)) pa_nil))))))), ?_⟩
  refine ⟨_, rfl, v, L, rfl, hL, ?_⟩
  refine ⟨_, rfl, v, L, rfl, hL, hO, fun D H1 s1 hD => ?_⟩
  refine ⟨by show 0 ≤ sizeLine; omega, fun fd hfd => ⟨_, _, rfl, ?_⟩⟩
  have s2 := s1.trans (sNew (o := .lst []) hfd)
  have hfn : H fd = none := by
    cases e : H fd with
    | none => rfl
    | some o => exact absurd (s1 _ _ e) (by rw [hfd]; exact fun z => nomatch z)
  have hP2 := hD.mono (sNew (o := .lst []) hfd)
  obtain ⟨a, dx, t, ta, tb, rfl, ha, _⟩ := id hL
  refine ⟨_, rfl, a, _, dx, _, rfl, rfl, s2 _ _ ha, ⟨_, L, rfl, hL.mono (sameI s2), L.sts.length, rfl, by omega, ?_⟩⟩
  refine ⟨_, rfl, by omega, by omega, ?_⟩
  refine for_range (lo := 0) (n := ((L.sts.length : Nat) : Int).toNat) (fun i σ H' => Same H H' ∧ Same H1 H' ∧ ∃ v, σ = [some (.ref a), some (.ref D), some (.ref fd), v] ∧ ∃ us, H' fd = some (.lst us) ∧ (∀ u ∈ us, ∃ b, RAt K H' L.ends b u) ∧ us.length ≤ i * 16807)
    ⟨s2, sNew hfd, _, rfl, [], upd_same, (fun _ h => nomatch h), Nat.zero_le _⟩ ?_ ?_
  · rintro i σ H2 hi ⟨sA, sB, v, rfl, us, hf, hU, hl⟩
    have hi4 : i < 4 := by omega
    refine ⟨_, rfl, _, rfl, _, rfl, D, L.ends, L.sts.length, i, (by rw [Int.zero_add]; rfl), hD.mono sB, by rw [Lin.ends, List.length_map]; exact n6, n4, fun p hp => ?_, fun D2 H3 us2 s3 h3 n3 hU2 hl2 => ?_⟩
    · obtain ⟨l, hl, rfl⟩ := List.mem_map.mp hp
      rw [← hnl]
      exact idx_lt (hO.tgt l hl)
    · have hf3 := s3 _ _ hf
      have si := sI_lst (ys := us ++ us2) (sameI (Same.refl H3)) hf3
      refine ⟨fd, D2, us, us2, rfl, rfl, hf3, h3, by omega, sMut (sA.trans s3) hfn, sMut (sB.trans s3) hfd, _, rfl, us ++ us2, upd_same, fun u hu => ?_, by rw [List.length_append]; omega⟩
      rcases List.mem_append.mp hu with hu | hu
      · obtain ⟨b, h⟩ := hU u hu
        exact ⟨b, (h.mono (sameI s3)).mono si⟩
      · exact ⟨i, (hU2 u hu).mono si⟩
  · rintro σ H2 ⟨sA, sB, v, rfl, us, hf, hU, hl⟩
    obtain ⟨rs, hne, hdp⟩ := dpall_rings hU
    refine ⟨_, rfl, fd, us, _, rfl, SqL.of hf, hdp, ?_, .inl ?_, ?_, fun ys p hp np => ?_⟩
    · intro d hd d' hd'
      obtain ⟨r, _, rfl⟩ := List.mem_map.mp hd
      obtain ⟨r', _, rfl⟩ := List.mem_map.mp hd'
      have := alike_nats r r'
      simp [PySem.W.alike] at this ⊢
      exact this
    · intro d hd
      obtain ⟨r, hr, rfl⟩ := List.mem_map.mp hd
      cases r with
      | nil => exact absurd rfl (hne _ hr)
      | cons x r => exact ⟨_, _, rfl⟩
    · intro d hd
      obtain ⟨r, hr, rfl⟩ := List.mem_map.mp hd
      have := depth_nats r
      simp [PyData.depth] at this ⊢
      omega
    · have sP := sA.trans (sNew (o := .lst ys) np)
      refine ⟨p, ys, rfl, .inl ⟨SqL.of upd_same, fun l hl => ?_⟩⟩
      refine q l _ ys (sP.trans (sNew hl)) (SqT.of upd_same) fun u hu => ?_
      obtain ⟨b, h⟩ := hU u (hp.subset hu)
      exact ⟨b, (h.mono (sameI (sNew np))).mono (sameI (sNew hl))⟩
def stk (L : Lin) (k : Nat) : Nat := match L.lks[k]? with | some l => l.stock | none => 0
def gv {α : Type} (r : List α) (g : α → V) (i : Nat) : V := match r[i]? with | some k => g k | none => .non
theorem gv_at {α : Type} {r : List α} {g : α → V} {i : Nat} {k : α} (h : r[i]? = some k) : gv r g i = g k := by
  unfold gv
  rw [h]
theorem map_range_get {α : Type} {r : List α} {g : α → V} : (List.range r.length).map (gv r g) = r.map g := by
  apply List.ext_getElem?
  intro i
  rw [List.getElem?_map, List.getElem?_map]
  rcases Nat.lt_or_ge i r.length with c | c
  · rw [List.getElem?_range c, List.getElem?_eq_getElem c]
    show some (gv r g i) = _
    rw [gv_at (List.getElem?_eq_getElem c)]; rfl
  · rw [List.getElem?_eq_none (by rw [List.length_range]; exact c), List.getElem?_eq_none c]; rfl
theorem sum_cast : ∀ l : List Nat, (l.map fun (k : Nat) => (k : Int)).sum = ((l.sum : Nat) : Int)
  | [] => rfl
  | x :: l => by rw [List.map_cons, List.sum_cons, List.sum_cons, sum_cast l]; omega
theorem sc_stuck : FnScope ["line", "ring", "index"] ["line"] (defScope s_stuck) := ⟨rfl, rfl, rfl, by decide +kernel, rfl, by decide +kernel, by decide +kernel⟩
theorem b_stuck (E : Env K mg base) : Binds K (fdAt K (ga K "stuck")) ["line"] [] := (f_stuck E).bindsN fun _ _ _ _ _ _ us hl => match us, hl with | [_], _ => rfl
def sp_stk (K : PySem.W.Frag) : Sp := fun vs H Q _ => ∃ (v : V) (L : Lin), vs = [v] ∧ LineAt K H v L ∧ L.Ok ∧ Acyc L ∧ ∀ H', Same H H' → Q .non H'
theorem ok_stuck (E : Env K mg base) : FnOk P w K mg base CX0 13 (ga K "stuck") (fdAt K (ga K "stuck")) ["line"] ((sp_stk K)) := by
  refine okD (f_stuck E) sc_stuck (fun cdv A outer s H vs Q X hr h => ?_) (fun vs H Q X h => by obtain ⟨_, _, rfl, _⟩ := h; rfl)
  obtain ⟨v, L, rfl, hL, hO, ⟨rk, hrk⟩, q⟩ := h
  have n6 := hO.n12
  have e3 : sizeLine = 16777216 := sizeLine_eq
  refine ⟨_, (pss_cons (ps_for PassesOwn.never rfl (pi_tup (pe_call (ok_rings E) (hr.mono (by decide)) rfl (g_rings E) (f_rings E).kp (b_rings E) .nil pass0 (pa_cons (pv 0) pa_nil))) (pg_name (i := 1) sc_stuck.nd rfl (Or.inl rfl)) (pss_one (ps_if (pt_cmpR op_eq (pe_callB (sumK K) rfl (n_sum E) boot_sum (pa_cons (pe_lc (own := [("index", 2)]) (g := (gName 2)) rfl sc_stuck.nd (pi_tup (pv 1)) (blkOk_by (own := [("index", 2)]) (N := (["line", "ring", "index"] : List Str)) (sc := defScope s_stuck) (by decide +kernel)) (fun _ _ _ _ _ => (pg_name (i := 2) sc_stuck.nd rfl (Or.inl rfl))) (fun _ _ _ _ _ => pts_nil) (fun _ _ _ _ _ => (pe_pr (pe_ix (ixT K) (pe_pr (pv 0) (c_Line E) (p_Line_links E) (ok_Line_links E) (hr.mono (by decide)) (bp_Line_links E) rfl) (pv 2) (fun _ _ => rfl)) (c_Link E) (p_Link_stock E) (ok_Link_stock E) (hr.mono (by decide)) (bp_Link_stock E) rfl))) pa_nil)) pe_int (nomark _)) (pss_one (ps_ret (pv 1))) pss_nil)))
      (pss_one (ps_ret pe_non))), ?_⟩
  refine ⟨_, rfl, v, L, rfl, hL, hO, fun t H1 us s1 h1 hU => ⟨t, rfl, ⟨us, h1⟩, ?_⟩⟩
  obtain ⟨a, dx, tt, ta, tb, rfl, ha, _⟩ := id hL
  refine for_it (walk_tup (K := K) (a := t) (xs := us)) (fun i σ H' => Same H1 H' ∧ ∃ v1 v2, σ = [some (.ref a), v1, v2]) ⟨Same.refl _, _, _, rfl⟩ (fun i σ H' _ h => sT h.1 h1) ?_ ?_
  · rintro i x σ H2 H3 hi ⟨sA, v1, v2, rfl⟩ ⟨rfl, hx⟩
    obtain ⟨b, R, r, rfl, hR, hring, hr100⟩ := hU x (List.mem_of_getElem? hx)
    have hR2 := sT sA hR
    have s02 := s1.trans sA
    have hix := hring.ix
    refine ⟨_, rfl, R, rfl, ⟨_, hR2⟩, fun D hD => ?_⟩
    refine lc_map (walk_tup (K := K) (a := R) (xs := r.map fun k => V.int (k : Nat))) hD (gv r fun k => .int (stk L k : Nat)) (fun _ => true) (by rw [List.length_map]; omega) (fun H s => sT s hR2) ?_ ?_
    · rintro k y H4 H5 Nk Ns hk s4 ⟨rfl, hy⟩ k1 k2
      obtain ⟨j, ej, rfl⟩ := map_get hy
      have hjl : j < L.lks.length := by
        have := hix j (List.mem_of_getElem? ej)
        rw [Lin.ends, List.length_map] at this
        exact this
      have s04 := s02.trans s4
      refine ⟨rfl, tyes_if ?_⟩
      refine ⟨_, rfl, a, dx, _, rfl, s04 _ _ ha, _, L, rfl, hL.mono (sameI s04), fun tk hk => ?_⟩
      obtain ⟨ys, hys, hP⟩ := id hk
      have hyl : L.lks.length = ys.length := Paired.length hP
      obtain ⟨y, ey, hl⟩ := paired_get hP (List.getElem?_eq_getElem hjl)
      obtain ⟨b, bd, bt, rfl, hb, _⟩ := id hl
      refine ⟨_, rfl, tk, _, _, .ref b, rfl, rfl, hys, atN rfl ey, b, bd, _, rfl, hb, _, _, rfl, hl, ?_⟩
      have := k1 rfl _ (Same.refl _)
      rw [gv_at ej] at this
      have e : stk L j = L.lks[j].stock := by
        unfold stk
        rw [List.getElem?_eq_getElem hjl]
      rw [← e]
      exact this
    · intro H4 s4 h4
      rw [filter_true, List.length_map, map_range_get] at h4
      refine ⟨D, (r.map (stk L)).map fun (k : Nat) => (k : Int), rfl, SqL.of (h4.trans ?_), rfl, _, rfl, ite_f (decide_eq_false ?_) ?_⟩
      · rw [List.map_map, List.map_map]; rfl
      · intro e
        have hs := hring.sum (rk := fun n => match L.names[n]? with | some z => rk z | none => 0) (z := stk L) (fun i s t hi hz => ?_)
        · apply hs
          injection e with e
          have : (((r.map (stk L)).sum : Nat) : Int) = 0 := by rw [← e, sum_cast]
          omega
        · rw [Lin.ends, List.getElem?_map] at hi
          cases el : L.lks[i]? with
          | none => rw [el] at hi; cases hi
          | some l =>
            rw [el] at hi
            obtain ⟨rfl, rfl⟩ := Prod.mk.inj (Option.some.inj hi)
            have hm := List.mem_of_getElem? el
            have hz' : l.stock = 0 := by
              unfold stk at hz
              rw [el] at hz
              exact hz
            show (match L.names[L.idx l.src]? with | some z => rk z | none => 0) < (match L.names[L.idx l.tgt]? with | some z => rk z | none => 0)
            rw [names_get (hO.src l hm), names_get (hO.tgt l hm)]
            exact hrk l hm hz'
      · exact ⟨sA.trans s4, _, _, rfl⟩
  · rintro σ H' ⟨sA, v1, v2, rfl⟩
    exact q H' (s1.trans sA)
theorem sc_check_free : FnScope ["lines", "line", "ring"] ["lines"] (defScope s_check_free) := ⟨rfl, rfl, rfl, by decide +kernel, rfl, by decide +kernel, by decide +kernel⟩
def sp_cf0 (K : PySem.W.Frag) : Sp := fun vs H Q _ => ∃ (t : Addr) (vs' : List V) (Ls : List Lin), vs = [.ref t] ∧ SqT K H t vs' ∧ Paired (fun L v => LineAt K H v L ∧ L.Ok ∧ Acyc L) Ls vs' ∧ ∀ H', Same H H' → Q .non H'
/-- check_free(*lines) -/
def sp_cf (K : PySem.W.Frag) : Sp := fun vs H Q E => ∃ ws rest, vs = ws ++ rest ∧ ws.length = ([] : List Str).length ∧ rest.length ≤ sizeLine ∧ ∀ p, H p = none → sp_cf0 K (ws ++ [V.ref p]) (upd H p (.tup rest)) Q E
theorem ok_check_free (E : Env K mg base) : FnR P w K mg base CX0 14 (ga K "check_free") (sp_cf K) := by
  obtain ⟨oc, od, dV, kV, doc, pm, an, cdv, ct, osl, e, lk, hcd, hD, hK⟩ := (f_check_free E).ex
  rw [e] at lk
  rcases hD with ⟨_, rfl⟩ | ⟨e, _⟩
  · refine StX.fn_star (ps := []) (pv := "lines") (sp := sp_cf0 K) lk hcd sc_check_free StX.cxUp_none (fun us rest hl => ?_) fun A outer s H vs Q X hr h => ?_
    · cases us with
      | nil =>
        cases rest with
        | nil => rfl
        | cons r rs => rfl
      | cons _ _ => cases hl
    · obtain ⟨t, vs', Ls, rfl, ht, hP, q⟩ := h
      refine ⟨_, PSs.nox (pss_one (ps_for PassesOwn.never rfl (pi_tup (pv 0)) (pg_name (i := 1) sc_check_free.nd rfl (Or.inl rfl)) (pss_cons (ps_set (i := 2) sc_check_free.nd rfl (Or.inl rfl) (pe_call (ok_stuck E) (hr.mono (by decide)) rfl (g_stuck E) (f_stuck E).kp (b_stuck E) .nil pass0 (pa_cons (pv 1) pa_nil)))
      (pss_one (ps_if (pt_cmpR op_notN (pv 2) pe_non (nomark _)) (pss_one ps_never) pss_nil))))), ?_⟩
      refine ⟨_, rfl, t, rfl, ⟨_, ht⟩, ?_⟩
      refine for_it (walk_tup (K := K) (a := t) (xs := vs')) (fun i σ H' => Same H H' ∧ ∃ v1 v2, σ = [some (.ref t), v1, v2]) ⟨Same.refl _, _, _, rfl⟩ (fun i σ H' _ h => sT h.1 ht) ?_ ?_
      · rintro i x σ H1 H2 hi ⟨sA, v1, v2, rfl⟩ ⟨rfl, hx⟩
        obtain ⟨L, _, hL, hO, hA⟩ := pget hP hx
        refine ⟨_, rfl, x, L, rfl, hL.mono (sameI sA), hO, hA, fun H3 s3 => ?_⟩
        exact ⟨_, rfl, rfl, _, rfl, ite_f rfl ⟨sA.trans s3, _, _, rfl⟩⟩
      · rintro σ H' ⟨sA, v1, v2, rfl⟩
        exact q H' sA
  · exact absurd rfl e
end
end Own
set_option Elab.async false
set_option linter.all false
/-! rows as lists -/
namespace Own
open PySem PySem.Spec PyProof.Rows L2
abbrev Row := List Str × List Str
/-- the entries of a station -/
def handsEnt (s : Sta) : List (Nat × Str × Bool) := match s.hands with
  | none => []
  | some h => [(h, s.name, false)]
def tieEnt (l : Lnk) : Nat × Str × Bool := (l.stock, l.src, l.early)
def entsOf (L : Lin) (ls : List Lnk) (s : Sta) : List (Nat × Str × Bool) := handsEnt s ++ (ls.filter fun l => decide (l.tgt = s.name)).map tieEnt
theorem ents_iff {L : Lin} (hO : L.Ok) {s : Sta} (hs : s ∈ L.sts) {lag : Nat} {m : Str} {p : Bool} : (lag, m, p) ∈ entsOf L L.lks s ↔ Ent L s.name lag m p := by
  constructor
  · intro h
    rcases List.mem_append.mp h with h | h
    · unfold handsEnt at h
      cases e : s.hands with
      | none => rw [e] at h; cases h
      | some k =>
        rw [e] at h
        cases List.mem_singleton.mp h
        exact .hands hs e
    · obtain ⟨l, hl, e⟩ := List.mem_map.mp h
      obtain ⟨hl, ht⟩ := List.mem_filter.mp hl
      have ht := of_decide_eq_true ht
      cases e
      rw [← ht]
      exact .tie hl
  · intro h
    have key : ∀ n, Ent L n lag m p → n = s.name → (lag, m, p) ∈ entsOf L L.lks s := by
      intro n h e
      cases h with
      | @hands s' _ hs' hh =>
        have : s' = s := by
          obtain ⟨i, hi, e1⟩ := List.mem_iff_getElem.mp hs'
          obtain ⟨j, hj, e2⟩ := List.mem_iff_getElem.mp hs
          have hij := (List.getElem?_inj (i := i) (j := j) (l := L.names) (by rw [Lin.names, List.length_map]; exact hi) hO.nd).mp (by
            rw [Lin.names, List.getElem?_map, List.getElem?_map, List.getElem?_eq_getElem hi, List.getElem?_eq_getElem hj, e1, e2]
            show some s'.name = some s.name
            rw [e])
          subst hij
          rw [← e1, ← e2]
        subst this
        refine List.mem_append_left _ ?_
        unfold handsEnt
        rw [hh]
        exact List.mem_singleton.mpr rfl
      | @tie l hl =>
        refine List.mem_append_right _ (List.mem_map.mpr ⟨l, List.mem_filter.mpr ⟨hl, decide_eq_true e⟩, rfl⟩)
    exact key _ h rfl
/-- the list one looks into -/
def look (rows : List Row) (es bs : List Str) (lag : Nat) (p : Bool) : List Str :=
  if lag = 0 then (if p then bs else es) else match rows[rows.length - lag]? with
    | some r => if p then r.2 else r.1
    | none => []
def begun (els : List (Nat × Str × Bool)) (rows : List Row) (es bs : List Str) : Bool := els.any fun e => decide (e.1 ≤ rows.length) && decide (e.2.1 ∈ look rows es bs e.1 e.2.2)
/-- the rows are right -/
def RowOk (L : Lin) (z : Str) (j : Nat) (r : Row) : Prop := (∀ n, n ∈ r.1 ↔ En L z j n) ∧ (∀ n, n ∈ r.2 ↔ Bg L z j n) ∧ r.1.Nodup ∧ r.2.Nodup ∧ sortedS r.1 = true ∧ sortedS r.2 = true
def RowsOk (L : Lin) (z : Str) (rows : List Row) : Prop := ∀ j r, rows[j]? = some r → RowOk L z j r
theorem look_ok {L : Lin} {z : Str} {rows : List Row} {es bs : List Str} (hr : RowsOk L z rows) {lag : Nat} {p : Bool} {m : Str} (h0 : 0 < lag) (hl : lag ≤ rows.length) : m ∈ look rows es bs lag p ↔ Pl L z p (rows.length - lag) m := by
  unfold look
  rw [if_neg (by omega), List.getElem?_eq_getElem (by omega)]
  have := hr (rows.length - lag) _ (List.getElem?_eq_getElem (by omega))
  cases p
  · exact this.1 m
  · exact this.2.1 m
theorem begun_iff {els : List (Nat × Str × Bool)} {rows : List Row} {es bs : List Str} : begun els rows es bs = true ↔ ∃ lag m p, (lag, m, p) ∈ els ∧ lag ≤ rows.length ∧ m ∈ look rows es bs lag p := by
  unfold begun
  rw [List.any_eq_true]
  constructor
  · rintro ⟨⟨lag, m, p⟩, h, e⟩
    have e' := Bool.and_eq_true_iff.mp e
    exact ⟨lag, m, p, h, of_decide_eq_true e'.1, of_decide_eq_true e'.2⟩
  · rintro ⟨lag, m, p, h, e1, e2⟩
    exact ⟨(lag, m, p), h, Bool.and_eq_true_iff.mpr ⟨decide_eq_true e1, decide_eq_true e2⟩⟩
theorem begun_sound {L : Lin} (hO : L.Ok) {z : Str} {rows : List Row} {es bs : List Str} (hr : RowsOk L z rows) (hb : ∀ n ∈ bs, Bg L z rows.length n) (he : ∀ n ∈ es, En L z rows.length n) {s : Sta} (hs : s ∈ L.sts) (h : begun (entsOf L L.lks s) rows es bs = true) : Bg L z rows.length s.name := by
  obtain ⟨lag, m, p, h1, h2, h3⟩ := begun_iff.mp h
  refine Bg.iff.mpr ⟨lag, m, p, (ents_iff hO hs).mp h1, h2, ?_⟩
  rcases Nat.eq_zero_or_pos lag with e | e
  · subst e
    unfold look at h3
    rw [if_pos rfl] at h3
    cases p
    · exact he _ h3
    · exact hb _ h3
  · exact (look_ok hr e h2).mp h3
theorem begun_all {L : Lin} (hO : L.Ok) (hA : Acyc L) {z : Str} {rows : List Row} {es bs : List Str} (hr : RowsOk L z rows) (he : ∀ n, (rows.length = 0 ∧ n = z) ∨ n ∈ bs → n ∈ es)
    (hcl : ∀ s ∈ L.sts, s.name ∉ bs → begun (entsOf L L.lks s) rows es bs = false) : ∀ n, Bg L z rows.length n → n ∈ bs := by
  obtain ⟨rk, hrk⟩ := hA
  have main : ∀ N n, rk n ≤ N → Bg L z rows.length n → n ∈ bs := by
    intro N
    induction N using Nat.strongRecOn with
    | _ N ih =>
      intro n hn hB
      obtain ⟨s, hs, rfl⟩ := List.mem_map.mp (hB.mem hO)
      by_cases c : s.name ∈ bs
      · exact c
      · have hf := hcl s hs c
        exfalso
        obtain ⟨lag, m, p, h1, h2, h3⟩ := Bg.iff.mp hB
        have : begun (entsOf L L.lks s) rows es bs = true := begun_iff.mpr ⟨lag, m, p, (ents_iff hO hs).mpr h1, h2, by
          rcases Nat.eq_zero_or_pos lag with e | e
          · subst e
            have hup := h1.up hO hrk
            have hm : Bg L z rows.length m → m ∈ bs := ih (rk m) (by omega) m (Nat.le_refl _)
            unfold look
            rw [if_pos rfl]
            cases p
            · rcases h3 with ⟨h4, h5⟩ | h3
              · exact he m (.inl ⟨by omega, h5⟩)
              · exact he m (.inr (hm h3))
            · exact hm h3
          · exact (look_ok hr e h2).mpr h3⟩
        rw [hf] at this
        cases this
  exact fun n => main (rk n) n (Nat.le_refl _)
/-- the two results of a row -/
theorem rowOk_of {L : Lin} (hO : L.Ok) (hA : Acyc L) {z : Str} {rows : List Row} {es bs es' bs' : List Str} (hr : RowsOk L z rows) (he : ∀ n, n ∈ es ↔ (rows.length = 0 ∧ n = z) ∨ n ∈ bs) (hb : ∀ n ∈ bs, Bg L z rows.length n)
    (hcl : ∀ s ∈ L.sts, s.name ∉ bs → begun (entsOf L L.lks s) rows es bs = false) (p1 : es'.Perm es) (p2 : bs'.Perm bs) (n1 : es.Nodup) (n2 : bs.Nodup) (s1 : sortedS es' = true) (s2 : sortedS bs' = true) : RowOk L z rows.length (es', bs') := by
  have all := begun_all hO hA hr (fun n h => (he n).mpr h) hcl
  have hbi : ∀ n, n ∈ bs ↔ Bg L z rows.length n := fun n => ⟨hb n, all n⟩
  refine ⟨fun n => ?_, fun n => ?_, p1.nodup_iff.mpr n1, p2.nodup_iff.mpr n2, s1, s2⟩
  · rw [p1.mem_iff, he n, hbi n]; exact Iff.rfl
  · rw [p2.mem_iff, hbi n]
end Own
set_option Elab.async false
set_option linter.all false
set_option maxRecDepth 100000
set_option maxHeartbeats 4000000
/-! dicts keyed by tuples of tuples -/
namespace OwnR
open PySem PySem.Spec PyProof.Rows L2
section
variable (K : PySem.W.Frag) (H : Hp)
mutual
inductive Nk : NestedKey → V → Prop
  | int (i : Int) : Nk (.num i) (.int i)
  | text (z : Str) : Nk (.text z) (.str z)
  | tup {a : Addr} {xs : List V} {ks : List NestedKey} : SqT K H a xs → NkAll ks xs → Nk (.tup ks) (.ref a)
inductive NkAll : List NestedKey → List V → Prop
  | nil : NkAll [] []
  | cons {k : NestedKey} {v : V} {ks : List NestedKey} {vs : List V} : Nk k v → NkAll ks vs → NkAll (k :: ks) (v :: vs)
end
end
section
variable {K : PySem.W.Frag} {H H' : Hp}
mutual
theorem Nk.mono (e : SameI H H') : ∀ (k : NestedKey) (v : V), Nk K H k v → Nk K H' k v
  | .none, _, h => by cases h
  | .num i, _, h => by cases h; exact .int i
  | .text z, _, h => by cases h; exact .text z
  | .tup ks, _, h => by
    cases h with
    | tup h1 h2 => exact .tup (e.seqT h1) (NkAll.mono e ks _ h2)
theorem NkAll.mono (e : SameI H H') : ∀ (ks : List NestedKey) (vs : List V), NkAll K H ks vs → NkAll K H' ks vs
  | [], _, h => by cases h; exact .nil
  | k :: ks, _, h => by
    cases h with
    | cons h1 h2 => exact .cons (Nk.mono e k _ h1) (NkAll.mono e ks _ h2)
end
end
section
variable {X : Cx} {pins : List (Addr × Obj)} {σ : L2.St} {H : Hp} {s : Shared}
mutual
theorem Nk.is (I : Inv X pins σ H s) : ∀ (k : NestedKey) (v : V) (u : Value), Nk X.K H k v → RelV v u → NestedIs s.heap k u
  | .none, _, _, h, _ => by cases h
  | .num i, _, _, h, r => by
    cases h
    obtain ⟨t, rfl⟩ := r
    exact .int i t
  | .text z, _, _, h, r => by
    cases h
    obtain ⟨t, rfl⟩ := r
    exact .text z t
  | .tup ks, _, _, h, r => by
    cases h with
    | tup hs ha =>
      cases r
      obtain ⟨its, rv, ⟨o, ho, hc, n, hd⟩, _⟩ := I.tuple hs
      exact .tup ho hc hd (NkAll.is I ks _ its ha rv)
theorem NkAll.is (I : Inv X pins σ H s) : ∀ (ks : List NestedKey) (vs : List V) (us : List Value), NkAll X.K H ks vs → Vals vs us → NestedAll s.heap ks us
  | [], _, _, h, r => by
    cases h
    cases r
    exact .nil
  | k :: ks, _, _, h, r => by
    cases h with
    | cons h1 h2 =>
      cases r with
      | cons r1 r2 => exact .cons (Nk.is I k _ _ h1 r1) (NkAll.is I ks _ _ h2 r2)
end
end
/-- what is so of the one object -/
def DNf (P : Program) (w : World) (a : Addr) (xs : List (NestedKey × Addr × V)) (h : Heap) : Prop := (a == sysModules) = false ∧ xs.length ≤ sizeLine ∧ (xs.map (·.1)).Nodup ∧
  ∃ ys : List (NestedKey × Addr × Value), Paired (fun (p : NestedKey × Addr × V) (q : NestedKey × Addr × Value) => p.1 = q.1 ∧ p.2.1 = q.2.1 ∧ RelV p.2.2 q.2.2) xs ys ∧
    ∃ o es ep, h.get? a = some o ∧ o.ExactDict ∧ o.data = .dict es ep ∧ es.toList = ys.map (entryOfKey (nestedKind P w))
def DNO (P : Program) (w : World) (a : Addr) (xs : List (NestedKey × Addr × V)) : HO := .ext (DNf P w a xs)
theorem dn_ok {P : Program} {w : World} {H : Hp} {h : Heap} {a : Addr} {xs : List (NestedKey × Addr × V)} (d : DNf P w a xs h) : ObjOk P w H h a (DNO P w a xs) := by
  obtain ⟨h1, h2, h3, ys, hP, o, es, ep, ho, hx, hd, he⟩ := id d
  refine ⟨d, ⟨o, ho⟩, fun u v q k => ?_⟩
  obtain ⟨q1, q2, q3, zs, qP, o', es', ep', qo, qr⟩ := q
  exact ⟨q1, q2, q3, zs, qP, o', es', ep', k _ qo, qr⟩
theorem paired_fst {P : Program} {w : World} : ∀ {xs : List (NestedKey × Addr × V)} {ys : List (NestedKey × Addr × Value)}, Paired (fun (p : NestedKey × Addr × V) (q : NestedKey × Addr × Value) => p.1 = q.1 ∧ p.2.1 = q.2.1 ∧ RelV p.2.2 q.2.2) xs ys → xs.map (·.1) = ys.map (·.1)
  | _, _, .nil => rfl
  | _, _, .cons r t => by rw [List.map_cons, List.map_cons, r.1, paired_fst (P := P) (w := w) t]
theorem paired_mem {α β : Type} {F : α → β → Prop} : ∀ {l : List α} {m : List β}, Paired F l m → ∀ b ∈ m, ∃ a ∈ l, F a b
  | _, _, .nil, b, h => nomatch h
  | _, _, .cons r t, b, h => by
    rcases List.mem_cons.mp h with e | h
    · subst e; exact ⟨_, List.mem_cons_self, r⟩
    · obtain ⟨a, h1, h2⟩ := paired_mem t b h
      exact ⟨a, List.mem_cons_of_mem _ h1, h2⟩
theorem atKey_none {ys : List (NestedKey × Addr × Value)} {k : NestedKey} : (atKey ys k).isSome = decide (k ∈ ys.map (·.1)) := by
  induction ys with
  | nil => rfl
  | cons y ys ih =>
    unfold atKey at ih ⊢
    rw [List.find?_cons, List.map_cons]
    by_cases c : y.1 = k
    · subst c; simp
    · have c' : ¬ k = y.1 := fun e => c e.symm
      rw [show decide (y.1 = k) = false from decide_eq_false c]
      show ((List.find? (fun x => decide (x.1 = k)) ys).map (·.2)).isSome = _
      rw [ih]
      simp [c']
/-- the value that stands for the key -/
def atN1 (xs : List (NestedKey × Addr × V)) (k : NestedKey) : Option V := (xs.find? fun x => decide (x.1 = k)).map (·.2.2)
theorem paired_at {xs : List (NestedKey × Addr × V)} {ys : List (NestedKey × Addr × Value)} {k : NestedKey} {v : V} (h : Paired (fun (p : NestedKey × Addr × V) (q : NestedKey × Addr × Value) => p.1 = q.1 ∧ p.2.1 = q.2.1 ∧ RelV p.2.2 q.2.2) xs ys) (e : atN1 xs k = some v) : ∃ p, atKey ys k = some p ∧ RelV v p.2 := by
  induction h with
  | nil => cases e
  | @cons x y xs ys r t ih =>
    unfold atN1 at e ih
    unfold atKey at ih ⊢
    rw [List.find?_cons] at e ⊢
    rw [← r.1]
    by_cases c : x.1 = k
    · rw [show decide (x.1 = k) = true from decide_eq_true c] at e ⊢
      obtain rfl := Option.some.inj e
      exact ⟨y.2, rfl, r.2.2⟩
    · rw [show decide (x.1 = k) = false from decide_eq_false c] at e ⊢
      exact ih e
section
variable {X : Cx} {pins : List (Addr × Obj)} {σ : L2.St} {H : Hp} {s : Shared} {d : Addr} {xs : List (NestedKey × Addr × V)}
def KeysN (K : PySem.W.Frag) (H : Hp) (xs : List (NestedKey × Addr × V)) : Prop := ∀ p ∈ xs, Nk K H p.1 (.ref p.2.1) ∧ p.1.depth ≤ 8
theorem dn_of (I : Inv X pins σ H s) (e : H d = some (DNO X.prog X.w d xs)) (hk : KeysN X.K H xs) : (d == sysModules) = false ∧ xs.length ≤ sizeLine ∧ (xs.map (·.1)).Nodup ∧
    ∃ ys, Paired (fun (p : NestedKey × Addr × V) (q : NestedKey × Addr × Value) => p.1 = q.1 ∧ p.2.1 = q.2.1 ∧ RelV p.2.2 q.2.2) xs ys ∧ s.heap.DictOfH (nestedKind X.prog X.w) d ys := by
  obtain ⟨⟨h1, h2, h3, ys, hP, o, es, ep, ho, hx, hd, he⟩, _, _⟩ := (show ObjOk X.prog X.w H s.heap d (DNO X.prog X.w d xs) from I.hok d _ e)
  refine ⟨h1, h2, h3, ys, hP, o, es, ep, ho, hx, hd, he, fun y hy => ?_, by rw [← paired_fst (P := X.prog) (w := X.w) hP]; exact h3⟩
  obtain ⟨p, hp, e1, e2, _⟩ := paired_mem hP y hy
  obtain ⟨n, dp⟩ := hk p hp
  rw [← e1, ← e2]
  exact ⟨Nk.is I _ _ _ n rfl, dp⟩
/-- {}, to be such a dict -/
theorem pe_dnewN {pos : Pos} : PE X (.Dict [] [] pos) (fun _ H Q => ∀ p, H p = none → Q (.ref p) (upd H p (DNO X.prog X.w p []))) := ⟨fun pins s σ H Q I h =>
  wpAny_Dict_empty ⟨.ref s.heap.objs.size, _, I.laid (a := s.heap.objs.size) (o := DNO X.prog X.w s.heap.objs.size []) (t' := s.toks) (fun _ _ q => Heap.get?_push_of_some _ q) (Nat.le_refl _)
    (dn_ok ⟨beq_eq_false_iff_ne.mpr (Ne.symm (Nat.ne_of_lt I.big)), Nat.zero_le _, List.nodup_nil, [], .nil, _, #[], 0, Heap.get?_push_size _ rfl, ⟨rfl, rfl, rfl⟩, rfl, rfl⟩), rfl, h _ (I.hok.fresh (Nat.le_refl _))⟩⟩
theorem kn_room (hu : X.A.units + 64 < cLine) : (nestedKind X.prog X.w).room X.A.in1 := by
  show X.A.in1.units + 8 < cLine
  have : X.A.in1.units = X.A.units + 1 := rfl
  omega
theorem kn_is {a : Addr} {k : NestedKey} (I : Inv X pins σ H s) (hn : Nk X.K H k (.ref a)) (hd : k.depth ≤ 8) : (nestedKind X.prog X.w).is s.heap k a := ⟨Nk.is I _ _ _ hn rfl, hd⟩
def rInN (K : PySem.W.Frag) (P : Program) (w : World) : R2 := fun x y H Q => ∃ (a d : Addr) (k : NestedKey) (xs : List (NestedKey × Addr × V)), x = .ref a ∧ y = .ref d ∧ H d = some (DNO P w d xs) ∧ KeysN K H xs ∧ Nk K H k (.ref a) ∧ k.depth ≤ 8 ∧ Q (.bl (decide (k ∈ xs.map (·.1)))) H
theorem op_inN (hu : X.A.units + 64 < cLine) : OpR X (compareOp .In) (rInN X.K X.prog X.w) := by
  intro pins s σ H x y v u Q I rx ry h
  obtain ⟨a, d, k, xs, rfl, rfl, e, hk, hn, hd, q⟩ := h
  cases rx
  cases ry
  obtain ⟨h1, h2, h3, ys, hP, dd⟩ := dn_of I e hk
  refine wpAny_in_heap (kn_room hu) (kn_is I hn hd) h1 dd ⟨.bl _, H, I.tok _, ?_, q⟩
  show Value.bool _ = Value.bool _
  rw [atKey_none, paired_fst (P := X.prog) (w := X.w) hP]
variable {o i : Expr} {pos : Pos} {td ty : TE}
/-- d[y] -/
def tDGetN (K : PySem.W.Frag) (P : Program) (w : World) (td ty : TE) : TE := fun σ H Q => td σ H fun x H1 => ty σ H1 fun y H2 => ∃ (a d : Addr) (k : NestedKey) (xs : List (NestedKey × Addr × V)) (v : V), x = .ref d ∧ y = .ref a ∧ H2 d = some (DNO P w d xs) ∧ KeysN K H2 xs ∧ Nk K H2 k (.ref a) ∧ k.depth ≤ 8 ∧ atN1 xs k = some v ∧ Q v H2
theorem pe_dgetN (hu : X.A.units + 64 < cLine) (ho : PE X o td) (hi : PE X i ty) (hs : NoSl i) : PE X (.Subscript o i pos) (tDGetN X.K X.prog X.w td ty) := by
  refine ⟨fun pins s σ H Q I h => ?_⟩
  refine subD_of PySem.F.slot_dict_getitem.lookup hs (thn (ho.run pins s σ H _ I h) fun u s1 ⟨x, H1, I1, rx, q1⟩ => thn (hi.run pins s1 σ H1 _ I1 q1) fun iv s2 ⟨y, H2, I2, ry, a, d, k, xs, v, ex, ey, e, hk, hn, hd, hv, q2⟩ => ?_)
  subst ex
  subst ey
  obtain rfl : u = Value.ref d := rx
  obtain rfl : iv = Value.ref a := ry
  obtain ⟨h1, h2, h3, ys, hP, dd⟩ := dn_of I2 e hk
  obtain ⟨p, hp, rp⟩ := paired_at hP hv
  exact ⟨dd.typeIs, wpAny_getItem_heap (kn_room hu) (kn_is I2 hn hd) dd hp ⟨v, H2, I2.tok _, rp, q2⟩⟩
/-- d[y] = v, a new key -/
def rSetN (K : PySem.W.Frag) (P : Program) (w : World) : TSet := fun o i v H Q => ∃ (a d : Addr) (k : NestedKey) (xs : List (NestedKey × Addr × V)), o = .ref d ∧ i = .ref a ∧ H d = some (DNO P w d xs) ∧ KeysN K H xs ∧ Nk K H k (.ref a) ∧ k.depth ≤ 8 ∧ k ∉ xs.map (·.1) ∧ xs.length < sizeLine ∧ Q (upd H d (DNO P w d (xs ++ [(k, a, v)])))
theorem Paired.snoc2 {α β : Type} {F : α → β → Prop} : ∀ {l : List α} {m : List β} {a : α} {b : β}, Paired F l m → F a b → Paired F (l ++ [a]) (m ++ [b])
  | _, _, _, _, .nil, h => .cons h .nil
  | _, _, _, _, .cons r t, h => .cons r (Paired.snoc2 t h)
theorem set_dictN (hu : X.A.units + 64 < cLine) : PSet X (rSetN X.K X.prog X.w) := by
  intro pins s σ H o i v ov iv u Q I ro ri rv h
  obtain ⟨a, d, k, xs, rfl, rfl, e, hk, hn, hd, hnew, hz, q⟩ := h
  cases ro
  cases ri
  obtain ⟨h1, h2, h3, ys, hP, dd⟩ := dn_of I e hk
  have hl := Paired.length hP
  have hnone : atKey ys k = none := by
    have := atKey_none (ys := ys) (k := k)
    rw [← paired_fst (P := X.prog) (w := X.w) hP, decide_eq_false hnew] at this
    exact Option.isNone_iff_eq_none.mp (by rw [Option.isNone_iff_eq_none]; cases e : atKey ys k with
      | none => rfl
      | some p => rw [e] at this; cases this)
  refine wpAny_setItem_heap (hsz := by omega) (kn_room hu) (kn_is I hn hd) dd fun h' dd' hs => ?_
  rw [storedH_new hnone] at dd'
  obtain ⟨q1, es, ep, hq, d2, d3, d4, _, d5⟩ := dd'
  refine ⟨_, d_write I (by rw [e]; exact True.intro) hs ⟨q1, hq⟩ (dn_ok ⟨h1, by rw [List.length_append]; show _ + 1 ≤ _; omega, ?_, ys ++ [(k, a, u)], Paired.snoc2 hP ⟨rfl, rfl, rv⟩, q1, es, ep, hq, d2, d3, d4⟩), q⟩
  rw [paired_fst (P := X.prog) (w := X.w) (Paired.snoc2 hP (a := (k, a, v)) (b := (k, a, u)) ⟨rfl, rfl, rv⟩)]
  exact d5
end
end OwnR
namespace OwnR
open PySem PySem.Spec PyProof.Rows L2
section
variable {X : Cx} {o : Expr} {f : Str} {pos : Pos} {ta : TE}
/-- o.f = .. as a target -/
def gFld (K : PySem.W.Frag) (ta : TE) (f : Str) : TG := fun y σ H Q => ta σ H fun x H2 => ∃ a C dx fs, x = .ref a ∧ H2 a = some (.ins C dx fs) ∧ Cls K C ∧ NoAttr K C f ∧ fs.length < 1000 ∧ Q σ (upd H2 a (.ins C dx (putF f y fs)))
theorem pg_fld (ha : PE X o ta) (hx : ∀ v, assign (.Attribute o f pos) X.env v = (do
      let ov ← holding [v] (eval o X.env)
      standAt pos.atName
      holding [v, ov] (setAttr ov f v)
      release [v, ov] []) := by intro _; rfl) : PG X (.Attribute o f pos) (gFld X.K ta f) := by
  refine ⟨fun pins s σ H v u Q I r h => ?_⟩
  rw [hx]
  refine wpAny_bind (wpAny_holding (thn (ha.run pins s σ H _ I h) fun ov s2 ⟨x, H2, I2, rx, a, C, dx, fs, ex, ea, c, n, l, q2⟩ => ?_))
  subst ex
  obtain rfl : ov = Value.ref a := rx
  refine wpAny_bind (wpAny_standAt (wpAny_bind (wpAny_holding (setattr_ok I2 ea c n l r fun s3 I3 => ?_))))
  exact wpAny_release ⟨σ, _, I3, q2⟩
end
end OwnR
set_option Elab.async false
set_option linter.all false
set_option maxRecDepth 100000
set_option maxHeartbeats 4000000
/-! a walk's rows -/
namespace Own
open PySem PySem.Spec PyProof.Rows L2 He OwnR
def kv {α : Type} (l : List α) (k : α → Bool) (i : Nat) : Bool := match l[i]? with | some a => k a | none => false
theorem kv_at {α : Type} {l : List α} {k : α → Bool} {i : Nat} {a : α} (h : l[i]? = some a) : kv l k i = k a := by
  unfold kv
  rw [h]
theorem filter_gv {α : Type} (l : List α) (k : α → Bool) (g : α → V) : ((List.range l.length).filter (kv l k)).map (gv l g) = (l.filter k).map g := by
  have main : ∀ n, n ≤ l.length → ((List.range n).filter (kv l k)).map (gv l g) = ((l.take n).filter k).map g := by
    intro n
    induction n with
    | zero => intro _; rfl
    | succ n ih =>
      intro hn
      have hlt : n < l.length := by omega
      have e : l[n]? = some l[n] := List.getElem?_eq_getElem hlt
      rw [List.range_succ, List.filter_append, List.map_append, ih (by omega), List.take_succ, e, List.filter_append, List.map_append]
      congr 1
      show List.map _ (List.filter _ [n]) = List.map g (List.filter k [l[n]])
      rw [List.filter_cons, List.filter_cons, kv_at e]
      cases hb : k l[n] with
      | true =>
        rw [if_pos rfl, if_pos rfl, List.map_cons, List.map_cons, gv_at e]; rfl
      | false => rfl
  have := main l.length (Nat.le_refl _)
  rw [List.take_length] at this
  exact this
theorem hands_map : ∀ ss : List Sta, ((ss.filter fun s => s.hands.isSome).map fun s => hV s.hands) = (ss.filterMap Sta.hands).map fun (h : Nat) => V.int (h : Nat)
  | [] => rfl
  | s :: ss => by
    rw [List.filter_cons, List.filterMap_cons]
    cases e : s.hands with
    | none => exact hands_map ss
    | some h =>
      show List.map _ (s :: _) = List.map _ (h :: _)
      rw [List.map_cons, List.map_cons, e, hands_map ss]; rfl
/-- a dict by names -/
def kvsOf (ns : List Str) (ls : List Addr) : List (Key × V) := (ns.zip ls).map fun p => (Sum.inr p.1, V.ref p.2)
theorem valV_kvs : ∀ {ns : List Str} {ls : List Addr} {j : Nat} {z : Str} {l : Addr}, ns.Nodup → ns[j]? = some z → ls[j]? = some l → valV (kvsOf ns ls) (.inr z) = some (.ref l)
  | [], _, _, _, _, _, h, _ => by simp at h
  | _ :: _, [], _, _, _, _, _, h => by simp at h
  | n :: ns, a :: ls, 0, z, l, _, h1, h2 => by
    cases h1
    cases h2
    exact valV_pos rfl
  | n :: ns, a :: ls, j + 1, z, l, hd, h1, h2 => by
    obtain ⟨hn, hd⟩ := List.nodup_cons.mp hd
    have h1' : ns[j]? = some z := by simpa using h1
    have h2' : ls[j]? = some l := by simpa using h2
    have ne : ¬ ((Sum.inr n : Key) = .inr z) := fun e => hn (by rw [Sum.inr.inj e]; exact List.mem_of_getElem? h1')
    show valV ((Sum.inr n, V.ref a) :: kvsOf ns ls) _ = _
    rw [valV_neg ne]
    exact valV_kvs hd h1' h2'
theorem valV_kvs_none : ∀ {ns : List Str} {ls : List Addr} {z : Str}, z ∉ ns → valV (kvsOf ns ls) (.inr z) = none
  | [], _, _, _ => by simp [kvsOf, valV_nil]
  | _ :: _, [], _, _ => by simp [kvsOf, valV_nil]
  | n :: ns, a :: ls, z, h => by
    have ne : ¬ ((Sum.inr n : Key) = .inr z) := fun e => h (by rw [Sum.inr.inj e]; exact List.mem_cons_self)
    show valV ((Sum.inr n, V.ref a) :: kvsOf ns ls) _ = _
    rw [valV_neg ne]
    exact valV_kvs_none fun hz => h (List.mem_cons_of_mem _ hz)
theorem kvs_keys : ∀ {ns : List Str} {ls : List Addr}, ls.length = ns.length → (kvsOf ns ls).map (fun kv => kV kv.1) = ns.map V.str
  | [], [], _ => rfl
  | n :: ns, a :: ls, h => by
    have := kvs_keys (ns := ns) (ls := ls) (by simpa using h)
    show V.str n :: (kvsOf ns ls).map (fun kv => kV kv.1) = _
    rw [this]; rfl
theorem kvs_snoc : ∀ {ns : List Str} {ls : List Addr} {n : Str} {l : Addr}, ls.length = ns.length → kvsOf (ns ++ [n]) (ls ++ [l]) = kvsOf ns ls ++ [(.inr n, .ref l)] := by
  intro ns ls n l h
  unfold kvsOf
  rw [List.zip_append h.symm, List.map_append]; rfl
section
variable {P : Program} {w : World} {K : PySem.W.Frag} {mg : Str → Option Value} {base : Heap}
theorem sc_width_of : FnScope ["line", "hands", "station", "link"] ["line"] (defScope s_width_of) := ⟨rfl, rfl, rfl, by decide +kernel, rfl, by decide +kernel, by decide +kernel⟩
theorem b_width_of (E : Env K mg base) : Binds K (fdAt K (ga K "width_of")) ["line"] [] := (f_width_of E).bindsN fun _ _ _ _ _ _ us hl => match us, hl with | [_], _ => rfl
def sp_wo (K : PySem.W.Frag) : Sp := fun vs H Q _ => ∃ (v : V) (L : Lin), vs = [v] ∧ LineAt K H v L ∧ L.Ok ∧ ∀ H' wd, Same H H' → 1 ≤ wd → wd ≤ 3 → (∀ n m lag p, Ent L n lag m p → lag ≤ wd) → Q (.int (wd : Nat)) H'
theorem ok_width_of (E : Env K mg base) : FnOk P w K mg base CX0 3 (ga K "width_of") (fdAt K (ga K "width_of")) ["line"] ((sp_wo K)) := by
  refine okD (f_width_of E) sc_width_of (fun cdv A outer s H vs Q X hr h => ?_) (fun vs H Q X h => by obtain ⟨_, _, rfl, _⟩ := h; rfl)
  obtain ⟨v, L, rfl, hL, hO, q⟩ := h
  have n4 := hO.n6
  have n6 := hO.n12
  have e3 : sizeLine = 16777216 := sizeLine_eq
  obtain ⟨a, dx, t, ta, tb, rfl, ha, _⟩ := id hL
  refine ⟨_, (pss_cons (ps_setLc (i := 1) (own := [("station", 2)]) (g := (gName 2)) rfl sc_width_of.nd rfl rfl (sw_true rfl rfl rfl (by decide +kernel)) (pi_tup (pe_pr (pv 0) (c_Line E) (p_Line_stations E) (ok_Line_stations E) (hr.mono (by decide)) (bp_Line_stations E) rfl)) (blkOk_by (own := [("station", 2)]) (N := (["line", "hands", "station", "link"] : List Str)) (sc := defScope s_width_of) (by decide +kernel)) (fun _ _ _ _ _ => (pg_name (i := 2) sc_width_of.nd rfl (Or.inl rfl))) (fun _ _ _ _ _ => (pts_one (pt_cmpR op_notN (pe_pr (pv 2) (c_Station E) (p_Station_hands E) (ok_Station_hands E) (hr.mono (by decide)) (bp_Station_hands E) rfl) pe_non (nomark _)))) (fun _ _ _ _ _ => (pe_pr (pv 2) (c_Station E) (p_Station_hands E) (ok_Station_hands E) (hr.mono (by decide)) (bp_Station_hands E) rfl)))
      (pss_one (ps_ret (pe_callB (maxK K) rfl (n_max E) boot_max (pa_cons (pe_lst (pa_cons pe_int (StX.pa_star (pv 1) (StX.pa_star (pe_lc (own := [("link", 3)]) (g := (gName 3)) rfl sc_width_of.nd (pi_tup (pe_pr (pv 0) (c_Line E) (p_Line_links E) (ok_Line_links E) (hr.mono (by decide)) (bp_Line_links E) rfl)) (blkOk_by (own := [("link", 3)]) (N := (["line", "hands", "station", "link"] : List Str)) (sc := defScope s_width_of) (by decide +kernel)) (fun _ _ _ _ _ => (pg_name (i := 3) sc_width_of.nd rfl (Or.inl rfl))) (fun _ _ _ _ _ => pts_nil) (fun _ _ _ _ _ => (pe_pr (pv 3) (c_Link E) (p_Link_stock E) (ok_Link_stock E) (hr.mono (by decide)) (bp_Link_stock E) rfl))) pa_nil)))) pa_nil))))), ?_⟩
  refine ⟨_, rfl, a, dx, _, rfl, ha, _, L, rfl, hL, fun tk ⟨xs, hxs, hP⟩ => ⟨tk, rfl, ⟨xs, hxs⟩, fun D hD => ?_⟩⟩
  have hxl : L.sts.length = xs.length := Paired.length hP
  refine lc_map (walk_tup (K := K) (a := tk) (xs := xs)) hD (gv L.sts fun s => hV s.hands) (kv L.sts fun s => s.hands.isSome) (by omega) (fun H s => sT s hxs) ?_ ?_
  · rintro k y H2 H3 Nk Ns hk s2 ⟨rfl, hy⟩ k1 k2
    obtain ⟨s, es, hs⟩ := pget hP hy
    rw [kv_at es] at k1 k2
    rw [gv_at es] at k1
    obtain ⟨b, bd, bt, rfl, hb, ht⟩ := id hs
    have hs2 := hs.mono (sameI s2)
    refine ⟨rfl, _, rfl, b, bd, _, rfl, s2 _ _ hb, _, s, rfl, hs2, rfl, _, rfl, ?_⟩
    cases e : s.hands with
    | none => exact ite_f (b := !decide (V.non = V.non)) rfl (k2 (by rw [e]; rfl) _ (Same.refl _))
    | some n =>
      refine ite_t (b := !decide (V.int n = V.non)) rfl ?_
      refine ⟨_, rfl, b, bd, _, rfl, s2 _ _ hb, _, s, rfl, hs2, ?_⟩
      exact k1 (by rw [e]; rfl) _ (Same.refl _)
  · intro H2 s2 h2
    rw [← hxl, filter_gv, hands_map] at h2
    have hL2 := hL.mono (sameI s2)
    refine ⟨_, rfl, D, _, rfl, .inr (SqL.of h2), ?_⟩
    refine ⟨_, rfl, a, dx, _, rfl, s2 _ _ ha, _, L, rfl, hL2, fun tl ⟨ys, hys, hPl⟩ => ⟨tl, rfl, ⟨ys, hys⟩, fun D2 hD2 => ?_⟩⟩
    have hyl : L.lks.length = ys.length := Paired.length hPl
    refine lc_map (walk_tup (K := K) (a := tl) (xs := ys)) hD2 (gv L.lks fun l => .int (l.stock : Nat)) (fun _ => true) (by omega) (fun H s => sT s hys) ?_ ?_
    · rintro k y H3 H4 Nk Ns hk s3 ⟨rfl, hy⟩ k1 k2
      obtain ⟨l, el, hl⟩ := pget hPl hy
      rw [gv_at el] at k1
      obtain ⟨b, bd, bt, rfl, hb, ht⟩ := id hl
      exact ⟨rfl, tyes_if ⟨_, rfl, b, bd, _, rfl, s3 _ _ hb, _, l, rfl, hl.mono (sameI s3), k1 rfl _ (Same.refl _)⟩⟩
    · intro H3 s3 h3
      rw [filter_true, ← hyl, map_range_get] at h3
      refine ⟨D2, _, rfl, .inr (SqL.of h3), ?_⟩
      have hfl : (L.sts.filterMap Sta.hands).length ≤ 4 := Nat.le_trans (List.length_filterMap_le _ _) n4
      refine ⟨by simp; omega, fun p hp => ?_⟩
      refine ⟨p, (1 : Int) :: ((L.sts.filterMap Sta.hands).map (fun (h : Nat) => (h : Int)) ++ L.lks.map fun l => (l.stock : Int)), rfl, SqL.of (upd_same.trans (by simp [List.map_map]; rfl)), by simp, fun m hm hle => ?_⟩
      have h1 := hle 1 (by simp)
      obtain ⟨wd, rfl⟩ := Int.eq_ofNat_of_zero_le (show 0 ≤ m by omega)
      refine q _ wd ((s2.trans s3).trans (sNew hp)) (by omega) ?_ ?_
      · rcases List.mem_cons.mp hm with e | hm
        · omega
        · rcases List.mem_append.mp hm with hm | hm
          · obtain ⟨h, hh, e⟩ := List.mem_map.mp hm
            obtain ⟨s, hs, e2⟩ := List.mem_filterMap.mp hh
            have := (hO.hands s hs h e2).2
            omega
          · obtain ⟨l, hl, e⟩ := List.mem_map.mp hm
            have := hO.stock l hl
            omega
      · intro n m lag p hE
        have : ((lag : Nat) : Int) ≤ (wd : Nat) := hle _ (List.mem_cons_of_mem _ (by
          cases hE with
          | hands hs hh => exact List.mem_append_left _ (List.mem_map.mpr ⟨_, List.mem_filterMap.mpr ⟨_, hs, hh⟩, rfl⟩)
          | tie hl => exact List.mem_append_right _ (List.mem_map.mpr ⟨_, hl, rfl⟩)))
        omega
/-- an entry -/
def EntV (K : PySem.W.Frag) (H : Hp) (e : Nat × Str × Bool) (v : V) : Prop := ∃ t, v = .ref t ∧ SqT K H t [.int (e.1 : Nat), .str e.2.1, .int (if e.2.2 then 1 else 0)]
theorem EntV.mono {H H' : Hp} {e : Nat × Str × Bool} {v : V} (h : EntV K H e v) (g : SameI H H') : EntV K H' e v := by
  obtain ⟨t, rfl, h⟩ := h
  exact ⟨t, rfl, g.seqT h⟩
/-- the entries of a line -/
def EntsAt (K : PySem.W.Frag) (H0 H : Hp) (D : Addr) (L : Lin) (els : Sta → List (Nat × Str × Bool)) : Prop := ∃ ls : List Addr, ls.length = L.sts.length ∧ ls.Nodup ∧ H D = some (.dK (kvsOf L.names ls)) ∧ (∀ l ∈ ls, H0 l = none) ∧ ∀ (j : Nat) (l : Addr) (s : Sta), ls[j]? = some l → L.sts[j]? = some s → ∃ xs, H l = some (.lst xs) ∧ Paired (EntV K H) (els s) xs
theorem EntsAt.mono {H0 H H' : Hp} {D : Addr} {L : Lin} {els : Sta → List (Nat × Str × Bool)} (h : EntsAt K H0 H D L els) (g : Same H H') : EntsAt K H0 H' D L els := by
  obtain ⟨ls, h1, h2, h3, h4, h5⟩ := h
  refine ⟨ls, h1, h2, g _ _ h3, h4, fun j l s a b => ?_⟩
  obtain ⟨xs, c, d⟩ := h5 j l s a b
  exact ⟨xs, g _ _ c, L2.Paired.mapP d fun _ _ z => z.mono (sameI g)⟩
theorem SqT.back {H : Hp} {D a : Addr} {kvs : List (Key × V)} {xs : List V} (h : SqT K (upd H D (.dK kvs)) a xs) : SqT K H a xs := by
  have ne : ∀ o, upd H D (.dK kvs) a = some o → o ≠ .dK kvs → H a = some o := fun o h hn => by
    by_cases c : a = D
    · subst c
      rw [upd_same] at h
      exact absurd (Option.some.inj h).symm hn
    · rw [upd_ne c] at h; exact h
  rcases h with (h | ⟨u, h⟩) | h
  · exact .inl (.inl (ne _ h fun z => by cases z))
  · exact .inl (.inr ⟨u, ne _ h fun z => by cases z⟩)
  · exact .inr h
theorem ins_back {H : Hp} {D a C dx : Addr} {kvs : List (Key × V)} {fs : List (Str × V)} (h : upd H D (.dK kvs) a = some (.ins C dx fs)) : H a = some (.ins C dx fs) := by
  by_cases c : a = D
  · subst c
    rw [upd_same] at h
    cases h
  · rw [upd_ne c] at h; exact h
theorem StasAt.back {H : Hp} {D a : Addr} {kvs : List (Key × V)} {ss : List Sta} (h : StasAt K (upd H D (.dK kvs)) a ss) : StasAt K H a ss := by
  obtain ⟨xs, h1, h2⟩ := h
  refine ⟨xs, SqT.back h1, L2.Paired.mapP h2 fun s v z => ?_⟩
  obtain ⟨b, dx, t, rfl, h3, h4⟩ := z
  exact ⟨b, dx, t, rfl, ins_back h3, SqT.back h4⟩
theorem LnksAt.back {H : Hp} {D a : Addr} {kvs : List (Key × V)} {ss : List Lnk} (h : LnksAt K (upd H D (.dK kvs)) a ss) : LnksAt K H a ss := by
  obtain ⟨xs, h1, h2⟩ := h
  refine ⟨xs, SqT.back h1, L2.Paired.mapP h2 fun s v z => ?_⟩
  obtain ⟨b, dx, t, rfl, h3, h4⟩ := z
  exact ⟨b, dx, t, rfl, ins_back h3, SqT.back h4⟩
theorem sc_entries_of : FnScope ["line", "found", "station", "link"] ["line"] (defScope s_entries_of) := ⟨rfl, rfl, rfl, by decide +kernel, rfl, by decide +kernel, by decide +kernel⟩
theorem b_entries_of (E : Env K mg base) : Binds K (fdAt K (ga K "entries_of")) ["line"] [] := (f_entries_of E).bindsN fun _ _ _ _ _ _ us hl => match us, hl with | [_], _ => rfl
def sp_ef (K : PySem.W.Frag) : Sp := fun vs H Q _ => ∃ (v : V) (L : Lin), vs = [v] ∧ LineAt K H v L ∧ L.Ok ∧ ∀ H' D, Same H H' → EntsAt K H H' D L (entsOf L L.lks) → Q (.ref D) H'
theorem ok_entries_of (E : Env K mg base) : FnOk P w K mg base CX0 3 (ga K "entries_of") (fdAt K (ga K "entries_of")) ["line"] ((sp_ef K)) := by
  refine okD (f_entries_of E) sc_entries_of (fun cdv A outer s H vs Q X hr h => ?_) (fun vs H Q X h => by obtain ⟨_, _, rfl, _⟩ := h; rfl)
  obtain ⟨v, L, rfl, hL, hO, q⟩ := h
  have n4 := hO.n6
  have n6 := hO.n12
  have e3 : sizeLine = 16777216 := sizeLine_eq
  have hnl : L.names.length = L.sts.length := List.length_map _
  obtain ⟨a, dx, t, ta, tb, rfl, ha, _⟩ := id hL
  refine ⟨_, (pss_cons (ps_set (i := 1) sc_entries_of.nd rfl (Or.inl rfl) pe_dnewK)
      (pss_cons (ps_for PassesOwn.never rfl (pi_tup (pe_pr (pv 0) (c_Line E) (p_Line_stations E) (ok_Line_stations E) (hr.mono (by decide)) (bp_Line_stations E) rfl)) (pg_name (i := 2) sc_entries_of.nd rfl (Or.inl rfl)) (pss_one (ps_dput (hu_of hr) (pv 1) (pe_pr (pv 2) (c_Station E) (p_Station_name E) (ok_Station_name E) (hr.mono (by decide)) (bp_Station_name E) rfl) (pe_ifExp (pt_cmpR op_isN (pe_pr (pv 2) (c_Station E) (p_Station_hands E) (ok_Station_hands E) (hr.mono (by decide)) (bp_Station_hands E) rfl) pe_non (nomark _)) (pe_lst pa_nil) (pe_lst (pa_cons (pe_tup (pa_cons (pe_pr (pv 2) (c_Station E) (p_Station_hands E) (ok_Station_hands E) (hr.mono (by decide)) (bp_Station_hands E) rfl) (pa_cons (pe_pr (pv 2) (c_Station E) (p_Station_name E) (ok_Station_name E) (hr.mono (by decide)) (bp_Station_name E) rfl) (pa_cons pe_int pa_nil)))) pa_nil))) rfl)))
      (pss_cons (ps_for PassesOwn.never rfl (pi_tup (pe_pr (pv 0) (c_Line E) (p_Line_links E) (ok_Line_links E) (hr.mono (by decide)) (bp_Line_links E) rfl)) (pg_name (i := 3) sc_entries_of.nd rfl (Or.inl rfl)) (pss_one (ps_expr (pe_bm PySem.F.plainAttrs_list PySem.F.slot_list_append PySem.F.type_list_append mt_append (pe_dget (hu_of hr) (pv 1) (pe_pr (pv 3) (c_Link E) (p_Link_target E) (ok_Link_target E) (hr.mono (by decide)) (bp_Link_target E) rfl) (fun _ _ => rfl)) (pa_cons (pe_tup (pa_cons (pe_pr (pv 3) (c_Link E) (p_Link_stock E) (ok_Link_stock E) (hr.mono (by decide)) (bp_Link_stock E) rfl) (pa_cons (pe_pr (pv 3) (c_Link E) (p_Link_source E) (ok_Link_source E) (hr.mono (by decide)) (bp_Link_source E) rfl) (pa_cons (pe_ifExp (pt_val (pe_pr (pv 3) (c_Link E) (p_Link_early E) (ok_Link_early E) (hr.mono (by decide)) (bp_Link_early E) rfl)) pe_int pe_int) pa_nil)))) pa_nil)))))
      (pss_one (ps_ret (pv 1)))))), ?_⟩
  refine fun D hDn => ?_
  have sD : Same H (upd H D (.dK [])) := sNew hDn
  refine ⟨_, rfl, a, dx, _, rfl, sD _ _ ha, _, L, rfl, hL.mono (sameI sD), fun tk hk => ⟨tk, rfl, ?_⟩⟩
  have hkH := hk.back
  obtain ⟨xs, hxs, hP⟩ := id hkH
  have hxl : L.sts.length = xs.length := Paired.length hP
  refine ⟨⟨xs, sT sD hxs⟩, ?_⟩
  refine for_it (walk_tup (K := K) (a := tk) (xs := xs)) (fun i σ H' => Same H H' ∧ (∃ v2 v3, σ = [some (.ref a), some (.ref D), v2, v3]) ∧ ∃ ls : List Addr, ls.length = i ∧ ls.Nodup ∧ H' D = some (.dK (kvsOf (L.names.take i) ls)) ∧ (∀ l ∈ ls, H l = none) ∧
    ∀ (j : Nat) (l : Addr) (s : Sta), ls[j]? = some l → L.sts[j]? = some s → ∃ xs, H' l = some (.lst xs) ∧ Paired (EntV K H') (handsEnt s) xs)
    ⟨sD, ⟨_, _, rfl⟩, [], rfl, List.nodup_nil, upd_same, (fun l h => nomatch h), fun j l s h => by simp at h⟩ (fun i σ H' _ h => sT h.1 hxs) ?_ ?_
  · rintro i x σ H1 H2 hi ⟨s1, ⟨v2, v3, rfl⟩, ls, hll, hnd, hd, hln, hls⟩ ⟨rfl, hx⟩
    obtain ⟨s, es, hs⟩ := pget hP hx
    obtain ⟨b, bd, bt, rfl, hb, ht⟩ := id hs
    have hi' : i < L.sts.length := by omega
    have hname : L.names[i]? = some s.name := by rw [Lin.names, List.getElem?_map, es]; rfl
    have fin : ∀ (l : Addr) (ys : List V) (H3 : Hp), Same H2 H3 → H3 l = none → H2 l = none → Paired (EntV K H3) (handsEnt s) ys → ∀ H4, H4 = upd (upd H3 l (.lst ys)) D (.dK (putK (kvsOf (L.names.take i) ls) (.inr s.name) (.ref l))) →
        (Same H H4 ∧ (∃ v2' v3', [some (V.ref a), some (V.ref D), some (V.ref b), v3] = [some (V.ref a), some (V.ref D), v2', v3']) ∧ ∃ ls : List Addr, ls.length = i + 1 ∧ ls.Nodup ∧ H4 D = some (.dK (kvsOf (L.names.take (i + 1)) ls)) ∧ (∀ l ∈ ls, H l = none) ∧
          ∀ (j : Nat) (l : Addr) (s : Sta), ls[j]? = some l → L.sts[j]? = some s → ∃ xs, H4 l = some (.lst xs) ∧ Paired (EntV K H4) (handsEnt s) xs) := by
      intro l ys H3 s3 hl3 hl2 hPy H4 e4
      have hd3 := s3 _ _ hd
      have nDl : D ≠ l := fun e => by rw [e, hl3] at hd3; cases hd3
      have hlH : H l = none := by
        cases e : H l with
        | none => rfl
        | some o => exact absurd (s1 _ _ e) (by rw [hl2]; exact fun z => nomatch z)
      have hlm : l ∉ ls := fun hm => by
        obtain ⟨j, hj, e⟩ := List.mem_iff_getElem.mp hm
        obtain ⟨zs, hz, _⟩ := hls j l L.sts[j] (by rw [List.getElem?_eq_getElem hj, e]) (List.getElem?_eq_getElem (by omega))
        rw [hl2] at hz; cases hz
      have sl : Same H3 (upd H3 l (.lst ys)) := sNew hl3
      have hnk : kvsOf (L.names.take (i + 1)) (ls ++ [l]) = putK (kvsOf (L.names.take i) ls) (.inr s.name) (.ref l) := by
        rw [putK_new, List.take_succ, hname]
        · exact kvs_snoc (by rw [List.length_take]; omega)
        · refine valV_kvs_none fun hm => ?_
          obtain ⟨j, hj, e⟩ := List.mem_iff_getElem.mp hm
          rw [List.length_take] at hj
          rw [List.getElem_take] at e
          have := (List.getElem?_inj (i := j) (j := i) (by omega) hO.nd).mp (by rw [hname, List.getElem?_eq_getElem (by omega), e])
          omega
      have keep : ∀ c o, c ≠ D → H3 c = some o → H4 c = some o := fun c o hc h => by
        rw [e4, upd_ne hc]; exact sl _ _ h
      have sI4 : ∀ {e v}, EntV K H3 e v → EntV K H4 e v := fun {e v} ⟨t, hv, ht⟩ => ⟨t, hv, by
        have nD : ∀ o, H3 t = some o → (∀ k, o ≠ .dK k) → H4 t = some o := fun o h hn => keep t o (fun e => by subst e; rw [hd3] at h; exact hn _ (Option.some.inj h).symm) h
        rcases ht with (h | ⟨u, h⟩) | h
        · exact .inl (.inl (nD _ h fun k z => by cases z))
        · exact .inl (.inr ⟨u, nD _ h fun k z => by cases z⟩)
        · exact .inr h⟩
      refine ⟨?_, ⟨_, _, rfl⟩, ls ++ [l], by rw [List.length_append, hll]; rfl, ?_, by rw [hnk, e4]; exact upd_same, ?_, ?_⟩
      · rw [e4]
        exact sMut ((s1.trans s3).trans sl) hDn
      · rw [List.nodup_append]
        refine ⟨hnd, by simp, fun x hx y hy => ?_⟩
        rw [List.mem_singleton.mp hy]
        exact fun e => hlm (e ▸ hx)
      · intro x hx
        rcases List.mem_append.mp hx with hx | hx
        · exact hln x hx
        · rw [List.mem_singleton.mp hx]; exact hlH
      · intro j l' s' hj hsj
        rcases Nat.lt_or_ge j ls.length with c | c
        · rw [List.getElem?_append_left c] at hj
          obtain ⟨zs, hz, hp⟩ := hls j l' s' hj hsj
          have nl : l' ≠ D := fun e => by rw [e, hd] at hz; cases hz
          exact ⟨zs, keep _ _ nl (s3 _ _ hz), L2.Paired.mapP hp fun e v z => sI4 (z.mono (sameI s3))⟩
        · rw [List.getElem?_append_right c] at hj
          have hj0 : j - ls.length = 0 := by
            have := (List.getElem?_eq_some_iff.mp hj).1
            simpa using this
          rw [hj0] at hj
          obtain rfl := Option.some.inj hj
          have : j = i := by omega
          subst this
          obtain rfl := Option.some.inj (es.symm.trans hsj)
          exact ⟨ys, by rw [e4, upd_ne (Ne.symm nDl)]; exact upd_same, L2.Paired.mapP hPy fun e v z => sI4 z⟩
    have hs2 := hs.mono (sameI s1)
    have hkl : (kvsOf (L.names.take i) ls).length < sizeLine := by
      unfold kvsOf
      rw [List.length_map, List.length_zip]
      omega
    refine ⟨_, rfl, b, bd, _, rfl, s1 _ _ hb, _, s, rfl, hs2, rfl, _, rfl, ?_⟩
    cases e : s.hands with
    | none =>
      refine ite_t (b := decide (V.non = V.non)) rfl ?_
      refine ⟨by show 0 ≤ sizeLine; omega, fun l hl => ?_⟩
      have s3 : Same H2 (upd H2 l (.lst [])) := sNew hl
      refine ⟨_, rfl, _, rfl, b, bd, _, rfl, (s1.trans s3) _ _ hb, _, s, rfl, hs2.mono (sameI s3), D, _, rfl, .inl ⟨_, .inr s.name, s3 _ _ hd, rfl, hkl, rfl⟩, ?_⟩
      exact fin l [] H2 (Same.refl _) hl hl (by unfold handsEnt; rw [e]; exact .nil) _ rfl
    | some n =>
      refine ite_f (b := decide (V.int n = V.non)) rfl ?_
      refine ⟨_, rfl, b, bd, _, rfl, s1 _ _ hb, _, s, rfl, hs2, _, rfl, b, bd, _, rfl, s1 _ _ hb, _, s, rfl, hs2, by show 3 ≤ sizeLine; omega, fun p hp => ?_⟩
      refine ⟨by show 1 ≤ sizeLine; omega, fun l hl => ?_⟩
      have s3 : Same H2 (upd H2 p (.tup [hV s.hands, .str s.name, .int 0])) := sNew hp
      have s4 := s3.trans (sNew (o := .lst [.ref p]) hl)
      have hl2 : H2 l = none := by
        cases e : H2 l with
        | none => rfl
        | some o => exact absurd (s3 _ _ e) (by rw [hl]; exact fun z => nomatch z)
      refine ⟨_, rfl, _, rfl, b, bd, _, rfl, (s1.trans s4) _ _ hb, _, s, rfl, hs2.mono (sameI s4), D, _, rfl, .inl ⟨_, .inr s.name, s4 _ _ hd, rfl, hkl, rfl⟩, ?_⟩
      refine fin l [.ref p] _ s3 hl hl2 ?_ _ rfl
      unfold handsEnt
      rw [e]
      exact .cons ⟨p, rfl, SqT.of upd_same⟩ .nil
  · rintro σ H1 ⟨s1, ⟨v2, v3, rfl⟩, ls, hll, hnd, hd, hln, hls⟩
    rw [← hxl] at hll hd
    rw [← hnl, List.take_length] at hd
    have hL1 := hL.mono (sameI s1)
    refine ⟨_, rfl, a, dx, _, rfl, s1 _ _ ha, _, L, rfl, hL1, fun tl htl => ⟨tl, rfl, ?_⟩⟩
    obtain ⟨ys, hys, hPl⟩ := id htl
    have hyl : L.lks.length = ys.length := Paired.length hPl
    refine ⟨⟨ys, hys⟩, ?_⟩
    refine for_it (walk_tup (K := K) (a := tl) (xs := ys)) (fun i σ H' => Same H H' ∧ SameI H1 H' ∧ (∃ v3, σ = [some (.ref a), some (.ref D), v2, v3]) ∧ H' D = some (.dK (kvsOf L.names ls)) ∧
      ∀ (j : Nat) (l : Addr) (s : Sta), ls[j]? = some l → L.sts[j]? = some s → ∃ xs, H' l = some (.lst xs) ∧ Paired (EntV K H') (entsOf L (L.lks.take i) s) xs)
      ⟨s1, sameI (Same.refl _), ⟨_, rfl⟩, hd, fun j l s h1 h2 => ?_⟩ (fun i σ H' _ h => h.2.1.seqT hys) ?_ ?_
    · obtain ⟨zs, h3, h4⟩ := hls j l s h1 h2
      refine ⟨zs, h3, ?_⟩
      have e : entsOf L (L.lks.take 0) s = handsEnt s := by unfold entsOf; simp
      rw [e]; exact h4
    · rintro i x σ H3 H2 hi ⟨s2, g2, ⟨v4, rfl⟩, hd2, hls2⟩ ⟨rfl, hx⟩
      obtain ⟨lk, el, hl⟩ := pget hPl hx
      have hmem := List.mem_of_getElem? el
      obtain ⟨b, bd, bt, rfl, hb, _⟩ := id hl
      have hl2 := hl.mono g2
      have htgt := hO.tgt lk hmem
      have hjlt : L.idx lk.tgt < ls.length := by rw [hll, ← hnl]; exact idx_lt htgt
      obtain ⟨sj, esj⟩ : ∃ sj, L.sts[L.idx lk.tgt]? = some sj := ⟨_, List.getElem?_eq_getElem (by omega)⟩
      have hsjn : sj.name = lk.tgt := by
        have := names_get htgt
        rw [Lin.names, List.getElem?_map, esj] at this
        exact Option.some.inj this
      have elj : ls[L.idx lk.tgt]? = some ls[L.idx lk.tgt] := List.getElem?_eq_getElem hjlt
      obtain ⟨zs, hz, hpz⟩ := hls2 _ _ _ elj esj
      have hzl : zs.length ≤ 8 := by
        have e1 := Paired.length hpz
        unfold entsOf at e1
        rw [List.length_append, List.length_map] at e1
        have e2 := List.length_filter_le (fun l : Lnk => decide (l.tgt = sj.name)) (L.lks.take i)
        rw [List.length_take] at e2
        have e4 : (handsEnt sj).length ≤ 1 := by unfold handsEnt; split <;> simp
        omega
      have hget : DGet H2 D (V.str lk.tgt) (some (.ref ls[L.idx lk.tgt])) := by
        have g := DGet.k (H := H2) (a := D) (kvs := kvsOf L.names ls) (k := .inr lk.tgt) hd2
        rw [valV_kvs hO.nd (names_get htgt) elj] at g
        exact g
      have hbx := g2 _ _ hb rfl
      refine ⟨_, rfl, _, rfl, b, bd, _, rfl, hbx, _, lk, rfl, hl2, D, _, rfl, hget, tyV_l hz, ?_⟩
      refine ⟨_, rfl, b, bd, _, rfl, hbx, _, lk, rfl, hl2, _, rfl, b, bd, _, rfl, hbx, _, lk, rfl, hl2, _, rfl, b, bd, _, rfl, hbx, _, lk, rfl, hl2, _, rfl, ?_⟩
      have fin : ∀ (c : Int), c = (if lk.early then 1 else 0) → 3 ≤ sizeLine ∧ ∀ p, H2 p = none → rAppend (.ref ls[L.idx lk.tgt]) [.ref p] (upd H2 p (.tup [.int (lk.stock : Nat), .str lk.src, .int c])) fun _ H4 =>
          (Same H H4 ∧ SameI H1 H4 ∧ (∃ v3', [some (V.ref a), some (V.ref D), v2, some (V.ref b)] = [some (V.ref a), some (V.ref D), v2, v3']) ∧ H4 D = some (.dK (kvsOf L.names ls)) ∧
            ∀ (j : Nat) (l : Addr) (s : Sta), ls[j]? = some l → L.sts[j]? = some s → ∃ xs, H4 l = some (.lst xs) ∧ Paired (EntV K H4) (entsOf L (L.lks.take (i + 1)) s) xs) := by
        rintro c rfl
        refine ⟨by omega, fun p hp => ⟨ls[L.idx lk.tgt], zs, .ref p, rfl, rfl, ?_, by omega, ?_⟩⟩
        · exact sNew hp _ _ hz
        · have sp : Same H2 (upd H2 p (.tup [.int (lk.stock : Nat), .str lk.src, .int (if lk.early then 1 else 0)])) := sNew hp
          have sI : SameI H2 (upd (upd H2 p (.tup [.int (lk.stock : Nat), .str lk.src, .int (if lk.early then 1 else 0)])) ls[L.idx lk.tgt] (.lst (zs ++ [.ref p]))) := sI_lst (sameI sp) (sp _ _ hz)
          have nD : D ≠ ls[L.idx lk.tgt] := fun e => by rw [e, hz] at hd2; cases hd2
          have np : p ≠ ls[L.idx lk.tgt] := fun e => by rw [e, hz] at hp; cases hp
          refine ⟨sMut (s2.trans sp) (hln _ (List.mem_of_getElem? elj)), g2.trans sI, ⟨_, rfl⟩, by rw [upd_ne nD]; exact sp _ _ hd2, fun j l' s' hj hsj => ?_⟩
          have etk : entsOf L (L.lks.take (i + 1)) s' = entsOf L (L.lks.take i) s' ++ (if lk.tgt = s'.name then [tieEnt lk] else []) := by
            unfold entsOf
            rw [List.take_succ, el, List.filter_append, List.map_append, ← List.append_assoc]
            congr 1
            by_cases c : lk.tgt = s'.name
            · rw [if_pos c]; simp [c]
            · rw [if_neg c]; simp [c]
          rw [etk]
          by_cases c : j = L.idx lk.tgt
          · subst c
            obtain rfl := Option.some.inj (elj.symm.trans hj)
            obtain rfl := Option.some.inj (esj.symm.trans hsj)
            rw [if_pos hsjn.symm]
            refine ⟨_, upd_same, OwnR.Paired.snoc (L2.Paired.mapP hpz fun e v z => z.mono sI) ⟨p, rfl, SqT.of ?_⟩⟩
            rw [upd_ne np]; exact upd_same
          · have hne : ¬ lk.tgt = s'.name := fun e => by
              apply c
              refine (List.getElem?_inj (i := j) (j := L.idx lk.tgt) ?_ hO.nd).mp ?_
              · have := (List.getElem?_eq_some_iff.mp hsj).1; omega
              · rw [names_get htgt, Lin.names, List.getElem?_map, hsj]
                show some s'.name = some lk.tgt
                rw [e]
            rw [if_neg hne, List.append_nil]
            obtain ⟨us, hu, hpu⟩ := hls2 j l' s' hj hsj
            have nl : l' ≠ ls[L.idx lk.tgt] := fun e => by
              apply c
              refine (List.getElem?_inj (i := j) (j := L.idx lk.tgt) ?_ hnd).mp ?_
              · exact (List.getElem?_eq_some_iff.mp hj).1
              · rw [hj, elj, e]
            exact ⟨us, by rw [upd_ne nl]; exact sp _ _ hu, L2.Paired.mapP hpu fun e v z => z.mono sI⟩
      cases e : lk.early with
      | true =>
        have f := fin 1 (by rw [e]; rfl)
        exact ite_t rfl f
      | false =>
        have f := fin 0 (by rw [e]; rfl)
        exact ite_f rfl f
    · rintro σ H2 ⟨s2, g2, ⟨v4, rfl⟩, hd2, hls2⟩
      refine ⟨_, rfl, q H2 D s2 ⟨ls, hll, hnd, hd2, hln, fun j l s h1 h2 => ?_⟩⟩
      have := hls2 j l s h1 h2
      rw [← hyl, List.take_length] at this
      exact this
/-- a row -/
def RowAt (K : PySem.W.Frag) (H : Hp) (r : Row) (v : V) : Prop := ∃ (t a b : Addr), v = .ref t ∧ SqT K H t [.ref a, .ref b] ∧ SqT K H a (r.1.map V.str) ∧ SqT K H b (r.2.map V.str)
theorem RowAt.mono {H H' : Hp} {r : Row} {v : V} (h : RowAt K H r v) (g : SameI H H') : RowAt K H' r v := by
  obtain ⟨t, a, b, rfl, h1, h2, h3⟩ := h
  exact ⟨t, a, b, rfl, g.seqT h1, g.seqT h2, g.seqT h3⟩
theorem sc_is_begun : FnScope ["entries", "rows", "told", "lag", "name", "place"] ["entries", "rows", "told"] (defScope s_is_begun) := ⟨rfl, rfl, rfl, by decide +kernel, rfl, by decide +kernel, by decide +kernel⟩
theorem b_is_begun (E : Env K mg base) : Binds K (fdAt K (ga K "is_begun")) ["entries", "rows", "told"] [] := (f_is_begun E).bindsN fun _ _ _ _ _ _ us hl => match us, hl with | [_, _, _], _ => rfl
def sp_ib (K : PySem.W.Frag) : Sp := fun vs H Q _ => ∃ (l rw td ea ba : Addr) (xs ys : List V) (els : List (Nat × Str × Bool)) (rows : List Row) (es bs : List Str), vs = [.ref l, .ref rw, .ref td] ∧ SqL K H l xs ∧ Paired (EntV K H) els xs ∧ SqL K H rw ys ∧ Paired (RowAt K H) rows ys ∧
  SqT K H td [.ref ea, .ref ba] ∧ SqL K H ea (es.map V.str) ∧ SqL K H ba (bs.map V.str) ∧ Q (.bl (begun els rows es bs)) H
theorem begun_take {els : List (Nat × Str × Bool)} {rows : List Row} {es bs : List Str} {i : Nat} {e : Nat × Str × Bool} (h : els[i]? = some e) : begun (els.take (i + 1)) rows es bs = (begun (els.take i) rows es bs || (decide (e.1 ≤ rows.length) && decide (e.2.1 ∈ look rows es bs e.1 e.2.2))) := by
  unfold begun
  rw [List.take_succ, h, List.any_append]
  simp
theorem begun_hit {els : List (Nat × Str × Bool)} {rows : List Row} {es bs : List Str} {e : Nat × Str × Bool} (h : e ∈ els) (h1 : e.1 ≤ rows.length) (h2 : e.2.1 ∈ look rows es bs e.1 e.2.2) : begun els rows es bs = true :=
  begun_iff.mpr ⟨e.1, e.2.1, e.2.2, h, h1, h2⟩
theorem ok_is_begun (E : Env K mg base) : FnOk P w K mg base CX0 4 (ga K "is_begun") (fdAt K (ga K "is_begun")) ["entries", "rows", "told"] ((sp_ib K)) := by
  refine okD (f_is_begun E) sc_is_begun (fun cdv A outer s H vs Q X hr h => ?_) (fun vs H Q X h => by obtain ⟨_, _, _, _, _, _, _, _, _, _, _, rfl, _⟩ := h; rfl)
  obtain ⟨l, rw, td, ea, ba, xs, ys, els, rows, es, bs, rfl, hl, hP, hr, hR, ht, he, hb, q⟩ := h
  have hxl : els.length = xs.length := Paired.length hP
  have hyl : rows.length = ys.length := Paired.length hR
  refine ⟨_, (pss_cons (ps_for PassesOwn.never rfl (pi_list (pv 0)) (pg_tup rfl (pgs_cons (pg_name (i := 3) sc_is_begun.nd rfl (Or.inl rfl)) (pgs_cons (pg_name (i := 4) sc_is_begun.nd rfl (Or.inl rfl)) (pgs_cons (pg_name (i := 5) sc_is_begun.nd rfl (Or.inl rfl)) pgs_nil)))) (pss_one (ps_if (PW.pt (pw_and (pt_cmpR op_le (pv 3) (pe_callB (lenK K) rfl (n_len E) boot_len (pa_cons (pv 1) pa_nil)) (nomark _)) (pw_and1 (pt_cmpR (opInK K) (pv 4) (pe_ifExp (pt_cmpR op_eq (pv 3) pe_int (nomark _)) (pe_ix (ixT K) (pv 2) (pv 5) (fun _ _ => rfl)) (pe_ix (ixT K) (pe_ix (ixL K) (pv 1) (pe_op op_sub (pe_callB (lenK K) rfl (n_len E) boot_len (pa_cons (pv 1) pa_nil)) (pv 3)) (fun _ _ => rfl)) (pv 5) (fun _ _ => rfl))) rfl)))) (pss_one (ps_ret pe_bl)) pss_nil)))
      (pss_one (ps_ret pe_bl))), ?_⟩
  refine ⟨_, rfl, l, rfl, ⟨xs, hl⟩, ?_⟩
  refine for_it (walk_list (K := K) (a := l) (xs := xs)) (fun i σ H' => H' = H ∧ (∃ v3 v4 v5, σ = [some (.ref l), some (.ref rw), some (.ref td), v3, v4, v5]) ∧ begun (els.take i) rows es bs = false) ⟨rfl, ⟨_, _, _, rfl⟩, rfl⟩ (fun i σ H' _ h => by rw [h.1]; exact hl) ?_ ?_
  · rintro i x σ H1 H2 hi ⟨rfl, ⟨v3, v4, v5, rfl⟩, hno⟩ ⟨rfl, hx⟩
    obtain ⟨⟨lag, m, p⟩, ee, t, rfl, hT⟩ := pget hP hx
    have hmem := List.mem_of_getElem? ee
    have hnx : (decide (lag ≤ rows.length) && decide (m ∈ look rows es bs lag p)) = false → begun (els.take (i + 1)) rows es bs = false := fun h => by rw [begun_take ee, hno, h]; rfl
    refine ⟨t, _, rfl, hT, rfl, _, _, rfl, _, _, rfl, _, _, rfl, rfl, ?_⟩
    refine ⟨_, rfl, _, rfl, rw, ys, rfl, .inl hr, _, _, rfl, rfl, _, rfl, ?_⟩
    by_cases c1 : lag ≤ rows.length
    · refine ite_t (decide_eq_true (by omega)) ?_
      have got : ∀ (pl : Addr) (zs : List Str), (SqL K H2 pl (zs.map V.str) ∨ SqT K H2 pl (zs.map V.str)) → zs = look rows es bs lag p → ∃ p_1 xs, V.ref pl = V.ref p_1 ∧ (SqL K H2 p_1 xs ∨ SqT K H2 p_1 xs) ∧ flatV (.str m) = true ∧ xs.all flatV = true ∧ (∃ k, V.bl (inV (.str m) xs) = .bl k ∧ (if k = true then Q (.bl true) H2 else (H2 = H2 ∧ (∃ v3' v4' v5', [some (V.ref l), some (V.ref rw), some (V.ref td), some (V.int (lag : Nat)), some (V.str m), some (V.int (if p then 1 else 0))] = [some (.ref l), some (.ref rw), some (.ref td), v3', v4', v5']) ∧ begun (els.take (i + 1)) rows es bs = false))) := by
        intro pl zs hz ez
        refine ⟨pl, _, rfl, hz, rfl, flat_strs' _, ?_⟩
        rw [inV_strs]
        refine ⟨_, rfl, ?_⟩
        by_cases c2 : m ∈ zs
        · refine ite_t (decide_eq_true c2) ?_
          rw [← begun_hit hmem c1 (by rw [← ez]; exact c2)]
          exact q
        · refine ite_f (decide_eq_false c2) ⟨rfl, ⟨_, _, _, rfl⟩, hnx ?_⟩
          rw [← ez, decide_eq_false c2, Bool.and_false]
      refine ⟨_, rfl, _, rfl, rfl, _, rfl, ?_⟩
      rcases Nat.eq_zero_or_pos lag with e0 | e0
      · subst e0
        refine ite_t (decide_eq_true rfl) ?_
        cases p with
        | true => exact ⟨_, rfl, _, rfl, td, _, _, .ref ba, rfl, rfl, ht, rfl, got ba bs (.inl hb) rfl⟩
        | false => exact ⟨_, rfl, _, rfl, td, _, _, .ref ea, rfl, rfl, ht, rfl, got ea es (.inl he) rfl⟩
      · refine ite_f (decide_eq_false (fun e => by injection e with e; omega)) ?_
        have hlt : rows.length - lag < rows.length := by omega
        obtain ⟨y, ey, tr, a1, b1, rfl, h1, h2, h3⟩ := paired_get hR (List.getElem?_eq_getElem hlt)
        have elk : ∀ zs, zs = (if p then rows[rows.length - lag].2 else rows[rows.length - lag].1) → zs = look rows es bs lag p := fun zs e => by
          unfold look
          rw [if_neg (by omega), List.getElem?_eq_getElem hlt, e]
        refine ⟨_, rfl, _, rfl, rw, ys, rfl, .inl hr, _, rfl, _, _, rfl, rfl, rw, ys, _, .ref tr, rfl, rfl, hr, atN (n := rows.length - lag) (by omega) ey, ?_⟩
        cases p with
        | true => exact ⟨_, rfl, tr, _, _, .ref b1, rfl, rfl, h1, rfl, got b1 _ (.inr h3) (elk _ rfl)⟩
        | false => exact ⟨_, rfl, tr, _, _, .ref a1, rfl, rfl, h1, rfl, got a1 _ (.inr h2) (elk _ rfl)⟩
    · refine ite_f (decide_eq_false (by omega)) (ite_f rfl ?_)
      exact ⟨rfl, ⟨_, _, _, rfl⟩, hnx (by rw [decide_eq_false c1, Bool.false_and])⟩
  · rintro σ H1 ⟨rfl, ⟨v3, v4, v5, rfl⟩, hno⟩
    rw [← hxl, List.take_length] at hno
    rw [hno] at q
    exact q
theorem sta_inj {L : Lin} (hO : L.Ok) {s s' : Sta} (hs : s ∈ L.sts) (hs' : s' ∈ L.sts) (e : s'.name = s.name) : s' = s := by
  obtain ⟨i, hi, e1⟩ := List.mem_iff_getElem.mp hs'
  obtain ⟨j, hj, e2⟩ := List.mem_iff_getElem.mp hs
  have hij := (List.getElem?_inj (i := i) (j := j) (l := L.names) (by rw [Lin.names, List.length_map]; exact hi) hO.nd).mp (by
    rw [Lin.names, List.getElem?_map, List.getElem?_map, List.getElem?_eq_getElem hi, List.getElem?_eq_getElem hj, e1, e2]
    show some s'.name = some s.name
    rw [e])
  subst hij
  rw [← e1, ← e2]
theorem filter_two {α : Type} (l : List α) (p : α → Bool) : (l.filter p).length + (l.filter fun x => !p x).length = l.length := by
  induction l with
  | nil => rfl
  | cons x l ih =>
    rw [List.filter_cons, List.filter_cons]
    cases p x with
    | true => rw [if_pos rfl, if_neg (by simp)]; show _ + 1 + _ = _ + 1; omega
    | false => rw [if_neg (by decide), if_pos (by rfl)]; show _ + (_ + 1) = _ + 1; omega
theorem start_lst {σ : L2.St} {H : Hp} {Q : VK} {z : Str} {c : Bool} (h : ∀ (ea : Addr) (es0 : List Str), H ea = none → (∀ n : Str, n ∈ es0 ↔ c = true ∧ n = z) → es0.Nodup → es0.length ≤ 1 → Q (.ref ea) (upd H ea (.lst (es0.map V.str)))) (hσ : σ[1]? = some (some (V.str z))) :
    if c = true then tLst (tCons (tVar 1) tNil) σ H Q else tLst tNil σ H Q := by
  have e3 : sizeLine = 16777216 := sizeLine_eq
  cases c with
  | true => exact ite_t rfl ⟨_, hσ, by show 1 ≤ sizeLine; omega, fun ea hn => h ea [z] hn (fun n => by simp) (by simp) (Nat.le_refl _)⟩
  | false => exact ite_f rfl ⟨by show 0 ≤ sizeLine; omega, fun ea hn => h ea [] hn (fun n => by simp) (by simp) (Nat.zero_le _)⟩
/-- the loop's state -/
structure NrI (L : Lin) (z : Str) (rows : List Row) (es bs : List Str) (left : List Sta) (c : Bool) : Prop where
  sub : ∀ s ∈ left, s ∈ L.sts
  nd : (left.map Sta.name).Nodup
  esi : ∀ n, n ∈ es ↔ (rows.length = 0 ∧ n = z) ∨ n ∈ bs
  bg : ∀ n ∈ bs, Bg L z rows.length n
  en : es.Nodup
  bn : bs.Nodup
  cov : ∀ s ∈ L.sts, s.name ∈ bs ∨ s ∈ left
  out : ∀ s ∈ left, s.name ∉ bs
  len : bs.length + left.length ≤ 4
  el : es.length ≤ bs.length + 1
  cl : c = false → ∀ s ∈ left, begun (entsOf L L.lks s) rows es bs = false
theorem NrI.step {L : Lin} (hO : L.Ok) {z : Str} {rows : List Row} (hr : RowsOk L z rows) {es bs : List Str} {left : List Sta} {c : Bool} (h : NrI L z rows es bs left c) {fr : List Sta} (hf : fr = left.filter fun s => begun (entsOf L L.lks s) rows es bs)
    {es' bs' : List Str} {left' : List Sta} (h1 : bs' = bs ++ fr.map Sta.name) (h2 : es' = es ++ (fr.map Sta.name).filter fun n => !decide (n ∈ es)) (h3 : left' = left.filter fun s => !decide (s.name ∈ fr.map Sta.name)) :
    NrI L z rows es' bs' left' (decide (fr.length > 0)) ∧ 2 * left'.length + (if decide (fr.length > 0) = true then 1 else 0) < 2 * left.length + 1 := by
  have hfr : ∀ s, s ∈ fr ↔ s ∈ left ∧ begun (entsOf L L.lks s) rows es bs = true := fun s => by rw [hf, List.mem_filter]
  have hk : ∀ s ∈ left, s.name ∈ fr.map Sta.name ↔ begun (entsOf L L.lks s) rows es bs = true := fun s hs => by
    constructor
    · intro hm
      obtain ⟨s', hs', e⟩ := List.mem_map.mp hm
      have := (hfr s').mp hs'
      rw [← sta_inj hO (h.sub s hs) (h.sub s' this.1) e]
      exact this.2
    · intro hb
      exact List.mem_map.mpr ⟨s, (hfr s).mpr ⟨hs, hb⟩, rfl⟩
  have hl' : left' = left.filter fun s => !begun (entsOf L L.lks s) rows es bs := by
    rw [h3]
    apply List.filter_congr
    intro s hs
    have := hk s hs
    cases e : begun (entsOf L L.lks s) rows es bs with
    | true => rw [e] at this; rw [decide_eq_true (this.mpr rfl)]
    | false => rw [e] at this; rw [decide_eq_false (fun x => by cases this.mp x)]
  have hlen : fr.length + left'.length = left.length := by
    rw [hf, hl']
    have := filter_two left (fun s => begun (entsOf L L.lks s) rows es bs)
    omega
  have hbg : ∀ n ∈ bs', Bg L z rows.length n := by
    intro n hn
    rw [h1] at hn
    rcases List.mem_append.mp hn with hn | hn
    · exact h.bg n hn
    · obtain ⟨s, hs, rfl⟩ := List.mem_map.mp hn
      have := (hfr s).mp hs
      exact begun_sound hO hr h.bg (fun n hn => (((h.esi n).mp hn).imp id (h.bg n))) (h.sub s this.1) this.2
  have hnd : (fr.map Sta.name).Nodup := by
    rw [hf]
    exact List.Sublist.nodup (List.filter_sublist.map Sta.name) h.nd
  refine ⟨⟨fun s hs => ?_, ?_, fun n => ?_, hbg, ?_, ?_, fun s hs => ?_, fun s hs => ?_, ?_, ?_, fun hc s hs => ?_⟩, ?_⟩
  · rw [hl'] at hs; exact h.sub s (List.mem_filter.mp hs).1
  · rw [hl']; exact List.Sublist.nodup (List.filter_sublist.map Sta.name) h.nd
  · rw [h2, h1, List.mem_append, List.mem_append, List.mem_filter]
    constructor
    · rintro (h' | ⟨h', _⟩)
      · rcases (h.esi n).mp h' with h' | h'
        · exact .inl h'
        · exact .inr (.inl h')
      · exact .inr (.inr h')
    · rintro (h' | h' | h')
      · exact .inl ((h.esi n).mpr (.inl h'))
      · exact .inl ((h.esi n).mpr (.inr h'))
      · by_cases c : n ∈ es
        · exact .inl c
        · exact .inr ⟨h', by rw [decide_eq_false c]; rfl⟩
  · rw [h2, List.nodup_append]
    refine ⟨h.en, List.Sublist.nodup List.filter_sublist hnd, fun x hx y hy e => ?_⟩
    subst e
    have := (List.mem_filter.mp hy).2
    rw [decide_eq_true hx] at this
    cases this
  · rw [h1, List.nodup_append]
    refine ⟨h.bn, hnd, fun x hx y hy e => ?_⟩
    subst e
    obtain ⟨s, hs, rfl⟩ := List.mem_map.mp hy
    exact h.out s ((hfr s).mp hs).1 hx
  · rcases h.cov s hs with hb | hl
    · exact .inl (by rw [h1]; exact List.mem_append_left _ hb)
    · cases e : begun (entsOf L L.lks s) rows es bs with
      | true => exact .inl (by rw [h1]; exact List.mem_append_right _ ((hk s hl).mpr e))
      | false => exact .inr (by rw [hl']; exact List.mem_filter.mpr ⟨hl, by rw [e]; rfl⟩)
  · rw [h3] at hs
    obtain ⟨hs, e⟩ := List.mem_filter.mp hs
    intro hm
    rw [h1] at hm
    rcases List.mem_append.mp hm with hm | hm
    · exact h.out s hs hm
    · rw [decide_eq_true hm] at e
      cases e
  · have := h.len
    rw [h1, List.length_append, List.length_map]; omega
  · have := h.el
    have h4 := List.length_filter_le (fun n => !decide (n ∈ es)) (fr.map Sta.name)
    rw [List.length_map] at h4
    rw [h1, h2, List.length_append, List.length_append, List.length_map]; omega
  · have h0 : fr.length = 0 := by
      have := of_decide_eq_false hc
      omega
    have e0 : fr = [] := List.length_eq_zero_iff.mp h0
    rw [e0] at h1 h2
    have e1 : bs' = bs := by rw [h1]; simp
    have e2 : es' = es := by rw [h2]; simp
    rw [e1, e2]
    rw [hl'] at hs
    have := (List.mem_filter.mp hs).2
    cases e : begun (entsOf L L.lks s) rows es bs with
    | true => rw [e] at this; cases this
    | false => rfl
  · by_cases c : fr.length > 0
    · rw [decide_eq_true c, if_pos rfl]; omega
    · rw [decide_eq_false c, if_neg (by decide)]; omega
theorem sc_next_row : FnScope ["entries", "start", "rows", "ends", "begins", "left", "changed", "fresh", "name"] ["entries", "start", "rows"] (defScope s_next_row) := ⟨rfl, rfl, rfl, by decide +kernel, rfl, by decide +kernel, by decide +kernel⟩
theorem b_next_row (E : Env K mg base) : Binds K (fdAt K (ga K "next_row")) ["entries", "start", "rows"] [] := (f_next_row E).bindsN fun _ _ _ _ _ _ us hl => match us, hl with | [_, _, _], _ => rfl
def sp_nr (K : PySem.W.Frag) : Sp := fun vs H Q _ => ∃ (H0 : Hp) (D rw : Addr) (L : Lin) (z : Str) (rows : List Row) (ys : List V), vs = [.ref D, .str z, .ref rw] ∧ EntsAt K H0 H D L (entsOf L L.lks) ∧ L.Ok ∧ Acyc L ∧ SqL K H rw ys ∧ Paired (RowAt K H) rows ys ∧ RowsOk L z rows ∧
  ∀ v r H', Same H H' → RowAt K H' r v → RowOk L z rows.length r → Q v H'
theorem ok_next_row (E : Env K mg base) : FnOk P w K mg base CX0 5 (ga K "next_row") (fdAt K (ga K "next_row")) ["entries", "start", "rows"] ((sp_nr K)) := by
  refine okD (f_next_row E) sc_next_row (fun cdv A outer s H vs Q X hr h => ?_) (fun vs H Q X h => by obtain ⟨_, _, _, _, _, _, _, rfl, _⟩ := h; rfl)
  obtain ⟨H0, D, rw, L, z, rows, ys, rfl, hE, hO, hA, hrw, hR, hRO, q⟩ := h
  have e3 : sizeLine = 16777216 := sizeLine_eq
  have hnl : L.names.length = L.sts.length := List.length_map _
  have hyl : rows.length = ys.length := Paired.length hR
  have n4 := hO.n6
  refine ⟨_, (pss_cons (ps_asg (pe_tup (pa_cons (pe_ifExp (pt_cmpR op_eq (pe_callB (lenK K) rfl (n_len E) boot_len (pa_cons (pv 2) pa_nil)) pe_int (nomark _)) (pe_lst (pa_cons (pv 1) pa_nil)) (pe_lst pa_nil)) (pa_cons (pe_lst pa_nil) pa_nil))) (pg_tup rfl (pgs_cons (pg_name (i := 3) sc_next_row.nd rfl (Or.inr rfl)) (pgs_cons (pg_name (i := 4) sc_next_row.nd rfl (Or.inr rfl)) pgs_nil))))
      (pss_cons (ps_set (i := 5) sc_next_row.nd rfl (Or.inl rfl) (pe_callTy (call_listD rfl) rfl (n_list E) boot_list (pa_cons (pv 0) pa_nil)))
      (pss_cons (ps_set (i := 6) sc_next_row.nd rfl (Or.inl rfl) pe_bl)
      (pss_cons (ps_while PassesOwn.never (pt_val (pv 6)) (pss_cons (ps_set (i := 7) sc_next_row.nd rfl (Or.inr rfl) (pe_lc (own := [("name", 8)]) (g := (gName 8)) rfl sc_next_row.nd (pi_list (pv 5)) (blkOk_by (own := [("name", 8)]) (N := (["entries", "start", "rows", "ends", "begins", "left", "changed", "fresh", "name"] : List Str)) (sc := defScope s_next_row) (by decide +kernel)) (fun _ _ _ _ _ => (pg_name (i := 8) sc_next_row.nd rfl (Or.inl rfl))) (fun _ _ _ _ _ => (pts_one (pt_val (pe_call (ok_is_begun E) (hr.mono (by decide)) rfl (g_is_begun E) (f_is_begun E).kp (b_is_begun E) .nil pass0 (pa_cons (pe_dget (hu_of hr) (pv 0) (pv 8) (fun _ _ => rfl)) (pa_cons (pv 2) (pa_cons (pe_tup (pa_cons (pv 3) (pa_cons (pv 4) pa_nil))) pa_nil))))))) (fun _ _ _ _ _ => (pv 8))))
      (pss_cons (ps_aug (i := 4) sc_next_row.nd rfl (Or.inr rfl) (pv 7) ip_extL)
      (pss_cons (ps_aug (i := 3) sc_next_row.nd rfl (Or.inr rfl) (pe_lc (own := [("name", 8)]) (g := (gName 8)) rfl sc_next_row.nd (pi_list (pv 7)) (blkOk_by (own := [("name", 8)]) (N := (["entries", "start", "rows", "ends", "begins", "left", "changed", "fresh", "name"] : List Str)) (sc := defScope s_next_row) (by decide +kernel)) (fun _ _ _ _ _ => (pg_name (i := 8) sc_next_row.nd rfl (Or.inl rfl))) (fun _ _ _ _ _ => (pts_one (pt_cmpR (opNotInK K) (pv 8) (pv 3) rfl))) (fun _ _ _ _ _ => (pv 8))) ip_extL)
      (pss_cons (ps_setLc (i := 5) (own := [("name", 8)]) (g := (gName 8)) rfl sc_next_row.nd rfl rfl (sw_true rfl rfl rfl (by decide +kernel)) (pi_list (pv 5)) (blkOk_by (own := [("name", 8)]) (N := (["entries", "start", "rows", "ends", "begins", "left", "changed", "fresh", "name"] : List Str)) (sc := defScope s_next_row) (by decide +kernel)) (fun _ _ _ _ _ => (pg_name (i := 8) sc_next_row.nd rfl (Or.inl rfl))) (fun _ _ _ _ _ => (pts_one (pt_cmpR (opNotInK K) (pv 8) (pv 7) rfl))) (fun _ _ _ _ _ => (pv 8)))
      (pss_one (ps_set (i := 6) sc_next_row.nd rfl (Or.inl rfl) (pe_cmpR op_gt (pe_callB (lenK K) rfl (n_len E) boot_len (pa_cons (pv 7) pa_nil)) pe_int (nomark _)))))))))
      (pss_one (ps_ret (pe_tup (pa_cons (pe_callTy (tupK K) rfl (n_tuple E) boot_tuple (pa_cons (pe_callB cr_sortedS rfl (n_sorted E) boot_sorted (pa_cons (pv 3) pa_nil)) pa_nil)) (pa_cons (pe_callTy (tupK K) rfl (n_tuple E) boot_tuple (pa_cons (pe_callB cr_sortedS rfl (n_sorted E) boot_sorted (pa_cons (pv 4) pa_nil)) pa_nil)) pa_nil))))))))), ?_⟩
  refine ⟨_, rfl, rw, ys, rfl, .inl hrw, rfl, _, rfl, ?_⟩
  refine start_lst (z := z) (fun ea es0 hea h0 h1 h2 => ?_) rfl
  refine ⟨by show 0 ≤ sizeLine; omega, fun ba hba => ⟨by show 2 ≤ sizeLine; omega, fun tp htp => ?_⟩⟩
  have s1 : Same H (upd H ea (.lst (es0.map V.str))) := sNew hea
  have s2 := s1.trans (sNew (o := .lst []) hba)
  have s3 := s2.trans (sNew (o := .tup [.ref ea, .ref ba]) htp)
  have hban : H ba = none := by
    cases e : H ba with
    | none => rfl
    | some o => exact absurd (s1 _ _ e) (by rw [hba]; exact fun z => nomatch z)
  have nab : ea ≠ ba := fun e => by rw [← e, upd_same] at hba; cases hba
  have nat_ : ea ≠ tp := fun e => by rw [← e, upd_ne nab, upd_same] at htp; cases htp
  have nbt : ba ≠ tp := fun e => by rw [← e, upd_same] at htp; cases htp
  refine ⟨tp, _, rfl, SqT.of upd_same, rfl, _, _, rfl, _, _, rfl, rfl, ?_⟩
  obtain ⟨ls, hll, hlnd, hD, hln, hls⟩ := id hE
  refine ⟨_, rfl, D, _, rfl, .inl (s3 _ _ hD), fun la hla => ?_⟩
  rw [kvs_keys (by rw [hll, hnl])]
  have s4 := s3.trans (sNew (o := .lst (L.names.map V.str)) hla)
  have nla : la ≠ ea := fun e => by rw [e, upd_ne nat_, upd_ne nab, upd_same] at hla; cases hla
  have nlb : la ≠ ba := fun e => by rw [e, upd_ne nbt, upd_same] at hla; cases hla
  show tWhile _ _ _ _ _
  refine while_m (fun m σ H' => Same H H' ∧ ∃ (la : Addr) (es bs : List Str) (left : List Sta) (c : Bool) (v7 v8 : Option V), σ = [some (.ref D), some (.str z), some (.ref rw), some (.ref ea), some (.ref ba), some (.ref la), some (.bl c), v7, v8] ∧
      H' ea = some (.lst (es.map V.str)) ∧ H' ba = some (.lst (bs.map V.str)) ∧ H' la = some (.lst (left.map fun s => .str s.name)) ∧ la ≠ ea ∧ la ≠ ba ∧ H la = none ∧ NrI L z rows es bs left c ∧ m = 2 * left.length + if c = true then 1 else 0)
    ⟨_, s4, la, es0, [], L.sts, true, none, none, rfl, ?_, ?_, ?_, nla, nlb, ?_, ?_, rfl⟩ ?_ (fun σ H Q Q' hq ⟨x, e, k, t, z⟩ => ⟨x, e, k, t, hq _ _ z⟩)
  · rw [upd_ne (Ne.symm nla), upd_ne nat_, upd_ne nab, upd_same]
  · rw [upd_ne (Ne.symm nlb), upd_ne nbt, upd_same]; rfl
  · rw [upd_same, flat_ss]; rfl
  · cases e : H la with
    | none => rfl
    | some o => exact absurd (s3 _ _ e) (by rw [hla]; exact fun z => nomatch z)
  · refine ⟨fun s h => h, hO.nd, fun n => ?_, (fun n h => nomatch h), h1, List.nodup_nil, fun s h => .inr h, fun s h => List.not_mem_nil, by show 0 + _ ≤ _; omega, h2, fun h => by cases h⟩
    rw [h0 n]
    constructor
    · rintro ⟨e, e2⟩
      have e := of_decide_eq_true e
      injection e with e
      exact .inl ⟨by omega, e2⟩
    · rintro (⟨e, e2⟩ | h)
      · exact ⟨decide_eq_true (by rw [← hyl, e]; rfl), e2⟩
      · cases h
  · rintro m σ H1 ⟨t1, la, es, bs, left, c, v7, v8, rfl, he, hb, hl, nle, nlb2, hlaN, hN, rfl⟩
    have hE1 := hE.mono t1
    obtain ⟨ls, hll, hlnd, hD1, hln, hls⟩ := id hE1
    refine ⟨_, rfl, c, rfl, ite2 (fun hc => ?_) (fun hc => ?_)⟩
    · subst hc
      have hlen4 := hN.len
      have hell := hN.el
      refine ⟨_, rfl, la, rfl, ⟨_, SqL.of hl⟩, fun fa hfa => ?_⟩
      refine lc_map (walk_list (K := K) (a := la) (xs := left.map fun s => V.str s.name)) hfa (gv left fun s => .str s.name) (kv left fun s => begun (entsOf L L.lks s) rows es bs) (by rw [List.length_map]; omega) (fun H s => s.seq (SqL.of hl)) ?_ ?_
      · rintro k y H2 H3 Nk Ns hk s2 ⟨rfl, hy⟩ k1 k2
        obtain ⟨s, es', rfl⟩ := map_get hy
        rw [kv_at es'] at k1 k2
        rw [gv_at es'] at k1
        have hsL := hN.sub s (List.mem_of_getElem? es')
        obtain ⟨j, hj, ej⟩ := List.mem_iff_getElem.mp hsL
        have esj : L.sts[j]? = some s := by rw [List.getElem?_eq_getElem hj, ej]
        have elj : ls[j]? = some ls[j] := List.getElem?_eq_getElem (by omega)
        obtain ⟨xs, hx, hPx⟩ := hls j _ s elj esj
        have hget : DGet H3 D (V.str s.name) (some (.ref ls[j])) := by
          have g := DGet.k (H := H3) (a := D) (kvs := kvsOf L.names ls) (k := .inr s.name) (s2 _ _ hD1)
          rw [valV_kvs hO.nd (by rw [Lin.names, List.getElem?_map, esj]; rfl) elj] at g
          exact g
        refine ⟨rfl, ?_⟩
        refine ⟨_, rfl, _, rfl, D, _, rfl, hget, _, rfl, _, rfl, _, rfl, by show 2 ≤ sizeLine; omega, fun p hp => ?_⟩
        have s5 := s2.trans (sNew (o := .tup [.ref ea, .ref ba]) hp)
        refine ⟨ls[j], rw, p, ea, ba, xs, ys, _, rows, es, bs, rfl, s5.seq (SqL.of hx), L2.Paired.mapP hPx fun _ _ z => z.mono (sameI s5), (t1.trans s5).seq hrw, L2.Paired.mapP hR fun _ _ z => z.mono (sameI (t1.trans s5)), SqT.of upd_same, SqL.of (s5 _ _ he), SqL.of (s5 _ _ hb), _, rfl, ?_⟩
        cases hbg : begun (entsOf L L.lks s) rows es bs with
        | true => exact ite_t rfl ⟨_, rfl, k1 hbg _ (sNew hp)⟩
        | false => exact ite_f rfl (k2 hbg _ (sNew hp))
      · intro H2 s2 h2
        rw [List.length_map, filter_gv, flat_ss] at h2
        have hfr : ((left.filter fun s => begun (entsOf L L.lks s) rows es bs).map Sta.name).length ≤ 4 := by
          rw [List.length_map]
          have := List.length_filter_le (fun s => begun (entsOf L L.lks s) rows es bs) left
          omega
        have nfb : fa ≠ ba := fun e => by rw [e, hb] at hfa; cases hfa
        have nfe : fa ≠ ea := fun e => by rw [e, he] at hfa; cases hfa
        have nfl : fa ≠ la := fun e => by rw [e, hl] at hfa; cases hfa
        have hfaN : H fa = none := by
          cases e : H fa with
          | none => rfl
          | some o => exact absurd (t1 _ _ e) (by rw [hfa]; exact fun z => nomatch z)
        refine ⟨_, rfl, _, rfl, ba, fa, _, _, rfl, rfl, s2 _ _ hb, h2, by rw [List.length_map, List.length_map]; omega, ?_⟩
        have t2 := t1.trans s2
        have t3 := sMut (o := .lst (bs.map V.str ++ ((left.filter fun s => begun (entsOf L L.lks s) rows es bs).map Sta.name).map V.str)) t2 hban
        have hfa3 := (upd_ne (H := H2) (o := .lst (bs.map V.str ++ ((left.filter fun s => begun (entsOf L L.lks s) rows es bs).map Sta.name).map V.str)) nfb).trans h2
        have hea3 := (upd_ne (H := H2) (o := .lst (bs.map V.str ++ ((left.filter fun s => begun (entsOf L L.lks s) rows es bs).map Sta.name).map V.str)) nab).trans (s2 _ _ he)
        have hla3 := (upd_ne (H := H2) (o := .lst (bs.map V.str ++ ((left.filter fun s => begun (entsOf L L.lks s) rows es bs).map Sta.name).map V.str)) nlb2).trans (s2 _ _ hl)
        have hba3 := upd_same (H := H2) (a := ba) (o := .lst (bs.map V.str ++ ((left.filter fun s => begun (entsOf L L.lks s) rows es bs).map Sta.name).map V.str))
        generalize upd H2 ba (.lst (bs.map V.str ++ ((left.filter fun s => begun (entsOf L L.lks s) rows es bs).map Sta.name).map V.str)) = H4 at t3 hfa3 hea3 hla3 hba3 ⊢
        generalize efr : (left.filter fun s => begun (entsOf L L.lks s) rows es bs) = fr at *
        refine ⟨_, rfl, _, rfl, fa, rfl, ⟨_, SqL.of hfa3⟩, fun ga hga => ?_⟩
        refine lc_map (walk_list (K := K) (a := fa) (xs := (fr.map Sta.name).map V.str)) hga (gv (fr.map Sta.name) V.str) (kv (fr.map Sta.name) fun n => !decide (n ∈ es)) (by rw [List.length_map]; omega) (fun H s => s.seq (SqL.of hfa3)) ?_ ?_
        · rintro k y H5 H6 Nk Ns hk s5 ⟨rfl, hy⟩ k1 k2
          obtain ⟨n, en, rfl⟩ := map_get hy
          rw [kv_at en] at k1 k2
          rw [gv_at en] at k1
          refine ⟨rfl, _, rfl, _, rfl, ea, _, rfl, .inl (SqL.of (s5 _ _ hea3)), rfl, flat_strs' _, ?_⟩
          rw [inV_strs]
          refine ⟨_, rfl, ?_⟩
          cases hd : decide (n ∈ es) with
          | true => exact ite_f (b := !true) rfl (k2 (by rw [hd]; rfl) _ (Same.refl _))
          | false => exact ite_t (b := !false) rfl ⟨_, rfl, k1 (by rw [hd]; rfl) _ (Same.refl _)⟩
        · intro H5 s5 h5
          rw [List.length_map, filter_gv] at h5
          have hgl := List.length_filter_le (fun n => !decide (n ∈ es)) (fr.map Sta.name)
          have nge : ga ≠ ea := fun e => by rw [e, hea3] at hga; cases hga
          refine ⟨ea, ga, _, _, rfl, rfl, s5 _ _ hea3, h5, by rw [List.length_map, List.length_map]; omega, ?_⟩
          have t5 := sMut (o := .lst (es.map V.str ++ ((fr.map Sta.name).filter fun n => !decide (n ∈ es)).map V.str)) (t3.trans s5) hea
          have hfa6 := (upd_ne (H := H5) (o := .lst (es.map V.str ++ ((fr.map Sta.name).filter fun n => !decide (n ∈ es)).map V.str)) nfe).trans (s5 _ _ hfa3)
          have hla6 := (upd_ne (H := H5) (o := .lst (es.map V.str ++ ((fr.map Sta.name).filter fun n => !decide (n ∈ es)).map V.str)) nle).trans (s5 _ _ hla3)
          have hba6 := (upd_ne (H := H5) (o := .lst (es.map V.str ++ ((fr.map Sta.name).filter fun n => !decide (n ∈ es)).map V.str)) (Ne.symm nab)).trans (s5 _ _ hba3)
          have hea6 := upd_same (H := H5) (a := ea) (o := .lst (es.map V.str ++ ((fr.map Sta.name).filter fun n => !decide (n ∈ es)).map V.str))
          generalize upd H5 ea (.lst (es.map V.str ++ ((fr.map Sta.name).filter fun n => !decide (n ∈ es)).map V.str)) = H6 at t5 hfa6 hla6 hba6 hea6 ⊢
          refine ⟨_, rfl, la, rfl, ⟨_, SqL.of hla6⟩, fun la2 hla2 => ?_⟩
          refine lc_map (walk_list (K := K) (a := la) (xs := left.map fun s => V.str s.name)) hla2 (gv left fun s => .str s.name) (kv left fun s => !decide (s.name ∈ fr.map Sta.name)) (by rw [List.length_map]; omega) (fun H s => s.seq (SqL.of hla6)) ?_ ?_
          · rintro k y H7 H8 Nk Ns hk s7 ⟨rfl, hy⟩ k1 k2
            obtain ⟨s, en, rfl⟩ := map_get hy
            rw [kv_at en] at k1 k2
            rw [gv_at en] at k1
            refine ⟨rfl, _, rfl, _, rfl, fa, _, rfl, .inl (SqL.of (s7 _ _ hfa6)), rfl, flat_strs' _, ?_⟩
            rw [inV_strs]
            refine ⟨_, rfl, ?_⟩
            cases hd : decide (s.name ∈ fr.map Sta.name) with
            | true => exact ite_f (b := !true) rfl (k2 (by rw [hd]; rfl) _ (Same.refl _))
            | false => exact ite_t (b := !false) rfl ⟨_, rfl, k1 (by rw [hd]; rfl) _ (Same.refl _)⟩
          · intro H7 s7 h7
            rw [List.length_map, filter_gv] at h7
            have hst := hN.step hO hRO efr.symm rfl rfl rfl
            refine ⟨_, rfl, fa, _, rfl, .inl (SqL.of (s7 _ _ hfa6)), _, _, rfl, rfl, ?_⟩
            have nl2e : la2 ≠ ea := fun e => by rw [e, hea6] at hla2; cases hla2
            have nl2b : la2 ≠ ba := fun e => by rw [e, hba6] at hla2; cases hla2
            have ec : V.bl (decide ((0 : Int) < (((fr.map Sta.name).map V.str).length : Nat))) = V.bl (decide (fr.length > 0)) := congrArg V.bl (decide_eq_decide.mpr (by rw [List.length_map, List.length_map]; omega))
            refine ⟨_, hst.2, t5.trans s7, la2, _, _, _, decide (fr.length > 0), some (.ref fa), v8, congrArg (fun w => [some (V.ref D), some (.str z), some (.ref rw), some (.ref ea), some (.ref ba), some (.ref la2), some w, some (.ref fa), v8]) ec, (s7 _ _ hea6).trans (by rw [List.map_append]), (s7 _ _ hba6).trans (by rw [List.map_append]), h7, nl2e, nl2b, ?_, hst.1, rfl⟩
            cases e : H la2 with
            | none => rfl
            | some o => exact absurd (t5 _ _ e) (by rw [hla2]; exact fun z => nomatch z)
    · have hc' : c = false := by
        cases c with
        | false => rfl
        | true => exact absurd rfl hc
      subst hc'
      have hlen4 := hN.len
      have hell := hN.el
      have hcl : ∀ s ∈ L.sts, s.name ∉ bs → begun (entsOf L L.lks s) rows es bs = false := fun s hs hn => by
        rcases hN.cov s hs with h | h
        · exact absurd h hn
        · exact hN.cl rfl s h
      refine ⟨_, rfl, ea, es, rfl, SqL.of he, by omega, fun zs p hp1 hs1 hpn => ?_⟩
      refine ⟨p, _, rfl, .inl ⟨SqL.of upd_same, fun q1 hq1 => ?_⟩⟩
      have u1 : Same H1 (upd H1 p (.lst (zs.map V.str))) := sNew hpn
      have u2 := u1.trans (sNew (o := .tup (zs.map V.str)) hq1)
      refine ⟨_, rfl, ba, bs, rfl, SqL.of (u2 _ _ hb), by omega, fun zs2 p2 hp2 hs2 hpn2 => ?_⟩
      refine ⟨p2, _, rfl, .inl ⟨SqL.of upd_same, fun q2 hq2 => ?_⟩⟩
      have u3 := u2.trans (sNew (o := .lst (zs2.map V.str)) hpn2)
      have u4 := u3.trans (sNew (o := .tup (zs2.map V.str)) hq2)
      refine ⟨by show 2 ≤ sizeLine; omega, fun q3 hq3 => ?_⟩
      have u5 := u4.trans (sNew (o := .tup [.ref q1, .ref q2]) hq3)
      have w1 : Same (upd (upd H1 p (.lst (zs.map V.str))) q1 (.tup (zs.map V.str))) (upd (upd (upd (upd (upd H1 p (.lst (zs.map V.str))) q1 (.tup (zs.map V.str))) p2 (.lst (zs2.map V.str))) q2 (.tup (zs2.map V.str))) q3 (.tup [.ref q1, .ref q2])) := ((sNew hpn2).trans (sNew hq2)).trans (sNew hq3)
      refine q (.ref q3) (zs, zs2) _ (t1.trans u5) ⟨q3, q1, q2, rfl, SqT.of upd_same, SqT.of (w1 _ _ upd_same), SqT.of (sNew hq3 _ _ upd_same)⟩ ?_
      exact rowOk_of hO hA hRO hN.esi hN.bg hcl hp1 hp2 hN.en hN.bn hs1 hs2
end
end Own
set_option Elab.async false
set_option linter.all false
/-! windows: few of them -/
namespace Own
open PySem PySem.Spec PyProof.Rows L2
theorem str_ext {a b : Str} (h : a.cps.toList = b.cps.toList) : a = b := PySem.W.str_of_cps h
theorem rising_le : ∀ {p : Str} {l : List Str}, risingS p l = true → (p :: l).Pairwise fun a b => a.cps.toList ≤ b.cps.toList
  | p, [], _ => by simp
  | p, x :: r, h => by
    have h' := Bool.and_eq_true_iff.mp h
    have ih := rising_le h'.2
    have hpx : p.cps.toList ≤ x.cps.toList := by
      have e := h'.1
      rw [ltCps_eq] at e
      by_cases c : x.cps.toList < p.cps.toList
      · rw [decide_eq_true c] at e; cases e
      · exact List.not_lt.mp c
    refine List.pairwise_cons.mpr ⟨fun y hy => ?_, ih⟩
    rcases List.mem_cons.mp hy with e | hy
    · rw [e]; exact hpx
    · exact List.le_trans hpx ((List.pairwise_cons.mp ih).1 y hy)
theorem sorted_le {l : List Str} (h : sortedS l = true) : l.Pairwise fun a b => a.cps.toList ≤ b.cps.toList := by
  cases l with
  | nil => exact List.Pairwise.nil
  | cons x r => exact rising_le h
theorem sorted_unique : ∀ {l m : List Str}, l.Pairwise (fun a b => a.cps.toList ≤ b.cps.toList) → m.Pairwise (fun a b => a.cps.toList ≤ b.cps.toList) → l.Nodup → m.Nodup → (∀ n, n ∈ l ↔ n ∈ m) → l = m
  | [], [], _, _, _, _, _ => rfl
  | [], y :: m, _, _, _, _, h => by have := (h y).mpr List.mem_cons_self; cases this
  | x :: l, [], _, _, _, _, h => by have := (h x).mp List.mem_cons_self; cases this
  | x :: l, y :: m, p1, p2, n1, n2, h => by
    obtain ⟨a1, b1⟩ := List.pairwise_cons.mp p1
    obtain ⟨a2, b2⟩ := List.pairwise_cons.mp p2
    obtain ⟨c1, d1⟩ := List.nodup_cons.mp n1
    obtain ⟨c2, d2⟩ := List.nodup_cons.mp n2
    have e : x = y := by
      apply str_ext
      apply List.le_antisymm
      · rcases List.mem_cons.mp ((h y).mpr List.mem_cons_self) with e | hm
        · rw [e]; exact List.le_refl _
        · exact a1 y hm
      · rcases List.mem_cons.mp ((h x).mp List.mem_cons_self) with e | hm
        · rw [e]; exact List.le_refl _
        · exact a2 x hm
    subst e
    rw [sorted_unique b1 b2 d1 d2 fun n => ⟨fun hn => by
      rcases List.mem_cons.mp ((h n).mp (List.mem_cons_of_mem _ hn)) with e | hm
      · subst e; exact absurd hn c1
      · exact hm, fun hn => by
      rcases List.mem_cons.mp ((h n).mpr (List.mem_cons_of_mem _ hn)) with e | hm
      · subst e; exact absurd hn c2
      · exact hm⟩]
theorem row_unique {L : Lin} {z : Str} {i j : Nat} {r r' : Row} (h : RowOk L z i r) (h' : RowOk L z j r') (e1 : ∀ n, n ∈ r.1 ↔ n ∈ r'.1) (e2 : ∀ n, n ∈ r.2 ↔ n ∈ r'.2) : r = r' := by
  obtain ⟨a1, a2, a3, a4, a5, a6⟩ := h
  obtain ⟨b1, b2, b3, b4, b5, b6⟩ := h'
  have q1 := sorted_unique (sorted_le a5) (sorted_le b5) a3 b3 e1
  have q2 := sorted_unique (sorted_le a6) (sorted_le b6) a4 b4 e2
  exact Prod.ext q1 q2
/-- bits as a number -/
def code : List Bool → Nat
  | [] => 0
  | b :: l => (if b then 1 else 0) + 2 * code l
theorem code_lt : ∀ l : List Bool, code l < 2 ^ l.length
  | [] => by decide
  | b :: l => by
    have := code_lt l
    rw [List.length_cons, Nat.pow_succ]
    show (if b then 1 else 0) + 2 * code l < _
    split <;> omega
theorem code_inj : ∀ {l m : List Bool}, l.length = m.length → code l = code m → l = m
  | [], [], _, _ => rfl
  | a :: l, b :: m, h, e => by
    have h' : l.length = m.length := by simpa using h
    have e' : (if a then 1 else 0) + 2 * code l = (if b then 1 else 0) + 2 * code m := e
    have h1 : a = b := by
      cases a <;> cases b <;> simp at e' ⊢ <;> omega
    subst h1
    have h2 : code l = code m := by omega
    rw [code_inj h' h2]
def rbits (ns : List Str) (r : Row) : List Bool := ns.map fun n => decide (n ∈ r.2)
def wbits (ns : List Str) (rs : List Row) : List Bool := rs.flatMap (rbits ns)
theorem wbits_len (ns : List Str) : ∀ rs : List Row, (wbits ns rs).length = ns.length * rs.length
  | [] => by simp [wbits]
  | r :: rs => by
    have := wbits_len ns rs
    unfold wbits at this ⊢
    rw [List.flatMap_cons, List.length_append, this, List.length_cons, Nat.mul_succ]
    unfold rbits
    rw [List.length_map]; omega
theorem wbits_inj {ns : List Str} : ∀ {rs rs' : List Row}, rs.length = rs'.length → wbits ns rs = wbits ns rs' → ∀ (i : Nat) (r r' : Row), rs[i]? = some r → rs'[i]? = some r' → rbits ns r = rbits ns r'
  | [], _, _, _, i, r, r', h, _ => by simp at h
  | _ :: _, [], hl, _, _, _, _, _, _ => by simp at hl
  | a :: rs, b :: rs', hl, e, i, r, r', h, h' => by
    have hl' : rs.length = rs'.length := by simpa using hl
    unfold wbits at e
    rw [List.flatMap_cons, List.flatMap_cons] at e
    have hab : (rbits ns a).length = (rbits ns b).length := by unfold rbits; rw [List.length_map, List.length_map]
    obtain ⟨e1, e2⟩ := List.append_inj e hab
    cases i with
    | zero =>
      cases h
      cases h'
      exact e1
    | succ i => exact wbits_inj hl' e2 i r r' (by simpa using h) (by simpa using h')
/-- the rows of a window -/
def win (rows : List Row) (j wd : Nat) : List Row := (rows.drop j).take wd
theorem win_len {rows : List Row} {j wd : Nat} (h : j + wd ≤ rows.length) : (win rows j wd).length = wd := by
  unfold win
  rw [List.length_take, List.length_drop]; omega
theorem win_get {rows : List Row} {j wd i : Nat} (h : i < wd) : (win rows j wd)[i]? = rows[j + i]? := by
  unfold win
  rw [List.getElem?_take_of_lt h, List.getElem?_drop]
theorem win_snoc {rows : List Row} {r : Row} {j wd : Nat} (h : j + wd ≤ rows.length) : win (rows ++ [r]) j wd = win rows j wd := by
  apply List.ext_getElem?
  intro i
  rcases Nat.lt_or_ge i wd with c | c
  · rw [win_get c, win_get c, List.getElem?_append_left (by omega)]
  · rw [List.getElem?_eq_none (by unfold win; rw [List.length_take]; omega), List.getElem?_eq_none (by unfold win; rw [List.length_take]; omega)]
theorem win_eq {L : Lin} (hO : L.Ok) {z : Str} {rows : List Row} (hr : RowsOk L z rows) {wd i j : Nat} (hi : 1 ≤ i) (hj : 1 ≤ j) (li : i + wd ≤ rows.length) (lj : j + wd ≤ rows.length) (e : wbits L.names (win rows i wd) = wbits L.names (win rows j wd)) : win rows i wd = win rows j wd := by
  apply List.ext_getElem?
  intro k
  rcases Nat.lt_or_ge k wd with c | c
  · rw [win_get c, win_get c]
    have ei : rows[i + k]? = some rows[i + k] := List.getElem?_eq_getElem (by omega)
    have ej : rows[j + k]? = some rows[j + k] := List.getElem?_eq_getElem (by omega)
    have hb := wbits_inj (ns := L.names) (by rw [win_len li, win_len lj]) e k rows[i + k] rows[j + k] (by rw [win_get c]; exact ei) (by rw [win_get c]; exact ej)
    have oi := hr _ _ ei
    have oj := hr _ _ ej
    have hmem : ∀ n, n ∈ rows[i + k].2 ↔ n ∈ rows[j + k].2 := by
      have key : ∀ n ∈ L.names, (n ∈ rows[i + k].2 ↔ n ∈ rows[j + k].2) := fun n hn => by
        unfold rbits at hb
        have := List.map_inj_left.mp hb n hn
        exact decide_eq_decide.mp this
      intro n
      constructor
      · intro h
        exact (key n ((oi.2.1 n).mp h |>.mem hO)).mp h
      · intro h
        exact (key n ((oj.2.1 n).mp h |>.mem hO)).mpr h
    have hmem1 : ∀ n, n ∈ rows[i + k].1 ↔ n ∈ rows[j + k].1 := fun n => by
      have a : ∀ {q r}, 1 ≤ q → RowOk L z q r → (n ∈ r.1 ↔ n ∈ r.2) := fun {q r} hq h => by
        rw [h.1 n, h.2.1 n]
        constructor
        · rintro (⟨h, _⟩ | h)
          · omega
          · exact h
        · exact .inr
      rw [a (by omega) oi, a (by omega) oj, hmem n]
    rw [ei, ej, row_unique oi oj hmem1 hmem]
  · rw [List.getElem?_eq_none (by unfold win; rw [List.length_take]; omega), List.getElem?_eq_none (by unfold win; rw [List.length_take]; omega)]
/-- as many windows as differ -/
theorem few {L : Lin} (hO : L.Ok) {z : Str} {rows : List Row} (hr : RowsOk L z rows) {wd k : Nat} (hw : wd ≤ 3) (hk : k + wd ≤ rows.length + 1) (hd : ∀ i j, i < k → j < k → win rows i wd = win rows j wd → i = j) : k ≤ 4097 := by
  rcases Nat.eq_zero_or_pos k with e | e
  · omega
  have hnd : ((List.range (k - 1)).map fun i => code (wbits L.names (win rows (i + 1) wd))).Nodup := by
    rw [List.nodup_iff_pairwise_ne, List.pairwise_map]
    refine List.Pairwise.imp_of_mem ?_ List.nodup_range
    intro i j hi hj hne he
    have hi := List.mem_range.mp hi
    have hj := List.mem_range.mp hj
    have hlen : (wbits L.names (win rows (i + 1) wd)).length = (wbits L.names (win rows (j + 1) wd)).length := by
      rw [wbits_len, wbits_len, win_len (by omega), win_len (by omega)]
    have := hd (i + 1) (j + 1) (by omega) (by omega) (win_eq hO hr (by omega) (by omega) (by omega) (by omega) (code_inj hlen he))
    omega
  have hlt := nodup_le (n := 4096) hnd fun x hx => by
    obtain ⟨i, hi, rfl⟩ := List.mem_map.mp hx
    have hi := List.mem_range.mp hi
    have h1 := code_lt (wbits L.names (win rows (i + 1) wd))
    have hn : L.names.length ≤ 4 := by rw [Lin.names, List.length_map]; exact hO.n6
    have h2 : (wbits L.names (win rows (i + 1) wd)).length ≤ 12 := by
      rw [wbits_len, win_len (by omega)]
      exact Nat.mul_le_mul hn hw
    have h3 : 2 ^ (wbits L.names (win rows (i + 1) wd)).length ≤ 2 ^ 12 := Nat.pow_le_pow_right (by decide) h2
    have h4 : (2 : Nat) ^ 12 = 4096 := by decide
    omega
  rw [List.length_map, List.length_range] at hlt
  omega
end Own
set_option Elab.async false
set_option linter.all false
set_option maxRecDepth 100000
set_option maxHeartbeats 4000000
/-! walks -/
namespace Own
open PySem PySem.Spec PyProof.Rows L2 He OwnR
section
variable {P : Program} {w : World} {K : PySem.W.Frag} {mg : Str → Option Value} {base : Heap}
/-- tuples stay -/
def TT (K : PySem.W.Frag) (H H' : Hp) : Prop := ∀ a xs, SqT K H a xs → SqT K H' a xs
theorem TT.trans {H1 H2 H3 : Hp} (a : TT K H1 H2) (b : TT K H2 H3) : TT K H1 H3 := fun c xs h => b c xs (a c xs h)
theorem TT.same {H H' : Hp} (s : Same H H') : TT K H H' := fun _ _ h => sT s h
theorem TT.upd {H : Hp} {p : Addr} {o o' : HO} (h : H p = some o) (h1 : ∀ xs, o ≠ .tup xs) (h2 : ∀ u xs, o ≠ .frz u (.tup xs)) : TT K H (upd H p o') := fun a xs h' => by
  rcases h' with (h' | ⟨u, h'⟩) | h'
  · exact .inl (.inl (by rw [upd_ne (fun e => by subst e; rw [h] at h'; exact h1 _ (Option.some.inj h'))]; exact h'))
  · exact .inl (.inr ⟨u, by rw [upd_ne (fun e => by subst e; rw [h] at h'; exact h2 _ _ (Option.some.inj h'))]; exact h'⟩)
  · exact .inr h'
theorem RowAt.t {H H' : Hp} {r : Row} {v : V} (h : RowAt K H r v) (g : TT K H H') : RowAt K H' r v := by
  obtain ⟨t, a, b, rfl, h1, h2, h3⟩ := h
  exact ⟨t, a, b, rfl, g _ _ h1, g _ _ h2, g _ _ h3⟩
mutual
theorem Nk.t {H H' : Hp} (e : TT K H H') : ∀ (k : NestedKey) (v : V), Nk K H k v → Nk K H' k v
  | .none, _, h => by cases h
  | .num i, _, h => by cases h; exact .int i
  | .text z, _, h => by cases h; exact .text z
  | .tup ks, _, h => by
    cases h with
    | tup h1 h2 => exact .tup (e _ _ h1) (NkAll.t e ks _ h2)
theorem NkAll.t {H H' : Hp} (e : TT K H H') : ∀ (ks : List NestedKey) (vs : List V), NkAll K H ks vs → NkAll K H' ks vs
  | [], _, h => by cases h; exact .nil
  | k :: ks, _, h => by
    cases h with
    | cons h1 h2 => exact .cons (Nk.t e k _ h1) (NkAll.t e ks _ h2)
end
theorem KeysN.t {H H' : Hp} {xs : List (NestedKey × Addr × V)} (h : KeysN K H xs) (e : TT K H H') : KeysN K H' xs := fun p hp => ⟨Nk.t e _ _ (h p hp).1, (h p hp).2⟩
/-- the key of a row, of a window -/
def rkey (r : Row) : NestedKey := .tup [.tup (r.1.map .text), .tup (r.2.map .text)]
def wkey (rs : List Row) : NestedKey := .tup (rs.map rkey)
theorem text_inj : ∀ {l m : List Str}, l.map NestedKey.text = m.map NestedKey.text → l = m
  | [], [], _ => rfl
  | [], _ :: _, h => by cases h
  | _ :: _, [], h => by cases h
  | a :: l, b :: m, h => by
    rw [List.map_cons, List.map_cons] at h
    injection h with h1 h2
    injection h1 with h1
    rw [h1, text_inj h2]
theorem rkey_inj {r r' : Row} (h : rkey r = rkey r') : r = r' := by
  unfold rkey at h
  injection h with h
  injection h with h1 h2
  injection h2 with h2 _
  injection h1 with h1
  injection h2 with h2
  exact Prod.ext (text_inj h1) (text_inj h2)
theorem rkeys_inj : ∀ {l m : List Row}, l.map rkey = m.map rkey → l = m
  | [], [], _ => rfl
  | [], _ :: _, h => by cases h
  | _ :: _, [], h => by cases h
  | a :: l, b :: m, h => by
    rw [List.map_cons, List.map_cons] at h
    injection h with h1 h2
    rw [rkey_inj h1, rkeys_inj h2]
theorem wkey_inj {l m : List Row} (h : wkey l = wkey m) : l = m := by
  unfold wkey at h
  injection h with h
  exact rkeys_inj h
theorem nkall_text {H : Hp} : ∀ l : List Str, NkAll K H (l.map .text) (l.map V.str)
  | [] => .nil
  | z :: l => .cons (.text z) (nkall_text l)
theorem depth_text : ∀ l : List Str, NestedKey.depthAll (l.map .text) = 0
  | [] => by simp [NestedKey.depthAll]
  | z :: l => by
    have := depth_text l
    simp [NestedKey.depthAll, NestedKey.depth] at this ⊢
    exact this
theorem depth_rkey (r : Row) : (rkey r).depth = 2 := by
  have h1 := depth_text r.1
  have h2 := depth_text r.2
  simp [rkey, NestedKey.depth, NestedKey.depthAll, h1, h2]
theorem depth_wkey : ∀ rs : List Row, NestedKey.depthAll (rs.map rkey) ≤ 2
  | [] => by simp [NestedKey.depthAll]
  | r :: rs => by
    have h1 := depth_wkey rs
    have h2 := depth_rkey r
    simp [NestedKey.depthAll, h2]
    omega
theorem RowAt.key {H : Hp} {r : Row} {v : V} (h : RowAt K H r v) : Nk K H (rkey r) v := by
  obtain ⟨t, a, b, rfl, h1, h2, h3⟩ := h
  exact .tup h1 (.cons (.tup h2 (nkall_text _)) (.cons (.tup h3 (nkall_text _)) .nil))
theorem rows_keys {H : Hp} : ∀ {rs : List Row} {ys : List V}, Paired (RowAt K H) rs ys → NkAll K H (rs.map rkey) ys
  | _, _, .nil => .nil
  | _, _, .cons r t => .cons r.key (rows_keys t)
theorem paired_drop {α β : Type} {F : α → β → Prop} : ∀ {l : List α} {m : List β} (j : Nat), Paired F l m → Paired F (l.drop j) (m.drop j)
  | _, _, 0, h => h
  | _, _, j + 1, .nil => by simpa using Paired.nil
  | _, _, j + 1, .cons _ t => paired_drop j t
theorem cut_from {xs : List V} {j : Nat} (h : j ≤ xs.length) : cutV xs (some ((j : Nat) : Int)) none = xs.drop j := by
  unfold cutV
  have e1 : HT.sIx xs.length 0 (some ((j : Nat) : Int)) = j := by
    rw [HT.sIx_nat]; omega
  have e2 : HT.sIx xs.length xs.length none = xs.length := HT.sIx_none _ _
  rw [e1, e2, List.take_of_length_le (by rw [List.length_drop]; omega)]
theorem EntsAt.keep {H0 H H' : Hp} {D x C dx : Addr} {fs : List (Str × V)} {L : Lin} {els : Sta → List (Nat × Str × Bool)} (h : EntsAt K H0 H D L els) (hx : H x = some (.ins C dx fs)) (e : ∀ c o, c ≠ x → H c = some o → H' c = some o) : EntsAt K H0 H' D L els := by
  have g : ∀ c o, H c = some o → (∀ C dx fs, o ≠ .ins C dx fs) → H' c = some o := fun c o ho hn => e c o (fun z => by subst z; rw [hx] at ho; exact hn _ _ _ (Option.some.inj ho).symm) ho
  have gt : TT K H H' := fun a xs h => by
    rcases h with (h | ⟨u, h⟩) | h
    · exact .inl (.inl (g _ _ h fun _ _ _ z => by cases z))
    · exact .inl (.inr ⟨u, g _ _ h fun _ _ _ z => by cases z⟩)
    · exact .inr h
  obtain ⟨ls, h1, h2, h3, h4, h5⟩ := h
  refine ⟨ls, h1, h2, g _ _ h3 (fun _ _ _ z => by cases z), h4, fun j l s a b => ?_⟩
  obtain ⟨xs, c, d⟩ := h5 j l s a b
  refine ⟨xs, g _ _ c (fun _ _ _ z => by cases z), L2.Paired.mapP d fun _ _ z => ?_⟩
  obtain ⟨t, ht, hs⟩ := z
  exact ⟨t, ht, gt _ _ hs⟩
theorem sc_Walk_init : FnScope ["self", "line", "start", "width", "entries", "windows", "begin", "window"] ["self", "line", "start"] (defScope s_Walk_init) := ⟨rfl, rfl, rfl, by decide +kernel, rfl, by decide +kernel, by decide +kernel⟩
theorem b_Walk_init (E : Env K mg base) : Binds K (fdAt K (ma K (ga K "Walk") "__init__")) ["self", "line", "start"] [] := (f_Walk_init E).bindsN fun _ _ _ _ _ _ us hl => match us, hl with | [_, _, _], _ => rfl
def wfs (rw : Addr) (b e : Nat) : List (Str × V) := [("rows", .ref rw), ("begin_row", .int (b : Nat)), ("end_row", .int (e : Nat))]
def sp_wki (K : PySem.W.Frag) : Sp := fun vs H Q _ => ∃ (x dx : Addr) (v : V) (L : Lin) (z : Str), vs = [.ref x, v, .str z] ∧ H x = some (.ins (ga K "Walk") dx []) ∧ LineAt K H v L ∧ L.Ok ∧ Acyc L ∧
  ∀ H' rw rows ys b e, (∀ c o, c ≠ x → H c = some o → H' c = some o) → H' x = some (.ins (ga K "Walk") dx (wfs rw b e)) → H' rw = some (.lst ys) → Paired (RowAt K H') rows ys → RowsOk L z rows → b < e → e ≤ 5000 → e ≤ rows.length → rows.length ≤ 6000 → (∀ k p n, Pl L z p (b + k) n ↔ Pl L z p (e + k) n) → Q .non H'
theorem atN1_new {xs : List (NestedKey × Addr × V)} {k : NestedKey} {a : Addr} {v : V} (h : k ∉ xs.map (·.1)) : atN1 (xs ++ [(k, a, v)]) k = some v := by
  unfold atN1
  rw [List.find?_append]
  have : xs.find? (fun x => decide (x.1 = k)) = none := List.find?_eq_none.mpr fun x hx e => h (List.mem_map.mpr ⟨x, hx, of_decide_eq_true e⟩)
  rw [this]
  simp
theorem atN1_old {xs ys : List (NestedKey × Addr × V)} {k : NestedKey} {v : V} (h : atN1 xs k = some v) : atN1 (xs ++ ys) k = some v := by
  unfold atN1 at h ⊢
  rw [List.find?_append]
  cases e : xs.find? (fun x => decide (x.1 = k)) with
  | none => rw [e] at h; cases h
  | some p => rw [e] at h; exact h
/-- the loop's state -/
def WkI (P : Program) (w : World) (K : PySem.W.Frag) (He : Hp) (L : Lin) (z : Str) (x dx rw wn : Addr) (wd m : Nat) (H : Hp) : Prop := (∀ c o, c ≠ x → He c = some o → H c = some o) ∧ ∃ rows ys b e kxs, H x = some (.ins (ga K "Walk") dx (wfs rw b e)) ∧ H rw = some (.lst ys) ∧ H wn = some (DNO P w wn kxs) ∧ Paired (RowAt K H) rows ys ∧ RowsOk L z rows ∧ KeysN K H kxs ∧
  ((e = 0 ∧ b = 0 ∧ kxs.map (·.1) = (List.range (rows.length + 1 - wd)).map (fun j => wkey (win rows j wd)) ∧ (∀ j, j < rows.length + 1 - wd → atN1 kxs (wkey (win rows j wd)) = some (.int (j : Nat))) ∧ (kxs.map (·.1)).Nodup ∧ m + rows.length = 5000) ∨
   (0 < e ∧ b < e ∧ e + wd = rows.length ∧ win rows b wd = win rows e wd ∧ e ≤ 4200 ∧ m = 0))
theorem ok_Walk_init (E : Env K mg base) : FnOk P w K mg base CX0 6 (ma K (ga K "Walk") "__init__") (fdAt K (ma K (ga K "Walk") "__init__")) ["self", "line", "start"] ((sp_wki K)) := by
  refine okD (f_Walk_init E) sc_Walk_init (fun cdv A outer s H vs Q X hr h => ?_) (fun vs H Q X h => by obtain ⟨_, _, _, _, _, rfl, _⟩ := h; rfl)
  obtain ⟨x, dx, v, L, z, rfl, hx, hL, hO, hA, q⟩ := h
  have e3 : sizeLine = 16777216 := sizeLine_eq
  refine ⟨_, (pss_cons (ps_par (i := 3) (j := 4) rfl sc_Walk_init.nd rfl rfl (by decide) rfl rfl (pa_cons (pe_call (ok_width_of E) (hr.mono (by decide)) rfl (g_width_of E) (f_width_of E).kp (b_width_of E) .nil pass0 (pa_cons (pv 1) pa_nil)) (pa_cons (pe_call (ok_entries_of E) (hr.mono (by decide)) rfl (g_entries_of E) (f_entries_of E).kp (b_entries_of E) .nil pass0 (pa_cons (pv 1) pa_nil)) pa_nil)) (by rfl))
      (pss_cons (ps_fld (pv 0) (pe_lst pa_nil) rfl)
      (pss_cons (ps_asg (pe_tup (pa_cons pe_int (pa_cons pe_int pa_nil))) (pg_tup rfl (pgs_cons (pg_fld (pv 0)) (pgs_cons (pg_fld (pv 0)) pgs_nil))))
      (pss_cons (ps_set (i := 5) sc_Walk_init.nd rfl (Or.inl rfl) pe_dnewN)
      (pss_one (ps_while PassesOwn.never (pt_cmpR op_eq (pe_fldK K (pv 0)) pe_int (nomark _)) (pss_cons (ps_expr (pe_bm PySem.F.plainAttrs_list PySem.F.slot_list_append PySem.F.type_list_append mt_append (pe_fldK K (pv 0)) (pa_cons (pe_call (ok_next_row E) (hr.mono (by decide)) rfl (g_next_row E) (f_next_row E).kp (b_next_row E) .nil pass0 (pa_cons (pv 4) (pa_cons (pv 2) (pa_cons (pe_fldK K (pv 0)) pa_nil)))) pa_nil)))
      (pss_cons (ps_set (i := 6) sc_Walk_init.nd rfl (Or.inl rfl) (pe_op op_sub (pe_callB (lenK K) rfl (n_len E) boot_len (pa_cons (pe_fldK K (pv 0)) pa_nil)) (pv 3)))
      (pss_one (ps_if (pt_cmpR op_ge (pv 6) pe_int (nomark _)) (pss_cons (ps_set (i := 7) sc_Walk_init.nd rfl (Or.inl rfl) (pe_callTy (tupK K) rfl (n_tuple E) boot_tuple (pa_cons (pe_slice (slL K) (pe_fldK K (pv 0)) (po_some (pv 6)) po_none) pa_nil)))
      (pss_one (ps_if (pt_cmpR (op_inN hr.units) (pv 7) (pv 5) rfl) (pss_one (ps_asg (pe_tup (pa_cons (pe_dgetN hr.units (pv 5) (pv 7) (fun _ _ => rfl)) (pa_cons (pv 6) pa_nil))) (pg_tup rfl (pgs_cons (pg_fld (pv 0)) (pgs_cons (pg_fld (pv 0)) pgs_nil))))) (pss_one (ps_asg (pv 6) (pg_sub (pv 5) (pv 7) (set_dictN hr.units))))))) pss_nil)))))))))), ?_⟩
  refine ⟨_, rfl, v, L, rfl, hL, hO, fun H1 wd s1 w1 w3 hw => ?_⟩
  refine ⟨_, rfl, v, L, rfl, hL.mono (sameI s1), hO, fun He D s2 hE => ⟨_, _, rfl, ?_⟩⟩
  have s02 := s1.trans s2
  refine ⟨by show 0 ≤ sizeLine; omega, fun rw hrw => ⟨_, rfl, x, _, dx, [], rfl, sNew hrw _ _ (s02 _ _ hx), c_Walk E, a_Walk_rows E, (by show 0 < 1000; decide), ?_⟩⟩
  have hxe : He x = some (.ins (ga K "Walk") dx []) := s02 _ _ hx
  have nxr : x ≠ rw := fun e => by rw [← e, hxe] at hrw; cases hrw
  refine ⟨by show 2 ≤ sizeLine; omega, fun tp htp => ⟨tp, _, rfl, SqT.of upd_same, rfl, _, _, rfl, ?_⟩⟩
  have nxt : x ≠ tp := fun e => by rw [← e, upd_same] at htp; cases htp
  have nrt : rw ≠ tp := fun e => by rw [← e, upd_ne (Ne.symm nxr), upd_same] at htp; cases htp
  refine ⟨_, rfl, x, _, dx, _, rfl, by rw [upd_ne nxt]; exact upd_same, c_Walk E, a_Walk_begin_row E, (by show 1 < 1000; decide), ?_⟩
  refine ⟨_, _, rfl, _, rfl, x, _, dx, _, rfl, upd_same, c_Walk E, a_Walk_end_row E, (by show 2 < 1000; decide), rfl, ?_⟩
  rw [upd_upd]
  refine fun wn hwn => ?_
  have nxw : x ≠ wn := fun e => by rw [← e, upd_same] at hwn; cases hwn
  have nrw : rw ≠ wn := fun e => by rw [← e, upd_ne (Ne.symm nxr), upd_ne nrt, upd_ne (Ne.symm nxr), upd_same] at hwn; cases hwn
  have hrwN : He rw = none := hrw
  have hwnN : He wn = none := by
    cases e : He wn with
    | none => rfl
    | some o =>
      have h1 : wn ≠ rw := Ne.symm nrw
      have h2 : wn ≠ tp := fun e' => by
        rw [e', upd_ne (Ne.symm nxt), upd_same] at hwn; cases hwn
      rw [upd_ne (Ne.symm nxw), upd_ne h2, upd_ne (Ne.symm nxw), upd_ne h1, e] at hwn
      cases hwn
  show tWhile _ _ _ _ _
  refine while_m (fun m σ H' => (∃ v6 v7, σ = [some (.ref x), some v, some (.str z), some (.int (wd : Nat)), some (.ref D), some (.ref wn), v6, v7]) ∧ WkI P w K He L z x dx rw wn wd m H')
    ⟨5000, ⟨_, _, rfl⟩, fun c o hc h => ?_, [], [], 0, 0, [], ?_, ?_, upd_same, .nil, fun j r h => by simp at h, (fun p hp => nomatch hp), .inl ⟨rfl, rfl, ?_, fun j hj => ?_, List.nodup_nil, rfl⟩⟩ ?_ ?_
  · have h1 : c ≠ rw := fun e => by rw [e, hrwN] at h; cases h
    have h2 : c ≠ wn := fun e => by rw [e, hwnN] at h; cases h
    have h3 : c ≠ tp := fun e => by
      rw [← e, upd_ne hc, upd_ne h1, h] at htp; cases htp
    rw [upd_ne h2, upd_ne hc, upd_ne h3, upd_ne hc, upd_ne h1]; exact h
  · rw [upd_ne nxw]; exact upd_same
  · rw [upd_ne nrw, upd_ne (Ne.symm nxr), upd_ne nrt, upd_ne (Ne.symm nxr)]; exact upd_same
  · have e : ([] : List Row).length + 1 - wd = 0 := by show 0 + 1 - wd = 0; omega
    rw [e]; rfl
  · have e : ([] : List Row).length + 1 - wd = 0 := by show 0 + 1 - wd = 0; omega
    rw [e] at hj; omega
  · rintro m σ H5 ⟨⟨v6, v7, rfl⟩, hkeep, rows, ys, b, e, kxs, h1, h2, h3, h4, h5, h6, h7⟩
    have hyl : rows.length = ys.length := Paired.length h4
    refine ⟨_, rfl, x, _, dx, _, .int (e : Nat), rfl, h1, c_Walk E, a_Walk_end_row E, rfl, rfl, _, rfl, ?_⟩
    rcases h7 with ⟨rfl, rfl, hkeys, hval, hnd, hm⟩ | ⟨he0, hbe, hew, hwin, hle, rfl⟩
    · refine ite_t (decide_eq_true rfl) ?_
      have hlen : rows.length ≤ 4100 := by
        have := few hO h5 (wd := wd) (k := rows.length + 1 - wd) w3
        rcases Nat.lt_or_ge rows.length wd with c | c
        · omega
        · have := this (by omega) fun i j hi hj he => by
            rw [hkeys] at hnd
            have := (List.getElem?_inj (i := i) (j := j) (by rw [List.length_map, List.length_range]; exact hi) hnd).mp (by
              rw [List.getElem?_map, List.getElem?_map, List.getElem?_range hi, List.getElem?_range hj]
              show some (wkey (win rows i wd)) = some (wkey (win rows j wd))
              rw [he])
            exact this
          omega
      have hkl : kxs.length = rows.length + 1 - wd := by
        have := congrArg List.length hkeys
        rw [List.length_map, List.length_map, List.length_range] at this
        exact this
      refine ⟨_, rfl, x, _, dx, _, .ref rw, rfl, h1, c_Walk E, a_Walk_rows E, rfl, tyV_l h2, ?_⟩
      refine ⟨_, rfl, _, rfl, _, rfl, x, _, dx, _, .ref rw, rfl, h1, c_Walk E, a_Walk_rows E, rfl, _, D, rw, L, z, rows, ys, rfl, hE.keep hxe hkeep, hO, hA, SqL.of h2, h4, h5, fun rv r H6 s6 hrv hro => ?_⟩
      refine ⟨rw, ys, rv, rfl, rfl, s6 _ _ h2, by omega, ?_⟩
      have t67 : TT K H6 (upd H6 rw (.lst (ys ++ [rv]))) := TT.upd (s6 _ _ h2) (fun _ z => by cases z) (fun _ _ z => by cases z)
      have hrows : Paired (RowAt K (upd H6 rw (.lst (ys ++ [rv])))) (rows ++ [r]) (ys ++ [rv]) := OwnR.Paired.snoc (L2.Paired.mapP h4 fun _ _ z => z.t ((TT.same s6).trans t67)) (hrv.t t67)
      have hx7 : upd H6 rw (.lst (ys ++ [rv])) x = some (.ins (ga K "Walk") dx (wfs rw 0 0)) := by rw [upd_ne nxr]; exact s6 _ _ h1
      have hw7 : upd H6 rw (.lst (ys ++ [rv])) wn = some (DNO P w wn kxs) := by rw [upd_ne (Ne.symm nrw)]; exact s6 _ _ h3
      have hr7 : upd H6 rw (.lst (ys ++ [rv])) rw = some (.lst (ys ++ [rv])) := upd_same
      have hK7 : KeysN K (upd H6 rw (.lst (ys ++ [rv]))) kxs := KeysN.t h6 ((TT.same s6).trans t67)
      have keep7 : ∀ c o, c ≠ x → He c = some o → upd H6 rw (.lst (ys ++ [rv])) c = some o := fun c o hc h => by
        rw [upd_ne (fun e => by rw [e, hrwN] at h; cases h)]
        exact s6 _ _ (hkeep c o hc h)
      have hro' : RowsOk L z (rows ++ [r]) := fun j r' hj => by
        rcases Nat.lt_or_ge j rows.length with c | c
        · rw [List.getElem?_append_left c] at hj
          exact h5 j r' hj
        · rw [List.getElem?_append_right c] at hj
          have hj0 : j - rows.length = 0 := by
            have := (List.getElem?_eq_some_iff.mp hj).1
            simpa using this
          rw [hj0] at hj
          obtain rfl := Option.some.inj hj
          have : j = rows.length := by omega
          subst this
          exact hro
      have hll : (rows ++ [r]).length = rows.length + 1 := by rw [List.length_append]; rfl
      have hyll : (ys ++ [rv]).length = rows.length + 1 := by rw [List.length_append, hyl]; rfl
      generalize upd H6 rw (.lst (ys ++ [rv])) = H7 at t67 hrows hx7 hw7 hr7 hK7 keep7 ⊢
      refine ⟨_, rfl, x, _, dx, _, .ref rw, rfl, hx7, c_Walk E, a_Walk_rows E, rfl, rw, _, rfl, .inl (SqL.of hr7), _, rfl, _, _, rfl, rfl, ?_⟩
      refine ⟨_, rfl, _, _, rfl, rfl, _, rfl, ?_⟩
      rw [hyll]
      dsimp only
      have hsame : ∀ i, i < rows.length + 1 - wd → win (rows ++ [r]) i wd = win rows i wd := fun i hi => win_snoc (by omega)
      by_cases cb : wd ≤ rows.length + 1
      · refine ite_t (decide_eq_true (by omega)) ?_
        obtain ⟨j, hj⟩ : ∃ j, j + wd = rows.length + 1 := ⟨rows.length + 1 - wd, by omega⟩
        have ej : (((rows.length + 1 : Nat) : Int) - (wd : Int)) = ((j : Nat) : Int) := by omega
        rw [ej]
        refine ⟨_, rfl, x, _, dx, _, .ref rw, rfl, hx7, c_Walk E, a_Walk_rows E, rfl, _, rfl, _, rfl, rw, _, rfl, SqL.of hr7, fun p1 hp1 => ?_⟩
        rw [cut_from (by omega)]
        refine ⟨p1, _, rfl, .inl ⟨SqL.of upd_same, fun q1 hq1 => ?_⟩⟩
        have s8 : Same H7 (upd (upd H7 p1 (.lst ((ys ++ [rv]).drop j))) q1 (.tup ((ys ++ [rv]).drop j))) := (sNew hp1).trans (sNew hq1)
        have hq : SqT K (upd (upd H7 p1 (.lst ((ys ++ [rv]).drop j))) q1 (.tup ((ys ++ [rv]).drop j))) q1 ((ys ++ [rv]).drop j) := SqT.of upd_same
        have hx8 := s8 _ _ hx7
        have hw8 := s8 _ _ hw7
        have hr8 := s8 _ _ hr7
        have hK8 := KeysN.t hK7 (TT.same s8)
        have hrows8 : Paired (RowAt K (upd (upd H7 p1 (.lst ((ys ++ [rv]).drop j))) q1 (.tup ((ys ++ [rv]).drop j)))) (rows ++ [r]) (ys ++ [rv]) := L2.Paired.mapP hrows fun _ _ z => z.t (TT.same s8)
        have keep8 : ∀ c o, c ≠ x → He c = some o → upd (upd H7 p1 (.lst ((ys ++ [rv]).drop j))) q1 (.tup ((ys ++ [rv]).drop j)) c = some o := fun c o hc h => s8 _ _ (keep7 c o hc h)
        generalize upd (upd H7 p1 (.lst ((ys ++ [rv]).drop j))) q1 (.tup ((ys ++ [rv]).drop j)) = H8 at hq hx8 hw8 hr8 hK8 hrows8 keep8 ⊢
        have ewin : win (rows ++ [r]) j wd = (rows ++ [r]).drop j := by
          unfold win
          rw [List.take_of_length_le (by rw [List.length_drop]; omega)]
        have hNk : Nk K H8 (wkey (win (rows ++ [r]) j wd)) (.ref q1) := by
          rw [ewin]
          exact .tup hq (rows_keys (paired_drop j hrows8))
        have hdep : (wkey (win (rows ++ [r]) j wd)).depth ≤ 8 := by
          have := depth_wkey (win (rows ++ [r]) j wd)
          show NestedKey.depthAll _ + 1 ≤ 8
          omega
        have hmemk : wkey (win (rows ++ [r]) j wd) ∈ kxs.map (·.1) ↔ ∃ i, i < j ∧ win rows i wd = win (rows ++ [r]) j wd := by
          rw [hkeys]
          constructor
          · intro h
            obtain ⟨i, hi, e⟩ := List.mem_map.mp h
            have := List.mem_range.mp hi
            exact ⟨i, by omega, wkey_inj e⟩
          · rintro ⟨i, hi, e⟩
            exact List.mem_map.mpr ⟨i, List.mem_range.mpr (by omega), by rw [e]⟩
        refine ⟨_, rfl, _, rfl, q1, wn, _, kxs, rfl, rfl, hw8, hK8, hNk, hdep, _, rfl, ?_⟩
        by_cases cin : wkey (win (rows ++ [r]) j wd) ∈ kxs.map (·.1)
        · refine ite_t (decide_eq_true cin) ?_
          obtain ⟨i, hi, ew⟩ := hmemk.mp cin
          have hv := hval i (by omega)
          rw [ew] at hv
          refine ⟨_, rfl, _, rfl, q1, wn, _, kxs, _, rfl, rfl, hw8, hK8, hNk, hdep, hv, _, rfl, by show 2 ≤ sizeLine; omega, fun t2 ht2 => ?_⟩
          have s9 : Same H8 (upd H8 t2 (.tup [.int (i : Nat), .int (j : Nat)])) := sNew ht2
          have hx9 := s9 _ _ hx8
          have t10 : TT K H8 (upd (upd H8 t2 (.tup [.int (i : Nat), .int (j : Nat)])) x (.ins (ga K "Walk") dx (wfs rw i j))) := (TT.same s9).trans (TT.upd hx9 (fun _ z => by cases z) (fun _ _ z => by cases z))
          refine ⟨t2, _, rfl, SqT.of upd_same, rfl, _, _, rfl, ?_⟩
          refine ⟨_, rfl, x, _, dx, _, rfl, hx9, c_Walk E, a_Walk_begin_row E, (by show 3 < 1000; decide), ?_⟩
          refine ⟨_, _, rfl, _, rfl, x, _, dx, _, rfl, upd_same, c_Walk E, a_Walk_end_row E, (by show 3 < 1000; decide), rfl, ?_⟩
          rw [upd_upd]
          refine ⟨0, by omega, ⟨_, _, rfl⟩, fun c o hc h => by rw [upd_ne hc]; exact s9 _ _ (keep8 c o hc h), rows ++ [r], ys ++ [rv], i, j, kxs, upd_same, by rw [upd_ne (Ne.symm nxr)]; exact s9 _ _ hr8, by rw [upd_ne (Ne.symm nxw)]; exact s9 _ _ hw8, L2.Paired.mapP hrows8 fun _ _ z => z.t t10, hro', KeysN.t hK8 t10, .inr ⟨by omega, hi, by omega, ?_, by omega, rfl⟩⟩
          rw [hsame i (by omega)]; exact ew
        · refine ite_f (decide_eq_false cin) ?_
          refine ⟨_, rfl, _, rfl, _, rfl, q1, wn, _, kxs, rfl, rfl, hw8, hK8, hNk, hdep, cin, by omega, ?_⟩
          have t10 : TT K H8 (upd H8 wn (DNO P w wn (kxs ++ [(wkey (win (rows ++ [r]) j wd), q1, V.int (j : Nat))]))) := TT.upd hw8 (fun _ z => by cases z) (fun _ _ z => by cases z)
          have ecnt : (rows ++ [r]).length + 1 - wd = j + 1 := Nat.sub_eq_of_eq_add (by rw [hll]; omega)
          have ecnt0 : rows.length + 1 - wd = j := Nat.sub_eq_of_eq_add hj.symm
          refine ⟨m - 1, by omega, ⟨_, _, rfl⟩, fun c o hc h => by rw [upd_ne (fun e => by rw [e, hwnN] at h; cases h)]; exact keep8 c o hc h, rows ++ [r], ys ++ [rv], 0, 0, kxs ++ [(wkey (win (rows ++ [r]) j wd), q1, V.int (j : Nat))], by rw [upd_ne nxw]; exact hx8, by rw [upd_ne nrw]; exact hr8, upd_same, L2.Paired.mapP hrows8 fun _ _ z => z.t t10, hro', fun p hp => ?_, .inl ⟨rfl, rfl, ?_, fun i hi => ?_, ?_, by omega⟩⟩
          · rcases List.mem_append.mp hp with hp | hp
            · exact (KeysN.t hK8 t10) p hp
            · rw [List.mem_singleton.mp hp]
              exact ⟨Nk.t t10 _ _ hNk, hdep⟩
          · rw [ecnt, List.range_succ, List.map_append, List.map_append, hkeys, ecnt0]
            congr 1
            refine List.map_congr_left fun i hi => ?_
            rw [hsame i (by have := List.mem_range.mp hi; omega)]
          · rw [ecnt] at hi
            by_cases c : i = j
            · subst c
              exact atN1_new cin
            · rw [hsame i (by omega)]
              exact atN1_old (hval i (by omega))
          · rw [List.map_append, List.nodup_append]
            refine ⟨hnd, by simp, fun a ha b hb e => ?_⟩
            have e2 := List.mem_singleton.mp hb
            rw [e2] at e
            subst e
            exact cin ha
      · refine ite_f (decide_eq_false (by omega)) ?_
        refine ⟨m - 1, by omega, ⟨_, _, rfl⟩, keep7, rows ++ [r], ys ++ [rv], 0, 0, kxs, hx7, hr7, hw7, hrows, hro', hK7, .inl ⟨rfl, rfl, ?_, fun j hj => ?_, hnd, by omega⟩⟩
        · have e1 : rows.length + 1 - wd = 0 := by omega
          have e2 : (rows ++ [r]).length + 1 - wd = 0 := by omega
          rw [e1] at hkeys
          rw [e2]; exact hkeys
        · omega
    · refine ite_f (decide_eq_false (fun c => by injection c with c; omega)) ?_
      refine q H5 rw rows ys b e (fun c o hc h => hkeep c o hc (s02 _ _ h)) h1 h2 h4 h5 hbe (by omega) (by omega) (by omega) (rows_repeat hO hA w1 (fun {n m lag p} h => hw n m lag p h) fun i hi p n => ?_)
      have e1 : rows[b + i]? = some rows[b + i] := List.getElem?_eq_getElem (by omega)
      have e2 : rows[e + i]? = some rows[e + i] := List.getElem?_eq_getElem (by omega)
      have e4 : rows[b + i] = rows[e + i] := by
        have : (win rows b wd)[i]? = (win rows e wd)[i]? := by rw [hwin]
        rw [win_get hi, win_get hi, e1, e2] at this
        exact Option.some.inj this
      have o1 := h5 _ _ e1
      have o2 := h5 _ _ e2
      rw [e4] at o1
      cases p
      · exact (o1.1 n).symm.trans (o2.1 n)
      · exact (o1.2.1 n).symm.trans (o2.2.1 n)
  · exact fun σ H Q Q' hq ⟨x, e, a, C, dx, fs, v, h0, h1, h2, h3, h4, h5, k, t, z⟩ => ⟨x, e, a, C, dx, fs, v, h0, h1, h2, h3, h4, h5, k, t, hq _ _ z⟩
end
end Own
set_option Elab.async false
set_option linter.all false
/-! a walk's sets, as lag sets -/
namespace Own
open PySem PySem.Spec PyProof.Rows L2
noncomputable def lagF (L : Lin) (z : Str) (p : Bool) (n : Str) : Nat → Bool := fun k => @decide (Pl L z p k n) (Classical.propDecidable _)
theorem lagF_iff {L : Lin} {z n : Str} {p : Bool} {k : Nat} : lagF L z p n k = true ↔ Pl L z p k n := by
  unfold lagF
  exact @decide_eq_true_iff _ (Classical.propDecidable _)
theorem bool_iff {a b : Bool} (h : a = true ↔ b = true) : a = b := by
  cases a <;> cases b <;> simp at h ⊢
theorem lagF_up {L : Lin} (hO : L.Ok) (hA : Acyc L) {z n : Str} {p : Bool} {k : Nat} (hk : 13 ≤ k) (h : lagF L z p n k = true) : lagF L z p n (k + 27720) = true := by
  rw [lagF_iff] at h ⊢
  cases p
  · rcases h with ⟨h, _⟩ | h
    · omega
    · exact .inr (h.later hO hA hk)
  · exact Bg.later hO hA h hk
theorem lagF_per {L : Lin} {z n : Str} {p : Bool} {b e : Nat} (hbe : b < e) (h : ∀ k p n, Pl L z p (b + k) n ↔ Pl L z p (e + k) n) : Per (lagF L z p n) b (e - b) := fun k hk => bool_iff (by
  rw [lagF_iff, lagF_iff]
  have := h (k - b) p n
  rw [show b + (k - b) = k by omega, show e + (k - b) = k + (e - b) by omega] at this
  exact this.symm)
theorem lagF_LL {L : Lin} (hO : L.Ok) (hA : Acyc L) {z n : Str} {p : Bool} {b q : Nat} (hq : 0 < q) (h : Per (lagF L z p n) b q) : Per (lagF L z p n) b 27720 := by
  refine Per.back (t := b + 13) h hq fun k hk => bool_iff ⟨fun hu => ?_, fun hu => lagF_up hO hA (by omega) hu⟩
  have many : ∀ m, lagF L z p n (k + 27720 * (m + 1)) = true := by
    intro m
    induction m with
    | zero => exact hu
    | succ m ih =>
      have := lagF_up hO hA (by omega) ih
      rw [show k + 27720 * (m + 1 + 1) = k + 27720 * (m + 1) + 27720 by omega]
      exact this
  have h1 := many (q - 1)
  have h2 := h.mul 27720 k (by omega)
  rw [show q - 1 + 1 = q by omega] at h1
  rw [← h2]; exact h1
theorem least_LL {L : Lin} (hO : L.Ok) (hA : Acyc L) {z n : Str} {p : Bool} {b q r : Nat} (hr : 0 < r) (h : Per (lagF L z p n) b r) (hq : Per (lagF L z p n) b q) (hd : q ∣ r) (hm : ∀ t, 0 < t → t ∣ r → Per (lagF L z p n) b t → q ≤ t) : q ∣ 27720 := by
  have hq0 : 0 < q := Nat.pos_of_dvd_of_pos hd hr
  have g := hq.gcd (lagF_LL hO hA hr h)
  have g0 : 0 < Nat.gcd q 27720 := Nat.gcd_pos_of_pos_left _ hq0
  have gd : Nat.gcd q 27720 ∣ q := Nat.gcd_dvd_left _ _
  have le := hm _ g0 (Nat.dvd_trans gd hd) g
  have le2 := Nat.le_of_dvd hq0 gd
  have e : Nat.gcd q 27720 = q := by omega
  rw [← e]
  exact Nat.gcd_dvd_right _ _
end Own
set_option Elab.async false
set_option linter.all false
set_option maxRecDepth 100000
set_option maxHeartbeats 4000000
/-! a walk's lag sets -/
namespace Own
open PySem PySem.Spec PyProof.Rows L2 He OwnR
section
variable {P : Program} {w : World} {K : PySem.W.Frag} {mg : Str → Option Value} {base : Heap}
/-- a walk stands at v -/
def WalkAt (K : PySem.W.Frag) (H : Hp) (v : V) (L : Lin) (z : Str) : Prop := ∃ (x dx rw : Addr) (rows : List Row) (ys : List V) (b e : Nat), v = .ref x ∧ H x = some (.ins (ga K "Walk") dx (wfs rw b e)) ∧ H rw = some (.lst ys) ∧ Paired (RowAt K H) rows ys ∧ RowsOk L z rows ∧ b < e ∧ e ≤ 5000 ∧ e ≤ rows.length ∧ rows.length ≤ 6000 ∧ ∀ k p n, Pl L z p (b + k) n ↔ Pl L z p (e + k) n
theorem WalkAt.mono {H H' : Hp} {v : V} {L : Lin} {z : Str} (h : WalkAt K H v L z) (g : Same H H') : WalkAt K H' v L z := by
  obtain ⟨x, dx, rw, rows, ys, b, e, rfl, h1, h2, h3, h4⟩ := h
  exact ⟨x, dx, rw, rows, ys, b, e, rfl, g _ _ h1, g _ _ h2, L2.Paired.mapP h3 fun _ _ z => z.mono (sameI g), h4⟩
theorem LagSP.per {H : Hp} {v : V} {f : Nat → Bool} {s p : Nat} (h : LagSP K H v f s p) : Per f s p := by
  obtain ⟨a, C, dx, tv, _, _, _, t, tf, fl, _, _, _, r⟩ := h
  exact r.per
theorem cut_upto {xs : List V} {j : Nat} (h : j ≤ xs.length) : cutV xs none (some ((j : Nat) : Int)) = xs.take j := by
  unfold cutV
  rw [HT.sIx_none, HT.sIx_nat, List.drop_zero]
  congr 1
  omega
theorem paired_take {α β : Type} {F : α → β → Prop} : ∀ {l : List α} {m : List β} (j : Nat), Paired F l m → Paired F (l.take j) (m.take j)
  | _, _, 0, h => by simpa using Paired.nil
  | _, _, j + 1, .nil => by simpa using Paired.nil
  | _, _, j + 1, .cons r t => .cons r (paired_take j t)
def iB (p : Bool) : Int := if p then 1 else 0
theorem sc_Walk_lags_at : FnScope ["self", "name", "place", "members", "at", "row"] ["self", "name", "place"] (defScope s_Walk_lags_at) := ⟨rfl, rfl, rfl, by decide +kernel, rfl, by decide +kernel, by decide +kernel⟩
theorem b_Walk_lags_at (E : Env K mg base) : Binds K (fdAt K (ma K (ga K "Walk") "lags_at")) ["self", "name", "place"] [] := (f_Walk_lags_at E).bindsN fun _ _ _ _ _ _ us hl => match us, hl with | [_, _, _], _ => rfl
def sp_la (K : PySem.W.Frag) : Sp := fun vs H Q _ => ∃ (v : V) (L : Lin) (z n : Str) (p : Bool), vs = [v, .str n, .int (iB p)] ∧ WalkAt K H v L z ∧ L.Ok ∧ Acyc L ∧ ∀ u H', Same H H' → LagAt K H' u (lagF L z p n) → Q u H'
theorem ok_Walk_lags_at (E : Env K mg base) : FnOk P w K mg base CX0 5 (ma K (ga K "Walk") "lags_at") (fdAt K (ma K (ga K "Walk") "lags_at")) ["self", "name", "place"] ((sp_la K)) := by
  refine okD (f_Walk_lags_at E) sc_Walk_lags_at (fun cdv A outer s H vs Q X hr h => ?_) (fun vs H Q X h => by obtain ⟨_, _, _, _, _, rfl, _⟩ := h; rfl)
  obtain ⟨v, L, z, n, p, rfl, ⟨x, dx, rw, rows, ys, b, e, rfl, hx, hrw, hR, hRO, hbe, he5, her, hr6, hper⟩, hO, hA, q⟩ := h
  have hyl : rows.length = ys.length := Paired.length hR
  refine ⟨_, (pss_cons (ps_setLc (i := 3) (own := [("at", 4), ("row", 5)]) (g := (gTup K 2 (gCons (gName 4) (gCons (gName 5) gNil)))) rfl sc_Walk_lags_at.nd rfl rfl (sw_true rfl rfl rfl (by decide +kernel)) (pi_enum rfl (n_enumerate E) (pa_cons (pe_slice (slL K) (pe_fldK K (pv 0)) po_none (po_some (pe_fldK K (pv 0)))) pa_nil)) (blkOk_by (own := [("at", 4), ("row", 5)]) (N := (["self", "name", "place", "members", "at", "row"] : List Str)) (sc := defScope s_Walk_lags_at) (by decide +kernel)) (fun _ _ _ _ _ => (pg_tup rfl (pgs_cons (pg_name (i := 4) sc_Walk_lags_at.nd rfl (Or.inl rfl)) (pgs_cons (pg_name (i := 5) sc_Walk_lags_at.nd rfl (Or.inl rfl)) pgs_nil)))) (fun _ _ _ _ _ => (pts_one (pt_cmpR (opInK K) (pv 1) (pe_ix (ixT K) (pv 5) (pv 2) (fun _ _ => rfl)) rfl))) (fun _ _ _ _ _ => (pv 4)))
      (pss_one (ps_ret (pe_call (ok_lags_of E) (hr.mono (by decide)) rfl (g_lags_of E) (f_lags_of E).kp (b_lags_of E) .nil pass0 (pa_cons (pv 3) (pa_cons (pe_fldK K (pv 0)) (pa_cons (pe_op op_sub (pe_fldK K (pv 0)) (pe_fldK K (pv 0))) pa_nil))))))), ?_⟩
  refine ⟨_, rfl, x, _, dx, _, .ref rw, rfl, hx, c_Walk E, a_Walk_rows E, rfl, _, rfl, x, _, dx, _, .int (e : Nat), rfl, hx, c_Walk E, a_Walk_end_row E, rfl, _, rfl, rw, ys, rfl, SqL.of hrw, fun p1 hp1 => ?_⟩
  rw [cut_upto (by omega)]
  have s1 : Same H (upd H p1 (.lst (ys.take e))) := sNew hp1
  have h1 : SqL K (upd H p1 (.lst (ys.take e))) p1 (ys.take e) := SqL.of upd_same
  have hl : (ys.take e).length = e := by rw [List.length_take]; omega
  refine ⟨p1, _, rfl, h1, fun D hD => ?_⟩
  have hrows : Paired (RowAt K (upd H p1 (.lst (ys.take e)))) (rows.take e) (ys.take e) := paired_take e (L2.Paired.mapP hR fun _ _ z => z.mono (sameI s1))
  refine lc_map (walk_enum (K := K) (a := p1) (xs := ys.take e)) hD (fun i => .int (i : Nat)) (lagF L z p n) (by omega) (fun H s => s.seq h1) ?_ ?_
  · rintro k y H2 H3 Nk Ns hk s2 ⟨T, y1, y2, rfl, hT, rfl, e1, e2⟩ k1 k2
    obtain rfl : V.int (k : Nat) = y1 := Option.some.inj e1
    obtain ⟨r, er, t, a1, b1, rfl, r1, r2, r3⟩ := pget hrows e2
    have hke : k < e := by omega
    rw [List.getElem?_take_of_lt hke] at er
    have ro := hRO k r er
    have s3 := s2.trans (sNew (o := .tup [.int (k : Nat), .ref t]) hT)
    have got : ∀ (pl : Addr) (zs : List Str), SqT K (upd H2 T (.tup [.int (k : Nat), .ref t])) pl (zs.map V.str) → (n ∈ zs ↔ Pl L z p k n) → ∃ p_1 xs, V.ref pl = V.ref p_1 ∧ (SqL K (upd H2 T (.tup [.int (k : Nat), .ref t])) p_1 xs ∨ SqT K (upd H2 T (.tup [.int (k : Nat), .ref t])) p_1 xs) ∧ flatV (.str n) = true ∧ xs.all flatV = true ∧ ∃ c, V.bl (inV (.str n) xs) = .bl c ∧ (if c = true then (∃ w', (some (some (V.int (k : Nat))) : Option (Option V)) = some (some w') ∧ Nk w' (upd H2 T (.tup [.int (k : Nat), .ref t]))) else Ns (upd H2 T (.tup [.int (k : Nat), .ref t]))) := by
      intro pl zs hz hiff
      refine ⟨pl, _, rfl, .inr hz, rfl, flat_strs' _, ?_⟩
      rw [inV_strs]
      refine ⟨_, rfl, ?_⟩
      by_cases c : n ∈ zs
      · exact ite_t (decide_eq_true c) ⟨_, rfl, k1 (lagF_iff.mpr (hiff.mp c)) _ (sNew hT)⟩
      · refine ite_f (decide_eq_false c) (k2 ?_ _ (sNew hT))
        cases hb : lagF L z p n k with
        | false => rfl
        | true => exact absurd (hiff.mpr (lagF_iff.mp hb)) c
    refine ⟨T, _, rfl, SqT.of upd_same, rfl, _, _, rfl, _, _, rfl, rfl, rfl, _, rfl, _, rfl, _, rfl, ?_⟩
    cases p with
    | true => exact ⟨t, _, _, .ref b1, rfl, rfl, sT s3 r1, rfl, got b1 _ (sT s3 r3) (ro.2.1 n)⟩
    | false => exact ⟨t, _, _, .ref a1, rfl, rfl, sT s3 r1, rfl, got a1 _ (sT s3 r2) (ro.1 n)⟩
  · intro H2 s2 h2
    rw [hl] at h2
    have s02 := s1.trans s2
    have hpf := lagF_per (L := L) (z := z) (n := n) (p := p) hbe hper
    refine ⟨_, rfl, _, rfl, x, _, dx, _, .int (b : Nat), rfl, s02 _ _ hx, c_Walk E, a_Walk_begin_row E, rfl, ?_⟩
    refine ⟨_, rfl, x, _, dx, _, .int (e : Nat), rfl, s02 _ _ hx, c_Walk E, a_Walk_end_row E, rfl, _, rfl, x, _, dx, _, .int (b : Nat), rfl, s02 _ _ hx, c_Walk E, a_Walk_begin_row E, rfl, _, _, rfl, rfl, ?_⟩
    have ee : b + (e - b) = e := by omega
    refine ⟨D, (List.range e).filter (lagF L z p n), lagF L z p n, b, e - b, ?_, SqL.of h2, fun m hm => ?_, by omega, by omega, fun k hk => ?_, hpf, fun u s' q' H3 s3 hL l1 hd hm => ?_⟩
    · show [V.ref D, V.int (b : Nat), V.int ((e : Int) - (b : Int))] = _
      rw [show ((e : Int) - (b : Int)) = ((e - b : Nat) : Int) by omega]
    · have := List.mem_range.mp (List.mem_filter.mp hm).1
      omega
    · refine bool_iff ⟨fun h => decide_eq_true (List.mem_filter.mpr ⟨List.mem_range.mpr (by omega), h⟩), fun h => (List.mem_filter.mp (of_decide_eq_true h)).2⟩
    · exact q u H3 (s02.trans s3) ⟨s', q', hL, by omega, least_LL hO hA (by omega) hpf (hL.per.later l1) hd hm⟩
theorem sc_Walk_ends : FnScope ["self", "name"] ["self", "name"] (defScope s_Walk_ends) := ⟨rfl, rfl, rfl, by decide +kernel, rfl, by decide +kernel, by decide +kernel⟩
theorem b_Walk_ends (E : Env K mg base) : Binds K (fdAt K (ma K (ga K "Walk") "ends")) ["self", "name"] [] := (f_Walk_ends E).bindsN fun _ _ _ _ _ _ us hl => match us, hl with | [_, _], _ => rfl
def sp_we (K : PySem.W.Frag) (p : Bool) : Sp := fun vs H Q _ => ∃ (v : V) (L : Lin) (z n : Str), vs = [v, .str n] ∧ WalkAt K H v L z ∧ L.Ok ∧ Acyc L ∧ ∀ u H', Same H H' → LagAt K H' u (lagF L z p n) → Q u H'
theorem ok_Walk_ends (E : Env K mg base) : FnOk P w K mg base CX0 6 (ma K (ga K "Walk") "ends") (fdAt K (ma K (ga K "Walk") "ends")) ["self", "name"] ((sp_we K false)) := by
  refine okD (f_Walk_ends E) sc_Walk_ends (fun cdv A outer s H vs Q X hr h => ?_) (fun vs H Q X h => by obtain ⟨_, _, _, _, rfl, _⟩ := h; rfl)
  obtain ⟨v, L, z, n, rfl, hW, hO, hA, q⟩ := h
  refine ⟨_, (pss_one (ps_ret (pe_meth (pv 0) (c_Walk E) (m_Walk_lags_at E) (ok_Walk_lags_at E) (hr.mono (by decide)) (b_Walk_lags_at E) .nil pass0 (pa_cons (pv 1) (pa_cons pe_int pa_nil))))), ?_⟩
  obtain ⟨x, dx, rw, rows, ys, b, e, rfl, hx, _⟩ := id hW
  exact ⟨_, rfl, x, dx, _, rfl, hx, rfl, _, rfl, _, L, z, n, false, rfl, hW, hO, hA, q⟩
theorem sc_Walk_begins : FnScope ["self", "name"] ["self", "name"] (defScope s_Walk_begins) := ⟨rfl, rfl, rfl, by decide +kernel, rfl, by decide +kernel, by decide +kernel⟩
theorem b_Walk_begins (E : Env K mg base) : Binds K (fdAt K (ma K (ga K "Walk") "begins")) ["self", "name"] [] := (f_Walk_begins E).bindsN fun _ _ _ _ _ _ us hl => match us, hl with | [_, _], _ => rfl
theorem ok_Walk_begins (E : Env K mg base) : FnOk P w K mg base CX0 6 (ma K (ga K "Walk") "begins") (fdAt K (ma K (ga K "Walk") "begins")) ["self", "name"] ((sp_we K true)) := by
  refine okD (f_Walk_begins E) sc_Walk_begins (fun cdv A outer s H vs Q X hr h => ?_) (fun vs H Q X h => by obtain ⟨_, _, _, _, rfl, _⟩ := h; rfl)
  obtain ⟨v, L, z, n, rfl, hW, hO, hA, q⟩ := h
  refine ⟨_, (pss_one (ps_ret (pe_meth (pv 0) (c_Walk E) (m_Walk_lags_at E) (ok_Walk_lags_at E) (hr.mono (by decide)) (b_Walk_lags_at E) .nil pass0 (pa_cons (pv 1) (pa_cons pe_int pa_nil))))), ?_⟩
  obtain ⟨x, dx, rw, rows, ys, b, e, rfl, hx, _⟩ := id hW
  exact ⟨_, rfl, x, dx, _, rfl, hx, rfl, _, rfl, _, L, z, n, true, rfl, hW, hO, hA, q⟩
theorem sc_walked : FnScope ["line", "name"] ["line", "name"] (defScope s_walked) := ⟨rfl, rfl, rfl, by decide +kernel, rfl, by decide +kernel, by decide +kernel⟩
theorem b_walked (E : Env K mg base) : Binds K (fdAt K (ga K "walked")) ["line", "name"] [] := (f_walked E).bindsN fun _ _ _ _ _ _ us hl => match us, hl with | [_, _], _ => rfl
def sp_wd (K : PySem.W.Frag) : Sp := fun vs H Q _ => ∃ (v : V) (L : Lin) (z : Str), vs = [v, .str z] ∧ LineAt K H v L ∧ L.Ok ∧ Acyc L ∧ ∀ u H', Same H H' → WalkAt K H' u L z → Q u H'
theorem ok_walked (E : Env K mg base) : FnOk P w K mg base CX0 8 (ga K "walked") (fdAt K (ga K "walked")) ["line", "name"] ((sp_wd K)) := by
  refine okD (f_walked E) sc_walked (fun cdv A outer s H vs Q X hr h => ?_) (fun vs H Q X h => by obtain ⟨_, _, _, rfl, _⟩ := h; rfl)
  obtain ⟨v, L, z, rfl, hL, hO, hA, q⟩ := h
  refine ⟨_, (pss_one (ps_ret (pe_make (k_Walk E) (ok_Walk_init E) (hr.mono (by decide)) rfl (g_Walk E) (b_Walk_init E) .nil pass0 (pa_cons (pv 0) (pa_cons (pv 1) pa_nil))))), ?_⟩
  refine ⟨_, rfl, _, rfl, fun x dx hx hd ne => ⟨x, dx, v, L, z, rfl, upd_same, hL.mono (sameI ((sNew hd).trans (sNew ?_))), hO, hA, fun H' rw rows ys b e hk h1 h2 h3 h4 h5 h6 h7 h8 h9 => ?_⟩⟩
  · rw [upd_ne (Ne.symm ne)]; exact hx
  · refine ⟨rfl, q (.ref x) H' (fun c o h => ?_) ⟨x, dx, rw, rows, ys, b, e, rfl, h1, h2, h3, h4, h5, h6, h7, h8, h9⟩⟩
    have hc : c ≠ x := fun e => by rw [e, hx] at h; cases h
    have hcd : c ≠ dx := fun e => by rw [e, hd] at h; cases h
    exact hk c o hc (by rw [upd_ne hc, upd_ne hcd]; exact h)
end
end Own
set_option Elab.async false
set_option linter.all false
/-! one line within another -/
namespace Own
open PySem PySem.Spec PyProof.Rows L2
/-- the lines' timed names -/
def Lin.tmd (L : Lin) : List Str := (L.sts.filter Sta.timed).map Sta.name
structure Sub (L M : Lin) : Prop where
  tm : ∀ n ∈ L.tmd, n ∈ M.tmd
  bt : ∀ z n k, Bg L z k n → Bg M z k n
  out : L.out = M.out
  nm : ∀ n ∈ L.names, n ∈ M.names
theorem Sub.lag {L M : Lin} (h : Sub L M) (z : Str) (p : Bool) (n : Str) (k : Nat) (e : lagF L z p n k = true) : lagF M z p n k = true := by
  rw [lagF_iff] at e ⊢
  cases p
  · exact e.imp id (h.bt z n k)
  · exact h.bt z n k e
theorem Sub.none {L M : Lin} (h : Sub L M) (z : Str) (p : Bool) (n : Str) : (fun k => lagF L z p n k && !lagF M z p n k) = fun _ => false := by
  funext k
  cases e : lagF L z p n k with
  | false => rfl
  | true => rw [h.lag z p n k e]; rfl
theorem tmd_sub {L : Lin} {n : Str} (h : n ∈ L.tmd) : n ∈ L.names := by
  obtain ⟨s, hs, rfl⟩ := List.mem_map.mp h
  exact List.mem_map.mpr ⟨s, (List.mem_filter.mp hs).1, rfl⟩
end Own
set_option Elab.async false
set_option linter.all false
set_option maxRecDepth 100000
set_option maxHeartbeats 4000000
/-! orders -/
namespace Own
open PySem PySem.Spec PyProof.Rows L2 He OwnR
section
variable {P : Program} {w : World} {K : PySem.W.Frag} {mg : Str → Option Value} {base : Heap}
/-- tuples and instances stay -/
structure TI (K : PySem.W.Frag) (H H' : Hp) : Prop where
  tt : TT K H H'
  ins : ∀ a C dx fs, H a = some (.ins C dx fs) → H' a = some (.ins C dx fs)
theorem TI.trans {H1 H2 H3 : Hp} (a : TI K H1 H2) (b : TI K H2 H3) : TI K H1 H3 := ⟨a.tt.trans b.tt, fun c C dx fs h => b.ins _ _ _ _ (a.ins _ _ _ _ h)⟩
theorem TI.same {H H' : Hp} (s : Same H H') : TI K H H' := ⟨TT.same s, fun _ _ _ _ h => s _ _ h⟩
theorem TI.si {H H' : Hp} (s : SameI H H') : TI K H H' := ⟨fun _ _ h => s.seqT h, fun _ _ _ _ h => s _ _ h rfl⟩
theorem TI.upd {H : Hp} {p : Addr} {o o' : HO} (h : H p = some o) (h1 : ∀ xs, o ≠ .tup xs) (h2 : ∀ u xs, o ≠ .frz u (.tup xs)) (h3 : ∀ C dx fs, o ≠ .ins C dx fs) : TI K H (upd H p o') :=
  ⟨TT.upd h h1 h2, fun a C dx fs e => by rw [upd_ne (fun z => by subst z; rw [h] at e; exact h3 _ _ _ (Option.some.inj e))]; exact e⟩
theorem TI.dK {H : Hp} {p : Addr} {k : List (Key × V)} {o' : HO} (h : H p = some (.dK k)) : TI K H (L2.upd H p o') := TI.upd h (fun _ z => by cases z) (fun _ _ z => by cases z) (fun _ _ _ z => by cases z)
theorem TI.dT {H : Hp} {p : Addr} {k : List (List Key × V)} {o' : HO} (h : H p = some (.dT k)) : TI K H (L2.upd H p o') := TI.upd h (fun _ z => by cases z) (fun _ _ z => by cases z) (fun _ _ _ z => by cases z)
theorem FormAt.ti {H H' : Hp} {v : V} {f : Nat → Bool} {s p : Nat} (h : FormAt K H v f s p) (g : TI K H H') : FormAt K H' v f s p := h.monoT g.tt
theorem LagAt.ti {H H' : Hp} {v : V} {f : Nat → Bool} (h : LagAt K H v f) (g : TI K H H') : LagAt K H' v f := by
  obtain ⟨s, p, ⟨a, C, dx, tv, rfl, hC, h1, h2⟩, q⟩ := h
  exact ⟨s, p, ⟨a, C, dx, tv, rfl, hC, g.ins _ _ _ _ h1, h2.ti g⟩, q⟩
theorem StaAt.ti {H H' : Hp} {v : V} {s : Sta} (h : StaAt K H v s) (g : TI K H H') : StaAt K H' v s := by
  obtain ⟨a, dx, t, rfl, h1, h2⟩ := h
  exact ⟨a, dx, t, rfl, g.ins _ _ _ _ h1, g.tt _ _ h2⟩
theorem LnkAt.ti {H H' : Hp} {v : V} {s : Lnk} (h : LnkAt K H v s) (g : TI K H H') : LnkAt K H' v s := by
  obtain ⟨a, dx, t, rfl, h1, h2⟩ := h
  exact ⟨a, dx, t, rfl, g.ins _ _ _ _ h1, g.tt _ _ h2⟩
theorem LineAt.ti {H H' : Hp} {v : V} {s : Lin} (h : LineAt K H v s) (g : TI K H H') : LineAt K H' v s := by
  obtain ⟨a, dx, t, ta, tb, rfl, h1, h2, ⟨xs, h3, h4⟩, ⟨ys, h5, h6⟩⟩ := h
  exact ⟨a, dx, t, ta, tb, rfl, g.ins _ _ _ _ h1, g.tt _ _ h2, ⟨xs, g.tt _ _ h3, L2.Paired.mapP h4 fun _ _ z => z.ti g⟩, ⟨ys, g.tt _ _ h5, L2.Paired.mapP h6 fun _ _ z => z.ti g⟩⟩
theorem LineAt.keep {H H' : Hp} {x : Addr} {v : V} {s : Lin} (h : LineAt K H v s) (g : KeepX K H H' x) : LineAt K H' v s := by
  obtain ⟨a, dx, t, ta, tb, rfl, h1, h2, ⟨xs, h3, h4⟩, ⟨ys, h5, h6⟩⟩ := h
  exact ⟨a, dx, t, ta, tb, rfl, g.2 _ _ _ _ (by simp) h1, g.1 _ _ h2, ⟨xs, g.1 _ _ h3, L2.Paired.mapP h4 fun _ _ z => z.keep g⟩, ⟨ys, g.1 _ _ h5, L2.Paired.mapP h6 fun _ _ z => z.keep g⟩⟩
/-- the walk's list stays as well -/
theorem WalkAt.ti {H H' : Hp} {v : V} {L : Lin} {z : Str} (h : WalkAt K H v L z) (g : TI K H H') (gl : ∀ a xs, H a = some (.lst xs) → H' a = some (.lst xs)) : WalkAt K H' v L z := by
  obtain ⟨x, dx, rw, rows, ys, b, e, rfl, h1, h2, h3, h4⟩ := h
  exact ⟨x, dx, rw, rows, ys, b, e, rfl, g.ins _ _ _ _ h1, gl _ _ h2, L2.Paired.mapP h3 fun _ _ z => z.t g.tt, h4⟩
def ofs (t od fd : Addr) (nn : V) : List (Str × V) := [("known", .ref t), ("outlets", .ref od), ("found", .ref fd), ("none", nn)]
/-- orders stand at v -/
def OrdAt (K : PySem.W.Frag) (H : Hp) (v : V) (L : Lin) (kn : List Str) : Prop := ∃ (x dx t od fd : Addr) (nn : V) (okvs : List (Key × V)) (fkvs : List (List Key × V)), v = .ref x ∧ H x = some (.ins (ga K "Orders") dx (ofs t od fd nn)) ∧ SqT K H t (kn.map V.str) ∧ kn.Perm L.tmd ∧ H od = some (.dK okvs) ∧ H fd = some (.dT fkvs) ∧
  (∀ n ∈ kn, ∃ u, valV okvs (.inr n) = some u ∧ LagAt K H u (lagF L n false L.out)) ∧ ∀ n ∈ kn, ∀ m ∈ kn, ∃ u, valV fkvs [.inr n, .inr m] = some u ∧ LagAt K H u (lagF L n true m)
theorem OrdAt.mono {H H' : Hp} {v : V} {L : Lin} {kn : List Str} (h : OrdAt K H v L kn) (g : SameI H H') : OrdAt K H' v L kn := by
  obtain ⟨x, dx, t, od, fd, nn, okvs, fkvs, rfl, h1, h2, h3, h4, h5, h6, h7⟩ := h
  refine ⟨x, dx, t, od, fd, nn, okvs, fkvs, rfl, g _ _ h1 rfl, g.seqT h2, h3, g _ _ h4 rfl, g _ _ h5 rfl, fun n hn => ?_, fun n hn m hm => ?_⟩
  · obtain ⟨u, a, b⟩ := h6 n hn
    exact ⟨u, a, b.mono g⟩
  · obtain ⟨u, a, b⟩ := h7 n hn m hm
    exact ⟨u, a, b.mono g⟩
/-- Lags() -/
theorem mk_lags0 {σ : L2.St} {H : Hp} {Q : VK} (E : Env K mg base) (q : ∀ v H', Same H H' → LagAt K H' v (fun _ => false) → Q v H') : tMake (ga K "Lags") (sp_li K) [.ref (dfl0 K), .ref (dfl1 K), .int 1] E0 tNil σ H Q := by
  refine fun x dx hx hd ne => ⟨x, dx, dfl0 K, dfl1 K, [], rfl, upd_same, dfl0_ok E _, dfl1_ok E _, (fun _ h => nomatch h), Nat.zero_le _, fun H' tv s hk h1 h2 h3 => ⟨rfl, q (.ref x) H' (fun c o h => ?_) ⟨s, 1, ⟨x, _, dx, tv, rfl, .inl rfl, h1, ?_⟩, by omega, Nat.one_dvd _⟩⟩⟩
  · have hc : c ≠ x := fun e => by rw [e, hx] at h; cases h
    have hcd : c ≠ dx := fun e => by rw [e, hd] at h; cases h
    exact hk c o hc (by rw [upd_ne hc, upd_ne hcd]; exact h)
  · have e : (fun k => decide (k ∈ ([] : List Nat))) = fun _ => false := by funext k; simp
    rw [← e]; exact h2
theorem sc_Orders_init : FnScope ["self", "line", "name", "walk", "other"] ["self", "line"] (defScope s_Orders_init) := ⟨rfl, rfl, rfl, by decide +kernel, rfl, by decide +kernel, by decide +kernel⟩
theorem b_Orders_init (E : Env K mg base) : Binds K (fdAt K (ma K (ga K "Orders") "__init__")) ["self", "line"] [] := (f_Orders_init E).bindsN fun _ _ _ _ _ _ us hl => match us, hl with | [_, _], _ => rfl
def sp_oi (K : PySem.W.Frag) : Sp := fun vs H Q _ => ∃ (x dx : Addr) (v : V) (L : Lin), vs = [.ref x, v] ∧ H x = some (.ins (ga K "Orders") dx []) ∧ LineAt K H v L ∧ L.Ok ∧ Acyc L ∧
  ∀ H' kn, (∀ c o, c ≠ x → H c = some o → H' c = some o) → OrdAt K H' (.ref x) L kn → Q .non H'
/-- the loops' state -/
def OrI (K : PySem.W.Frag) (H0 : Hp) (L : Lin) (x dx t od fd : Addr) (nn : V) (kn : List Str) (a i k : Nat) (H : Hp) : Prop := (∀ c o, c ≠ x → H0 c = some o → H c = some o) ∧ H x = some (.ins (ga K "Orders") dx (ofs t od fd nn)) ∧ SqT K H t (kn.map V.str) ∧
  ∃ okvs fkvs, H od = some (.dK okvs) ∧ H fd = some (.dT fkvs) ∧ okvs.length ≤ a ∧ fkvs.length ≤ i * 8 + k ∧
    (∀ j n, j < a → kn[j]? = some n → ∃ u, valV okvs (.inr n) = some u ∧ LagAt K H u (lagF L n false L.out)) ∧
    ∀ j j' n m, kn[j]? = some n → kn[j']? = some m → (j < i ∨ (j = i ∧ j' < k)) → ∃ u, valV fkvs [.inr n, .inr m] = some u ∧ LagAt K H u (lagF L n true m)
theorem ok_Orders_init (E : Env K mg base) : FnOk P w K mg base CX0 9 (ma K (ga K "Orders") "__init__") (fdAt K (ma K (ga K "Orders") "__init__")) ["self", "line"] ((sp_oi K)) := by
  refine okD (f_Orders_init E) sc_Orders_init (fun cdv A outer s H vs Q X hr h => ?_) (fun vs H Q X h => by obtain ⟨_, _, _, _, rfl, _⟩ := h; rfl)
  obtain ⟨x, dx, v, L, rfl, hx, hL, hO, hA, q⟩ := h
  have e3 : sizeLine = 16777216 := sizeLine_eq
  have n4 := hO.n6
  obtain ⟨la, ldx, lt_, lta, ltb, rfl, hla, _⟩ := id hL
  refine ⟨_, (pss_cons (ps_fld (pv 0) (pe_pr (pv 1) (c_Line E) (p_Line_timed E) (ok_Line_timed E) (hr.mono (by decide)) (bp_Line_timed E) rfl) rfl)
      (pss_cons (ps_asg (pe_tup (pa_cons pe_dnewK (pa_cons pe_dnewT (pa_cons (pe_make0 (k_Lags E) (ok_Lags_init E) (hr.mono (by decide)) rfl (g_Lags E) (bL0 E).choose_spec.2 (bL0 E).choose_spec.1 pass0) pa_nil)))) (pg_tup rfl (pgs_cons (pg_fld (pv 0)) (pgs_cons (pg_fld (pv 0)) (pgs_cons (pg_fld (pv 0)) pgs_nil)))))
      (pss_one (ps_for PassesOwn.never rfl (pi_tup (pe_fldK K (pv 0))) (pg_name (i := 2) sc_Orders_init.nd rfl (Or.inl rfl)) (pss_cons (ps_set (i := 3) sc_Orders_init.nd rfl (Or.inl rfl) (pe_call (ok_walked E) (hr.mono (by decide)) rfl (g_walked E) (f_walked E).kp (b_walked E) .nil pass0 (pa_cons (pv 1) (pa_cons (pv 2) pa_nil))))
      (pss_cons (ps_dput (hu_of hr) (pe_fldK K (pv 0)) (pv 2) (pe_meth (pv 3) (c_Walk E) (m_Walk_ends E) (ok_Walk_ends E) (hr.mono (by decide)) (b_Walk_ends E) .nil pass0 (pa_cons (pe_pr (pv 1) (c_Line E) (p_Line_outlet E) (ok_Line_outlet E) (hr.mono (by decide)) (bp_Line_outlet E) rfl) pa_nil)) rfl)
      (pss_one (ps_for PassesOwn.never rfl (pi_tup (pe_fldK K (pv 0))) (pg_name (i := 4) sc_Orders_init.nd rfl (Or.inl rfl)) (pss_one (ps_dput (hu_of hr) (pe_fldK K (pv 0)) (pe_tup (pa_cons (pv 2) (pa_cons (pv 4) pa_nil))) (pe_meth (pv 3) (c_Walk E) (m_Walk_begins E) (ok_Walk_begins E) (hr.mono (by decide)) (b_Walk_begins E) .nil pass0 (pa_cons (pv 4) pa_nil)) rfl)))))))))), ?_⟩
  refine ⟨_, rfl, la, ldx, _, rfl, hla, _, L, rfl, hL, by omega, fun H1 t kn s1 hperm h1 => ?_⟩
  have hx1 := s1 _ _ hx
  refine ⟨_, rfl, x, _, dx, [], rfl, hx1, c_Orders E, a_Orders_known E, (by show 0 < 1000; decide), ?_⟩
  have h1x : SqT K (upd H1 x (.ins (ga K "Orders") dx [("known", .ref t)])) t (kn.map V.str) := (TT.upd hx1 (fun _ z => by cases z) (fun _ _ z => by cases z)) _ _ h1
  have k1 : ∀ c o, c ≠ x → H c = some o → upd H1 x (.ins (ga K "Orders") dx [("known", .ref t)]) c = some o := fun c o hc h => by rw [upd_ne hc]; exact s1 _ _ h
  have hx2 : upd H1 x (.ins (ga K "Orders") dx [("known", .ref t)]) x = some (.ins (ga K "Orders") dx [("known", .ref t)]) := upd_same
  refine fun od hod' => ?_
  refine fun fd hfd' => ?_
  refine mk_lags0 E fun nn H3 s3' hnn => ?_
  obtain ⟨H2, eH2⟩ : ∃ H2, H2 = upd H1 x (.ins (ga K "Orders") dx [("known", .ref t)]) := ⟨_, rfl⟩
  have hod : H2 od = none := by rw [eH2]; exact hod'
  have hfd : upd H2 od (.dK []) fd = none := by rw [eH2]; exact hfd'
  have s3 : Same (upd (upd H2 od (.dK [])) fd (.dT [])) H3 := by rw [eH2]; exact s3'
  rw [← eH2] at h1x k1 hx2
  clear hod' hfd' s3'
  refine ⟨by show 3 ≤ sizeLine; omega, fun tp htp => ?_⟩
  have s23 : Same H2 H3 := ((sNew hod).trans (sNew hfd)).trans s3
  have hod3 : H3 od = some (.dK []) := s3 _ _ (sNew hfd _ _ upd_same)
  have hfd3 : H3 fd = some (.dT []) := s3 _ _ upd_same
  have hodH : H od = none := by
    cases e : H od with
    | none => rfl
    | some o =>
      have : od ≠ x := fun e => by rw [e, hx2] at hod; cases hod
      exact absurd (k1 _ _ this e) (by rw [hod]; exact fun z => nomatch z)
  have hfdH : H fd = none := by
    cases e : H fd with
    | none => rfl
    | some o =>
      have : fd ≠ x := fun e => by rw [e, (sNew (o := .dK []) hod) _ _ hx2] at hfd; cases hfd
      exact absurd ((sNew (o := .dK []) hod) _ _ (k1 _ _ this e)) (by rw [hfd]; exact fun z => nomatch z)
  have hx3 := s23 _ _ hx2
  have s4 : Same H3 (upd H3 tp (.tup [.ref od, .ref fd, nn])) := sNew htp
  refine ⟨tp, _, rfl, SqT.of upd_same, rfl, _, _, rfl, ?_⟩
  refine ⟨_, rfl, x, _, dx, _, rfl, s4 _ _ hx3, c_Orders E, a_Orders_outlets E, (by show 1 < 1000; decide), ?_⟩
  refine ⟨_, _, rfl, _, rfl, x, _, dx, _, rfl, upd_same, c_Orders E, a_Orders_found E, (by show 2 < 1000; decide), ?_⟩
  refine ⟨_, _, rfl, _, rfl, x, _, dx, _, rfl, upd_same, c_Orders E, a_Orders_none E, (by show 3 < 1000; decide), rfl, ?_⟩
  rw [upd_upd, upd_upd]
  have tt5 : TT K (upd H3 tp (.tup [.ref od, .ref fd, nn])) (upd (upd H3 tp (.tup [.ref od, .ref fd, nn])) x (.ins (ga K "Orders") dx (ofs t od fd nn))) := TT.upd (s4 _ _ hx3) (fun _ z => by cases z) (fun _ _ z => by cases z)
  have nox : od ≠ x := fun e => by rw [e, hx3] at hod3; cases hod3
  have nfx : fd ≠ x := fun e => by rw [e, hx3] at hfd3; cases hfd3
  have nof : od ≠ fd := fun e => by rw [e, hfd3] at hod3; cases hod3
  have hI : OrI K H L x dx t od fd nn kn 0 0 0 (upd (upd H3 tp (.tup [.ref od, .ref fd, nn])) x (.ins (ga K "Orders") dx (ofs t od fd nn))) := by
    refine ⟨fun c o hc h => ?_, upd_same, tt5 _ _ (sT (s23.trans s4) h1x), [], [], ?_, ?_, Nat.le_refl _, Nat.le_refl _, fun j n h => by omega, fun j j' n m _ _ h => by omega⟩
    · rw [upd_ne hc]; exact s4 _ _ (s23 _ _ (k1 c o hc h))
    · rw [upd_ne nox]; exact s4 _ _ hod3
    · rw [upd_ne nfx]; exact s4 _ _ hfd3
  have hkl : kn.length ≤ 4 := by
    rw [hperm.length_eq, List.length_map]
    have := List.length_filter_le Sta.timed L.sts
    omega
  refine ⟨_, rfl, x, _, dx, _, .ref t, rfl, hI.2.1, c_Orders E, a_Orders_known E, rfl, t, rfl, ⟨_, hI.2.2.1⟩, ?_⟩
  refine for_it (walk_tup (K := K) (a := t) (xs := kn.map V.str)) (fun i σ H' => (∃ v2 v3 v4, σ = [some (.ref x), some (.ref la), v2, v3, v4]) ∧ OrI K H L x dx t od fd nn kn i i 0 H') ⟨⟨_, _, _, rfl⟩, hI⟩ (fun i σ H' _ h => h.2.2.2.1) ?_ ?_
  · rintro i y σ H8 H7 hi ⟨⟨v2, v3, v4, rfl⟩, hk, hx7, hkn, okvs, fkvs, ho7, hf7, lo, lf, hOu, hFo⟩ ⟨rfl, hy⟩
    obtain ⟨n, en, rfl⟩ := map_get hy
    have hi4 : i < 4 := by rw [List.length_map] at hi; omega
    have kx7 : KeepX K H H7 x := keepX_of hx hk
    have hL7 : LineAt K H7 (.ref la) L := hL.keep kx7
    refine ⟨_, rfl, _, rfl, _, L, n, rfl, hL7, hO, hA, fun wk H9 s9 hW => ?_⟩
    obtain ⟨wx, wdx, wrw, wrows, wys, wb, we, rfl, hwx, _⟩ := id hW
    have hL9 := hL7.mono (sameI s9)
    obtain ⟨la', ldx', lt', lta', ltb', elr, hla9, _⟩ := id hL9
    cases elr
    refine ⟨_, rfl, wx, wdx, _, rfl, hwx, rfl, _, rfl, la, ldx', _, rfl, hla9, _, L, rfl, hL9, _, L, n, L.out, rfl, hW, hO, hA, fun u H10 s10 hu => ?_⟩
    have s710 := s9.trans s10
    have hx10 := s710 _ _ hx7
    refine ⟨_, rfl, x, _, dx, _, .ref od, rfl, hx10, c_Orders E, a_Orders_outlets E, rfl, _, rfl, od, _, rfl, .inl ⟨okvs, .inr n, s710 _ _ ho7, rfl, by omega, rfl⟩, ?_⟩
    have g11 : TI K H10 (upd H10 od (.dK (putK okvs (.inr n) u))) := TI.dK (s710 _ _ ho7)
    have hx11 := g11.ins _ _ _ _ hx10
    have hW11 : WalkAt K (upd H10 od (.dK (putK okvs (.inr n) u))) (.ref wx) L n := (hW.mono s10).ti g11 fun a xs h => by
      rw [upd_ne (ne_of h (s710 _ _ ho7) (fun z => by cases z))]; exact h
    have hI11 : OrI K H L x dx t od fd nn kn (i + 1) i 0 (upd H10 od (.dK (putK okvs (.inr n) u))) := by
      refine ⟨fun c o hc h => ?_, hx11, g11.tt _ _ (sT s710 hkn), _, fkvs, upd_same, ?_, Nat.le_trans (putK_len' _ _ _) (by omega), lf, fun j m hj hm => ?_, fun j j' n m h1 h2 h3 => ?_⟩
      · rw [upd_ne (fun e => by rw [e, hodH] at h; cases h)]
        exact s710 _ _ (hk c o hc h)
      · rw [upd_ne (Ne.symm nof)]; exact s710 _ _ hf7
      · rw [valV_put]
        by_cases c : (Sum.inr m : Key) = .inr n
        · rw [if_pos c]
          have : m = n := Sum.inr.inj c
          subst this
          exact ⟨u, rfl, hu.ti g11⟩
        · rw [if_neg c]
          rcases Nat.lt_or_ge j i with h | h
          · obtain ⟨u', e, hl⟩ := hOu j m h hm
            exact ⟨u', e, (hl.mono (sameI s710)).ti g11⟩
          · have : j = i := by omega
            subst this
            obtain rfl := Option.some.inj (hm.symm.trans en)
            exact absurd rfl c
      · obtain ⟨u', e, hl⟩ := hFo j j' n m h1 h2 h3
        exact ⟨u', e, (hl.mono (sameI s710)).ti g11⟩
    refine ⟨_, rfl, x, _, dx, _, .ref t, rfl, hx11, c_Orders E, a_Orders_known E, rfl, t, rfl, ⟨_, hI11.2.2.1⟩, ?_⟩
    refine for_it (walk_tup (K := K) (a := t) (xs := kn.map V.str)) (fun k σ H' => (∃ v4, σ = [some (.ref x), some (.ref la), some (.str n), some (.ref wx), v4]) ∧ OrI K H L x dx t od fd nn kn (i + 1) i k H' ∧ WalkAt K H' (.ref wx) L n) ⟨⟨_, rfl⟩, hI11, hW11⟩ (fun i σ H' _ h => h.2.1.2.2.1) ?_ ?_
    · rintro k y σ H12 H13 hk' ⟨⟨v5, rfl⟩, ⟨hk3, hx3, hkn3, ok3, fk3, ho3, hf3, lo3, lf3, hOu3, hFo3⟩, hW3⟩ ⟨rfl, hy⟩
      obtain ⟨m, em, rfl⟩ := map_get hy
      have hk4 : k < 4 := by rw [List.length_map] at hk'; omega
      obtain ⟨wx', wdx', wrw', wrows', wys', wb', we', ew, hwx', _⟩ := id hW3
      cases ew
      refine ⟨_, rfl, wx, wdx', _, rfl, hwx', rfl, _, rfl, _, L, n, m, rfl, hW3, hO, hA, fun u2 H14 s14 hu2 => ?_⟩
      refine ⟨_, rfl, x, _, dx, _, .ref fd, rfl, s14 _ _ hx3, c_Orders E, a_Orders_found E, rfl, _, rfl, _, rfl, by show 2 ≤ sizeLine; omega, fun p hp => ?_⟩
      have s15 : Same H14 (upd H14 p (.tup [.str n, .str m])) := sNew hp
      have s135 := s14.trans s15
      have hfd15 := s135 _ _ hf3
      refine ⟨fd, _, rfl, .inr ⟨fk3, [.inr n, .inr m], p, hfd15, rfl, upd_same, by omega, rfl⟩, ⟨_, rfl⟩, ?_, ?_⟩
      · have g16 : TI K (upd H14 p (.tup [.str n, .str m])) (upd (upd H14 p (.tup [.str n, .str m])) fd (.dT (putK fk3 [.inr n, .inr m] u2))) := TI.dT hfd15
        refine ⟨fun c o hc h => ?_, g16.ins _ _ _ _ (s135 _ _ hx3), g16.tt _ _ (sT s135 hkn3), ok3, _, ?_, upd_same, lo3, Nat.le_trans (putK_len' _ _ _) (by omega), fun j m hj hm => ?_, fun j j' n' m' h1 h2 h3 => ?_⟩
        · rw [upd_ne (fun e => by rw [e, hfdH] at h; cases h)]
          exact s135 _ _ (hk3 c o hc h)
        · rw [upd_ne nof]; exact s135 _ _ ho3
        · obtain ⟨u', e, hl⟩ := hOu3 j m hj hm
          exact ⟨u', e, (hl.mono (sameI s135)).ti g16⟩
        · rw [valV_put]
          by_cases c : ([.inr n', .inr m'] : List Key) = [.inr n, .inr m]
          · rw [if_pos c]
            have c' := c
            simp only [List.cons.injEq, Sum.inr.injEq, and_true] at c'
            obtain ⟨rfl, rfl⟩ := c'
            exact ⟨u2, rfl, (hu2.mono (sameI s15)).ti g16⟩
          · rw [if_neg c]
            have h3' : j < i ∨ (j = i ∧ j' < k) := by
              rcases h3 with h | ⟨h, h'⟩
              · exact .inl h
              · refine .inr ⟨h, ?_⟩
                rcases Nat.lt_or_ge j' k with q | q
                · exact q
                · have : j' = k := by omega
                  subst this
                  subst h
                  obtain rfl := Option.some.inj (h1.symm.trans en)
                  obtain rfl := Option.some.inj (h2.symm.trans em)
                  exact absurd rfl c
            obtain ⟨u', e, hl⟩ := hFo3 j j' n' m' h1 h2 h3'
            exact ⟨u', e, (hl.mono (sameI s135)).ti g16⟩
      · exact (hW3.mono s135).ti (TI.dT hfd15) fun a xs h => by
          rw [upd_ne (ne_of h hfd15 (fun z => by cases z))]; exact h
    · rintro σ H12 ⟨⟨v5, rfl⟩, ⟨hk3, hx3, hkn3, ok3, fk3, ho3, hf3, lo3, lf3, hOu3, hFo3⟩, hW3⟩
      rw [List.length_map] at lf3 hFo3
      refine ⟨⟨_, _, _, rfl⟩, hk3, hx3, hkn3, ok3, fk3, ho3, hf3, lo3, by omega, hOu3, fun j j' n' m' h1 h2 h3 => hFo3 j j' n' m' h1 h2 ?_⟩
      rcases h3 with h | ⟨_, h⟩
      · have hj' := (List.getElem?_eq_some_iff.mp h2).1
        rcases Nat.lt_or_ge j i with q | q
        · exact .inl q
        · exact .inr ⟨by omega, hj'⟩
      · omega
  · rintro σ H7 ⟨⟨v2, v3, v4, rfl⟩, hk, hx7, hkn, okvs, fkvs, ho7, hf7, lo, lf, hOu, hFo⟩
    rw [List.length_map] at hOu hFo
    refine q H7 kn hk ⟨x, dx, t, od, fd, nn, okvs, fkvs, rfl, hx7, hkn, hperm, ho7, hf7, fun n hn => ?_, fun n hn m hm => ?_⟩
    · obtain ⟨j, hj, e⟩ := List.mem_iff_getElem.mp hn
      exact hOu j n hj (by rw [List.getElem?_eq_getElem hj, e])
    · obtain ⟨j, hj, e⟩ := List.mem_iff_getElem.mp hn
      obtain ⟨j', hj', e'⟩ := List.mem_iff_getElem.mp hm
      exact hFo j j' n m (by rw [List.getElem?_eq_getElem hj, e]) (by rw [List.getElem?_eq_getElem hj', e']) (.inl hj)
end
end Own
set_option Elab.async false
set_option linter.all false
set_option maxRecDepth 100000
set_option maxHeartbeats 4000000
/-! orders: what they tell -/
namespace Own
open PySem PySem.Spec PyProof.Rows L2 He OwnR
section
variable {P : Program} {w : World} {K : PySem.W.Frag} {mg : Str → Option Value} {base : Heap}
theorem sc_Orders_to_outlet : FnScope ["self", "name"] ["self", "name"] (defScope s_Orders_to_outlet) := ⟨rfl, rfl, rfl, by decide +kernel, rfl, by decide +kernel, by decide +kernel⟩
theorem b_Orders_to_outlet (E : Env K mg base) : Binds K (fdAt K (ma K (ga K "Orders") "to_outlet")) ["self", "name"] [] := (f_Orders_to_outlet E).bindsN fun _ _ _ _ _ _ us hl => match us, hl with | [_, _], _ => rfl
def sp_to (K : PySem.W.Frag) : Sp := fun vs H Q _ => ∃ (v : V) (L : Lin) (kn : List Str) (n : Str), vs = [v, .str n] ∧ OrdAt K H v L kn ∧ n ∈ kn ∧ ∀ u, LagAt K H u (lagF L n false L.out) → Q u H
theorem ok_Orders_to_outlet (E : Env K mg base) : FnOk P w K mg base CX0 1 (ma K (ga K "Orders") "to_outlet") (fdAt K (ma K (ga K "Orders") "to_outlet")) ["self", "name"] ((sp_to K)) := by
  refine okD (f_Orders_to_outlet E) sc_Orders_to_outlet (fun cdv A outer s H vs Q X hr h => ?_) (fun vs H Q X h => by obtain ⟨_, _, _, _, rfl, _⟩ := h; rfl)
  obtain ⟨v, L, kn, n, rfl, ⟨x, dx, t, od, fd, nn, okvs, fkvs, rfl, hx, hkn, hperm, ho, hf, hO, hF⟩, hn, q⟩ := h
  refine ⟨_, (pss_one (ps_ret (pe_dget2 (hu_of hr) (pe_fldK K (pv 0)) (pv 1) (pe_fldK K (pv 0)) (by constructor <;> rfl)))), ?_⟩
  obtain ⟨u, e, hu⟩ := hO n hn
  have g := DGet.k (H := H) (a := od) (kvs := okvs) (k := .inr n) ho
  rw [e] at g
  exact ⟨_, rfl, x, _, dx, _, .ref od, rfl, hx, c_Orders E, a_Orders_outlets E, rfl, od, rfl, .inl ⟨_, .inl ho⟩, _, rfl, _, rfl, x, _, dx, _, nn, rfl, hx, c_Orders E, a_Orders_none E, rfl, _, g, q u hu⟩
theorem sc_Orders_between : FnScope ["self", "name", "other"] ["self", "name", "other"] (defScope s_Orders_between) := ⟨rfl, rfl, rfl, by decide +kernel, rfl, by decide +kernel, by decide +kernel⟩
theorem b_Orders_between (E : Env K mg base) : Binds K (fdAt K (ma K (ga K "Orders") "between")) ["self", "name", "other"] [] := (f_Orders_between E).bindsN fun _ _ _ _ _ _ us hl => match us, hl with | [_, _, _], _ => rfl
def sp_bt (K : PySem.W.Frag) : Sp := fun vs H Q _ => ∃ (v : V) (L : Lin) (kn : List Str) (n m : Str), vs = [v, .str n, .str m] ∧ OrdAt K H v L kn ∧ n ∈ kn ∧ m ∈ kn ∧ ∀ u H', Same H H' → LagAt K H' u (lagF L n true m) → Q u H'
theorem ok_Orders_between (E : Env K mg base) : FnOk P w K mg base CX0 1 (ma K (ga K "Orders") "between") (fdAt K (ma K (ga K "Orders") "between")) ["self", "name", "other"] ((sp_bt K)) := by
  refine okD (f_Orders_between E) sc_Orders_between (fun cdv A outer s H vs Q X hr h => ?_) (fun vs H Q X h => by obtain ⟨_, _, _, _, _, rfl, _⟩ := h; rfl)
  obtain ⟨v, L, kn, n, m, rfl, ⟨x, dx, t, od, fd, nn, okvs, fkvs, rfl, hx, hkn, hperm, ho, hf, hO, hF⟩, hn, hm, q⟩ := h
  have e3 : sizeLine = 16777216 := sizeLine_eq
  refine ⟨_, (pss_one (ps_ret (pe_dget2 (hu_of hr) (pe_fldK K (pv 0)) (pe_tup (pa_cons (pv 1) (pa_cons (pv 2) pa_nil))) (pe_fldK K (pv 0)) (by constructor <;> rfl)))), ?_⟩
  obtain ⟨u, e, hu⟩ := hF n hn m hm
  refine ⟨_, rfl, x, _, dx, _, .ref fd, rfl, hx, c_Orders E, a_Orders_found E, rfl, fd, rfl, .inr ⟨_, .inl hf⟩, _, rfl, _, rfl, by show 2 ≤ sizeLine; omega, fun p hp => ?_⟩
  have s1 : Same H (upd H p (.tup [.str n, .str m])) := sNew hp
  have g := DGet.t (H := upd H p (.tup [.str n, .str m])) (a := fd) (b := p) (kvs := fkvs) (k := [.inr n, .inr m]) (s1 _ _ hf) upd_same
  rw [e] at g
  exact ⟨_, rfl, x, _, dx, _, nn, rfl, s1 _ _ hx, c_Orders E, a_Orders_none E, rfl, _, g, q u _ s1 (hu.mono (sameI s1))⟩
/-- a task -/
def TaskAt (K : PySem.W.Frag) (H : Hp) (v : V) (n : Str) (i : Nat) : Prop := ∃ t, v = .ref t ∧ SqT K H t [.str n, .int (i : Nat)]
theorem TaskAt.mono {H H' : Hp} {v : V} {n : Str} {i : Nat} (h : TaskAt K H v n i) (g : SameI H H') : TaskAt K H' v n i := by
  obtain ⟨t, rfl, h⟩ := h
  exact ⟨t, rfl, g.seqT h⟩
theorem sc_Orders_is_before : FnScope ["self", "task", "other"] ["self", "task", "other"] (defScope s_Orders_is_before) := ⟨rfl, rfl, rfl, by decide +kernel, rfl, by decide +kernel, by decide +kernel⟩
theorem b_Orders_is_before (E : Env K mg base) : Binds K (fdAt K (ma K (ga K "Orders") "is_before")) ["self", "task", "other"] [] := (f_Orders_is_before E).bindsN fun _ _ _ _ _ _ us hl => match us, hl with | [_, _, _], _ => rfl
def sp_isb (K : PySem.W.Frag) : Sp := fun vs H Q _ => ∃ (v ta tb : V) (L : Lin) (kn : List Str) (n m : Str) (i d : Nat), vs = [v, ta, tb] ∧ OrdAt K H v L kn ∧ n ∈ kn ∧ m ∈ kn ∧ TaskAt K H ta n i ∧ TaskAt K H tb m (i + d) ∧ lagF L n true m d = true ∧ ∀ H', Same H H' → Q (.bl true) H'
theorem ok_Orders_is_before (E : Env K mg base) : FnOk P w K mg base CX0 4 (ma K (ga K "Orders") "is_before") (fdAt K (ma K (ga K "Orders") "is_before")) ["self", "task", "other"] ((sp_isb K)) := by
  refine okD (f_Orders_is_before E) sc_Orders_is_before (fun cdv A outer s H vs Q X hr h => ?_) (fun vs H Q X h => by obtain ⟨_, _, _, _, _, _, _, _, _, rfl, _⟩ := h; rfl)
  obtain ⟨v, ta, tb, L, kn, n, m, i, d, rfl, hOr, hn, hm, ⟨t1, rfl, h1⟩, ⟨t2, rfl, h2⟩, hd, q⟩ := h
  obtain ⟨x, dx, t, od, fd, nn, okvs, fkvs, rfl, hx, _⟩ := id hOr
  refine ⟨_, (pss_one (ps_ret (pe_cmpR (op_inOwn (q_contains E) (ok_Lags_contains E) (hr.mono (by decide)) (b_Lags_contains E)) (pe_op op_sub (pe_ix (ixT K) (pv 2) pe_int (fun _ _ => rfl)) (pe_ix (ixT K) (pv 1) pe_int (fun _ _ => rfl))) (pe_meth (pv 0) (c_Orders E) (m_Orders_between E) (ok_Orders_between E) (hr.mono (by decide)) (b_Orders_between E) .nil pass0 (pa_cons (pe_ix (ixT K) (pv 1) pe_int (fun _ _ => rfl)) (pa_cons (pe_ix (ixT K) (pv 2) pe_int (fun _ _ => rfl)) pa_nil))) rfl))), ?_⟩
  refine ⟨_, rfl, t2, _, _, .int ((i + d : Nat) : Int), rfl, rfl, h2, rfl, _, rfl, t1, _, _, .int (i : Nat), rfl, rfl, h1, rfl, _, _, rfl, rfl, ?_⟩
  refine ⟨_, rfl, x, dx, _, rfl, hx, rfl, _, rfl, t1, _, _, .str n, rfl, rfl, h1, rfl, _, rfl, t2, _, _, .str m, rfl, rfl, h2, rfl, _, L, kn, n, m, rfl, hOr, hn, hm, fun u H' s' hu => ?_⟩
  obtain ⟨s, p, ⟨a, C, dx2, tv, rfl, hC, ha, hF⟩, hq⟩ := id hu
  refine ⟨a, C, dx2, _, rfl, hC, ha, _, lagF L n true m, ((i + d : Nat) : Int) - (i : Nat), rfl, hu, ?_⟩
  have e : ((i + d : Nat) : Int) - (i : Nat) = (d : Nat) := by omega
  rw [e, Int.toNat_natCast, hd, decide_eq_true (by omega)]
  exact ⟨true, rfl, q H' s'⟩
theorem sc_Orders_are_in_sequence : FnScope ["self", "task", "other"] ["self", "task", "other"] (defScope s_Orders_are_in_sequence) := ⟨rfl, rfl, rfl, by decide +kernel, rfl, by decide +kernel, by decide +kernel⟩
theorem b_Orders_are_in_sequence (E : Env K mg base) : Binds K (fdAt K (ma K (ga K "Orders") "are_in_sequence")) ["self", "task", "other"] [] := (f_Orders_are_in_sequence E).bindsN fun _ _ _ _ _ _ us hl => match us, hl with | [_, _, _], _ => rfl
theorem ok_Orders_are_in_sequence (E : Env K mg base) : FnOk P w K mg base CX0 5 (ma K (ga K "Orders") "are_in_sequence") (fdAt K (ma K (ga K "Orders") "are_in_sequence")) ["self", "task", "other"] ((sp_isb K)) := by
  refine okD (f_Orders_are_in_sequence E) sc_Orders_are_in_sequence (fun cdv A outer s H vs Q X hr h => ?_) (fun vs H Q X h => by obtain ⟨_, _, _, _, _, _, _, _, _, rfl, _⟩ := h; rfl)
  obtain ⟨v, ta, tb, L, kn, n, m, i, d, rfl, hOr, hn, hm, h1, h2, hd, q⟩ := h
  obtain ⟨x, dx, t, od, fd, nn, okvs, fkvs, rfl, hx, _⟩ := id hOr
  refine ⟨_, (pss_one (ps_ret (pe_or (pe_meth (pv 0) (c_Orders E) (m_Orders_is_before E) (ok_Orders_is_before E) (hr.mono (by decide)) (b_Orders_is_before E) .nil pass0 (pa_cons (pv 1) (pa_cons (pv 2) pa_nil))) (pe_one (pe_meth (pv 0) (c_Orders E) (m_Orders_is_before E) (ok_Orders_is_before E) (hr.mono (by decide)) (b_Orders_is_before E) .nil pass0 (pa_cons (pv 2) (pa_cons (pv 1) pa_nil))))))), ?_⟩
  refine ⟨_, rfl, x, dx, _, rfl, hx, rfl, _, rfl, _, rfl, _, ta, tb, L, kn, n, m, i, d, rfl, hOr, hn, hm, h1, h2, hd, fun H' s' => ⟨_, rfl, ite_t rfl (q H' s')⟩⟩
theorem sc_order_lags : FnScope ["line", "first", "second"] ["line", "first", "second"] (defScope s_order_lags) := ⟨rfl, rfl, rfl, by decide +kernel, rfl, by decide +kernel, by decide +kernel⟩
theorem b_order_lags (E : Env K mg base) : Binds K (fdAt K (ga K "order_lags")) ["line", "first", "second"] [] := (f_order_lags E).bindsN fun _ _ _ _ _ _ us hl => match us, hl with | [_, _, _], _ => rfl
def sp_ol (K : PySem.W.Frag) : Sp := fun vs H Q _ => ∃ (v : V) (L : Lin) (n m : Str), vs = [v, .str n, .str m] ∧ LineAt K H v L ∧ L.Ok ∧ Acyc L ∧ n ∈ L.names ∧ m ∈ L.names ∧ ∀ u H', Same H H' → LagAt K H' u (lagF L n true m) → Q u H'
theorem ok_order_lags (E : Env K mg base) : FnOk P w K mg base CX0 15 (ga K "order_lags") (fdAt K (ga K "order_lags")) ["line", "first", "second"] ((sp_ol K)) := by
  refine okD (f_order_lags E) sc_order_lags (fun cdv A outer s H vs Q X hr h => ?_) (fun vs H Q X h => by obtain ⟨_, _, _, _, rfl, _⟩ := h; rfl)
  obtain ⟨v, L, n, m, rfl, hL, hO, hA, hn, hm, q⟩ := h
  have n4 := hO.n6
  have e3 : sizeLine = 16777216 := sizeLine_eq
  refine ⟨_, (pss_cons (ps_expr (pe_call (ok_check_line E) (hr.mono (by decide)) rfl (g_check_line E) (f_check_line E).kp (b_check_line E) .nil pass0 (pa_cons (pv 0) pa_nil)))
      (pss_cons (ps_expr (pe_call (ok_check_station E) (hr.mono (by decide)) rfl (g_check_station E) (f_check_station E).kp (b_check_station E) .nil pass0 (pa_cons (pv 0) (pa_cons (pv 1) pa_nil))))
      (pss_cons (ps_expr (pe_call (ok_check_station E) (hr.mono (by decide)) rfl (g_check_station E) (f_check_station E).kp (b_check_station E) .nil pass0 (pa_cons (pv 0) (pa_cons (pv 2) pa_nil))))
      (pss_cons (ps_expr (pe_callR (E := E0) (ok_check_free E) (hr.mono (by decide)) (f_check_free E).kp rfl (g_check_free E) pass0 (pa_cons (pv 0) pa_nil)))
      (pss_one (ps_ret (pe_meth (pe_call (ok_walked E) (hr.mono (by decide)) rfl (g_walked E) (f_walked E).kp (b_walked E) .nil pass0 (pa_cons (pv 0) (pa_cons (pv 1) pa_nil))) (c_Walk E) (m_Walk_begins E) (ok_Walk_begins E) (hr.mono (by decide)) (b_Walk_begins E) .nil pass0 (pa_cons (pv 2) pa_nil)))))))), ?_⟩
  refine ⟨_, rfl, v, L, rfl, hL, ?_⟩
  refine ⟨_, rfl, _, rfl, v, L, n, rfl, hL, by omega, hn, fun H1 s1 => ?_⟩
  refine ⟨_, rfl, _, rfl, v, L, m, rfl, hL.mono (sameI s1), by omega, hm, fun H2 s2 => ?_⟩
  have s02 := s1.trans s2
  refine ⟨_, rfl, [], [v], rfl, rfl, by show 1 ≤ sizeLine; omega, fun p hp => ⟨p, [v], [L], rfl, SqT.of upd_same, .cons ⟨hL.mono (sameI (s02.trans (sNew hp))), hO, hA⟩ .nil, fun H3 s3 => ?_⟩⟩
  have s03 := (s02.trans (sNew hp)).trans s3
  refine ⟨_, rfl, _, rfl, v, L, n, rfl, hL.mono (sameI s03), hO, hA, fun wk H4 s4 hW => ?_⟩
  obtain ⟨wx, wdx, wrw, wrows, wys, wb, we, rfl, hwx, _⟩ := id hW
  exact ⟨wx, wdx, _, rfl, hwx, rfl, _, rfl, _, L, n, m, rfl, hW, hO, hA, fun u H5 s5 hu => q u H5 ((s03.trans s4).trans s5) hu⟩
theorem sc_outlet_lags : FnScope ["line", "station"] ["line", "station"] (defScope s_outlet_lags) := ⟨rfl, rfl, rfl, by decide +kernel, rfl, by decide +kernel, by decide +kernel⟩
theorem b_outlet_lags (E : Env K mg base) : Binds K (fdAt K (ga K "outlet_lags")) ["line", "station"] [] := (f_outlet_lags E).bindsN fun _ _ _ _ _ _ us hl => match us, hl with | [_, _], _ => rfl
def sp_otl (K : PySem.W.Frag) : Sp := fun vs H Q _ => ∃ (v : V) (L : Lin) (n : Str), vs = [v, .str n] ∧ LineAt K H v L ∧ L.Ok ∧ Acyc L ∧ n ∈ L.names ∧ ∀ u H', Same H H' → LagAt K H' u (lagF L n false L.out) → Q u H'
theorem ok_outlet_lags (E : Env K mg base) : FnOk P w K mg base CX0 15 (ga K "outlet_lags") (fdAt K (ga K "outlet_lags")) ["line", "station"] ((sp_otl K)) := by
  refine okD (f_outlet_lags E) sc_outlet_lags (fun cdv A outer s H vs Q X hr h => ?_) (fun vs H Q X h => by obtain ⟨_, _, _, rfl, _⟩ := h; rfl)
  obtain ⟨v, L, n, rfl, hL, hO, hA, hn, q⟩ := h
  have n4 := hO.n6
  have e3 : sizeLine = 16777216 := sizeLine_eq
  refine ⟨_, (pss_cons (ps_expr (pe_call (ok_check_line E) (hr.mono (by decide)) rfl (g_check_line E) (f_check_line E).kp (b_check_line E) .nil pass0 (pa_cons (pv 0) pa_nil)))
      (pss_cons (ps_expr (pe_call (ok_check_station E) (hr.mono (by decide)) rfl (g_check_station E) (f_check_station E).kp (b_check_station E) .nil pass0 (pa_cons (pv 0) (pa_cons (pv 1) pa_nil))))
      (pss_cons (ps_expr (pe_callR (E := E0) (ok_check_free E) (hr.mono (by decide)) (f_check_free E).kp rfl (g_check_free E) pass0 (pa_cons (pv 0) pa_nil)))
      (pss_one (ps_ret (pe_meth (pe_call (ok_walked E) (hr.mono (by decide)) rfl (g_walked E) (f_walked E).kp (b_walked E) .nil pass0 (pa_cons (pv 0) (pa_cons (pv 1) pa_nil))) (c_Walk E) (m_Walk_ends E) (ok_Walk_ends E) (hr.mono (by decide)) (b_Walk_ends E) .nil pass0 (pa_cons (pe_pr (pv 0) (c_Line E) (p_Line_outlet E) (ok_Line_outlet E) (hr.mono (by decide)) (bp_Line_outlet E) rfl) pa_nil))))))), ?_⟩
  refine ⟨_, rfl, v, L, rfl, hL, ?_⟩
  refine ⟨_, rfl, _, rfl, v, L, n, rfl, hL, by omega, hn, fun H1 s1 => ?_⟩
  refine ⟨_, rfl, [], [v], rfl, rfl, by show 1 ≤ sizeLine; omega, fun p hp => ⟨p, [v], [L], rfl, SqT.of upd_same, .cons ⟨hL.mono (sameI (s1.trans (sNew hp))), hO, hA⟩ .nil, fun H3 s3 => ?_⟩⟩
  have s03 := (s1.trans (sNew hp)).trans s3
  refine ⟨_, rfl, _, rfl, v, L, n, rfl, hL.mono (sameI s03), hO, hA, fun wk H4 s4 hW => ?_⟩
  obtain ⟨wx, wdx, wrw, wrows, wys, wb, we, rfl, hwx, _⟩ := id hW
  have s04 := s03.trans s4
  have hL4 := hL.mono (sameI s04)
  obtain ⟨la, ldx, lt_, lta, ltb, rfl, hla, _⟩ := id hL4
  exact ⟨wx, wdx, _, rfl, hwx, rfl, _, rfl, la, ldx, _, rfl, hla, _, L, rfl, hL4, _, L, n, L.out, rfl, hW, hO, hA, fun u H5 s5 hu => q u H5 (s04.trans s5) hu⟩
end
end Own
set_option Elab.async false
set_option linter.all false
set_option maxRecDepth 100000
set_option maxHeartbeats 4000000
/-! comparing -/
namespace Own
open PySem PySem.Spec PyProof.Rows L2 He OwnR
section
variable {P : Program} {w : World} {K : PySem.W.Frag} {mg : Str → Option Value} {base : Heap}
theorem ord_sub {H H' : Hp} {v u : V} {L M : Lin} {kn km : List Str} (h1 : OrdAt K H v L kn) (h2 : OrdAt K H' u M km) (h : Sub L M) : ∀ n ∈ kn, n ∈ km := by
  obtain ⟨_, _, _, _, _, _, _, _, _, _, _, p1, _⟩ := h1
  obtain ⟨_, _, _, _, _, _, _, _, _, _, _, p2, _⟩ := h2
  exact fun n hn => p2.symm.subset (h.tm n (p1.subset hn))
theorem ord_len {H : Hp} {v : V} {L : Lin} {kn : List Str} (h1 : OrdAt K H v L kn) (hO : L.Ok) : kn.length ≤ 4 := by
  obtain ⟨_, _, _, _, _, _, _, _, _, _, _, p1, _⟩ := h1
  rw [p1.length_eq, Lin.tmd, List.length_map]
  have := List.length_filter_le Sta.timed L.sts
  have := hO.n6
  omega
theorem late_any {c : Bool} {σ : L2.St} {H : Hp} {Kont : VK} {te : TE} {i : Int} (h : ∀ late H', Same H H' → Kont late H') (hte : (∀ late H', Same H H' → Kont late H') → te σ H Kont) : if c = true then tC (.int i) σ H Kont else te σ H Kont := by
  cases c with
  | true => exact ite_t rfl (h _ _ (Same.refl _))
  | false => exact ite_f rfl (hte h)
/-- Lags((0,)) -/
theorem mk_lags1 {σ : L2.St} {H : Hp} {Q : VK} (E : Env K mg base) (q : ∀ v H' f, Same H H' → LagAt K H' v f → Q v H') : tMake (ga K "Lags") (sp_li K) [.ref (dfl1 K), .int 1] E0 (tCons (tTup (tCons (tC (.int 0)) tNil)) tNil) σ H Q := by
  have e3 : sizeLine = 16777216 := sizeLine_eq
  refine ⟨by show 1 ≤ sizeLine; omega, fun t ht => ?_⟩
  have s1 : Same H (upd H t (.tup [.int 0])) := sNew ht
  refine fun x dx hx hd ne => ⟨x, dx, t, dfl1 K, [0], rfl, upd_same, ?_, dfl1_ok E _, by decide, by decide, fun H' tv s hk h1 h2 h3 => ⟨rfl, q (.ref x) H' _ (fun c o h => ?_) ⟨s, 1, ⟨x, _, dx, tv, rfl, .inl rfl, h1, h2⟩, by omega, Nat.one_dvd _⟩⟩⟩
  · have hx2 : upd (upd H t (.tup [.int 0])) dx (.own x) x = none := by rw [upd_ne (Ne.symm ne)]; exact hx
    exact sT ((sNew hd).trans (sNew hx2)) (SqT.of upd_same)
  · have h' := s1 _ _ h
    have hc : c ≠ x := fun e => by rw [e, hx] at h'; cases h'
    have hcd : c ≠ dx := fun e => by rw [e, hd] at h'; cases h'
    exact hk c o hc (by rw [upd_ne hc, upd_ne hcd]; exact h')
theorem sc_check_pair : FnScope ["one", "other"] ["one", "other"] (defScope s_check_pair) := ⟨rfl, rfl, rfl, by decide +kernel, rfl, by decide +kernel, by decide +kernel⟩
theorem b_check_pair (E : Env K mg base) : Binds K (fdAt K (ga K "check_pair")) ["one", "other"] [] := (f_check_pair E).bindsN fun _ _ _ _ _ _ us hl => match us, hl with | [_, _], _ => rfl
def sp_cp (K : PySem.W.Frag) : Sp := fun vs H Q _ => ∃ (v u : V) (L M : Lin), vs = [v, u] ∧ LineAt K H v L ∧ LineAt K H u M ∧ Q .non H
theorem ok_check_pair (E : Env K mg base) : FnOk P w K mg base CX0 12 (ga K "check_pair") (fdAt K (ga K "check_pair")) ["one", "other"] ((sp_cp K)) := by
  refine okD (f_check_pair E) sc_check_pair (fun cdv A outer s H vs Q X hr h => ?_) (fun vs H Q X h => by obtain ⟨_, _, _, _, rfl, _⟩ := h; rfl)
  obtain ⟨v, u, L, M, rfl, hL, hM, q⟩ := h
  refine ⟨_, (pss_cons (ps_expr (pe_call (ok_check_line E) (hr.mono (by decide)) rfl (g_check_line E) (f_check_line E).kp (b_check_line E) .nil pass0 (pa_cons (pv 0) pa_nil)))
      (pss_one (ps_expr (pe_call (ok_check_line E) (hr.mono (by decide)) rfl (g_check_line E) (f_check_line E).kp (b_check_line E) .nil pass0 (pa_cons (pv 1) pa_nil))))), ?_⟩
  exact ⟨_, rfl, v, L, rfl, hL, _, rfl, u, M, rfl, hM, q⟩
theorem sc_check_whole : FnScope ["whole"] ["whole"] (defScope s_check_whole) := ⟨rfl, rfl, rfl, by decide +kernel, rfl, by decide +kernel, by decide +kernel⟩
theorem b_check_whole (E : Env K mg base) : Binds K (fdAt K (ga K "check_whole")) ["whole"] [] := (f_check_whole E).bindsN fun _ _ _ _ _ _ us hl => match us, hl with | [_], _ => rfl
theorem ok_check_whole (E : Env K mg base) : FnOk P w K mg base CX0 1 (ga K "check_whole") (fdAt K (ga K "check_whole")) ["whole"] (sp_cfl) := by
  refine okD (f_check_whole E) sc_check_whole (fun cdv A outer s H vs Q X hr h => ?_) (fun vs H Q X h => by obtain ⟨_, rfl, _⟩ := h; rfl)
  obtain ⟨b, rfl, q⟩ := h
  refine ⟨_, (pss_one (ps_if (pt_not (pt_val (pe_callB call_isi rfl (n_isinstance E) boot_isinstance (pa_cons (pv 0) (pa_cons (pe_bltn (v := .ty "bool") rfl (n_bool E) boot_bool rfl) pa_nil))))) (pss_one ps_never) pss_nil)), ?_⟩
  exact ⟨_, rfl, _, .ty "bool", _, _, true, rfl, .ty _, .base (.bl b), kit_ty (by decide +kernel), _, rfl, ite_f (b := !true) rfl q⟩
/-- a pair of orders, the one's within the other's -/
def OrPair (K : PySem.W.Frag) (H : Hp) (v u : V) (L M : Lin) (kn km : List Str) : Prop := OrdAt K H v L kn ∧ OrdAt K H u M km ∧ Sub L M ∧ L.Ok ∧ M.Ok
theorem OrPair.mono {H H' : Hp} {v u : V} {L M : Lin} {kn km : List Str} (h : OrPair K H v u L M kn km) (g : SameI H H') : OrPair K H' v u L M kn km := ⟨h.1.mono g, h.2.1.mono g, h.2.2⟩
theorem sc_bad_lags : FnScope ["orders", "others", "name", "mate", "found"] ["orders", "others", "name", "mate"] (defScope s_bad_lags) := ⟨rfl, rfl, rfl, by decide +kernel, rfl, by decide +kernel, by decide +kernel⟩
theorem b_bad_lags (E : Env K mg base) : Binds K (fdAt K (ga K "bad_lags")) ["orders", "others", "name", "mate"] [] := (f_bad_lags E).bindsN fun _ _ _ _ _ _ us hl => match us, hl with | [_, _, _, _], _ => rfl
def sp_bl (K : PySem.W.Frag) : Sp := fun vs H Q _ => ∃ (v u : V) (L M : Lin) (kn km : List Str) (n m : Str), vs = [v, u, .str n, .str m] ∧ OrPair K H v u L M kn km ∧ n ∈ kn ∧ m ∈ kn ∧ ∀ x g H', Same H H' → LagAt K H' x g → (∀ k, g k = false) → Q x H'
theorem ok_bad_lags (E : Env K mg base) : FnOk P w K mg base CX0 5 (ga K "bad_lags") (fdAt K (ga K "bad_lags")) ["orders", "others", "name", "mate"] ((sp_bl K)) := by
  refine okD (f_bad_lags E) sc_bad_lags (fun cdv A outer s H vs Q X hr h => ?_) (fun vs H Q X h => by obtain ⟨_, _, _, _, _, _, _, _, rfl, _⟩ := h; rfl)
  obtain ⟨v, u, L, M, kn, km, n, m, rfl, ⟨h1, h2, hS, hO, hO2⟩, hn, hm, q⟩ := h
  have hsub := ord_sub h1 h2 hS
  obtain ⟨x, dx, _, _, _, _, _, _, rfl, hx, _⟩ := id h1
  obtain ⟨y, dy, _, _, _, _, _, _, rfl, hy, _⟩ := id h2
  refine ⟨_, (pss_cons (ps_set (i := 4) sc_bad_lags.nd rfl (Or.inl rfl) (pe_call (ok_left_of E) (hr.mono (by decide)) rfl (g_left_of E) (f_left_of E).kp (b_left_of E) .nil pass0 (pa_cons (pe_meth (pv 0) (c_Orders E) (m_Orders_between E) (ok_Orders_between E) (hr.mono (by decide)) (b_Orders_between E) .nil pass0 (pa_cons (pv 2) (pa_cons (pv 3) pa_nil))) (pa_cons (pe_meth (pv 1) (c_Orders E) (m_Orders_between E) (ok_Orders_between E) (hr.mono (by decide)) (b_Orders_between E) .nil pass0 (pa_cons (pv 2) (pa_cons (pv 3) pa_nil))) pa_nil))))
      (pss_one (ps_ret (pe_ifExp (pt_cmpR (op_inOwn (q_contains E) (ok_Lags_contains E) (hr.mono (by decide)) (b_Lags_contains E)) pe_int (pe_meth (pv 1) (c_Orders E) (m_Orders_between E) (ok_Orders_between E) (hr.mono (by decide)) (b_Orders_between E) .nil pass0 (pa_cons (pv 3) (pa_cons (pv 2) pa_nil))) rfl) (pe_call (ok_left_of E) (hr.mono (by decide)) rfl (g_left_of E) (f_left_of E).kp (b_left_of E) .nil pass0 (pa_cons (pv 4) (pa_cons (pe_make (k_Lags E) (ok_Lags_init E) (hr.mono (by decide)) rfl (g_Lags E) (bL1 E).choose_spec.2 (bL1 E).choose_spec.1 pass0 (pa_cons (pe_tup (pa_cons pe_int pa_nil)) pa_nil)) pa_nil))) (pv 4))))), ?_⟩
  refine ⟨_, rfl, x, dx, _, rfl, hx, rfl, _, rfl, _, rfl, _, L, kn, n, m, rfl, h1, hn, hm, fun u1 H1 s1 hu1 => ?_⟩
  refine ⟨_, rfl, y, dy, _, rfl, s1 _ _ hy, rfl, _, rfl, _, rfl, _, M, km, n, m, rfl, h2.mono (sameI s1), hsub n hn, hsub m hm, fun u2 H2 s2 hu2 => ?_⟩
  refine ⟨u1, u2, _, _, rfl, hu1.mono (sameI s2), hu2, fun u3 H3 s3 hu3 => ?_⟩
  rw [hS.none] at hu3
  have s03 := (s1.trans s2).trans s3
  refine ⟨_, rfl, y, dy, _, rfl, s03 _ _ hy, rfl, _, rfl, _, rfl, _, M, km, m, n, rfl, h2.mono (sameI s03), hsub m hm, hsub n hn, fun u4 H4 s4 hu4 => ?_⟩
  obtain ⟨s, p, ⟨a, C, dx2, tv, rfl, hC, ha, hF⟩, hq⟩ := id hu4
  refine ⟨a, C, dx2, _, rfl, hC, ha, _, _, 0, rfl, hu4, _, rfl, _, rfl, ite2 (fun c => ?_) (fun c => ?_)⟩
  · refine ⟨_, rfl, mk_lags1 E fun v5 H5 f5 s5 h5 => ?_⟩
    refine ⟨u3, v5, _, _, rfl, (hu3.mono (sameI s4)).mono (sameI s5), h5, fun u6 H6 s6 h6 => ?_⟩
    exact q u6 _ H6 (((s03.trans s4).trans s5).trans s6) h6 fun k => rfl
  · exact ⟨_, rfl, q u3 _ H4 (s03.trans s4) (hu3.mono (sameI s4)) fun k => rfl⟩
theorem sc_single_cases : FnScope ["orders", "others", "whole", "name", "found", "lags"] ["orders", "others", "whole"] (defScope s_single_cases) := ⟨rfl, rfl, rfl, by decide +kernel, rfl, by decide +kernel, by decide +kernel⟩
theorem b_single_cases (E : Env K mg base) : Binds K (fdAt K (ga K "single_cases")) ["orders", "others", "whole"] [] := (f_single_cases E).bindsN fun _ _ _ _ _ _ us hl => match us, hl with | [_, _, _], _ => rfl
def sp_sc (K : PySem.W.Frag) : Sp := fun vs H Q _ => ∃ (v u : V) (L M : Lin) (kn km : List Str) (wh : Bool), vs = [v, u, .bl wh] ∧ OrPair K H v u L M kn km ∧ ∀ D H', Same H H' → H' D = some (.lst []) → Q (.ref D) H'
theorem ok_single_cases (E : Env K mg base) : FnOk P w K mg base CX0 5 (ga K "single_cases") (fdAt K (ga K "single_cases")) ["orders", "others", "whole"] ((sp_sc K)) := by
  refine okD (f_single_cases E) sc_single_cases (fun cdv A outer s H vs Q X hr h => ?_) (fun vs H Q X h => by obtain ⟨_, _, _, _, _, _, _, rfl, _⟩ := h; rfl)
  obtain ⟨v, u, L, M, kn, km, wh, rfl, ⟨h1, h2, hS, hO, hO2⟩, q⟩ := h
  have hsub := ord_sub h1 h2 hS
  have hkl := ord_len h1 hO
  have e3 : sizeLine = 16777216 := sizeLine_eq
  obtain ⟨x, dx, tx, _, _, _, _, _, rfl, hx, hkx, _⟩ := id h1
  obtain ⟨y, dy, ty, _, _, _, _, _, rfl, hy, hky, _⟩ := id h2
  refine ⟨_, (pss_cons (ps_if (pt_val (pv 2)) (pss_one (ps_ret (pe_lc (own := [("name", 3)]) (g := (gName 3)) rfl sc_single_cases.nd (pi_tup (pe_fldK K (pv 0))) (blkOk_by (own := [("name", 3)]) (N := (["orders", "others", "whole", "name", "found", "lags"] : List Str)) (sc := defScope s_single_cases) (by decide +kernel)) (fun _ _ _ _ _ => (pg_name (i := 3) sc_single_cases.nd rfl (Or.inl rfl))) (fun _ _ _ _ _ => (pts_one (pt_cmpR (opNotInK K) (pv 3) (pe_fldK K (pv 1)) rfl))) (fun _ _ _ _ _ => (pe_tup (pa_cons pe_int (pa_cons (pe_tup (pa_cons (pe_tup (pa_cons (pv 3) (pa_cons pe_int pa_nil))) pa_nil)) pa_nil))))))) pss_nil)
      (pss_cons (ps_set (i := 4) sc_single_cases.nd rfl (Or.inl rfl) (pe_lst pa_nil))
      (pss_cons (ps_for PassesOwn.never rfl (pi_tup (pe_fldK K (pv 0))) (pg_name (i := 3) sc_single_cases.nd rfl (Or.inl rfl)) (pss_cons (ps_set (i := 5) sc_single_cases.nd rfl (Or.inl rfl) (pe_call (ok_left_of E) (hr.mono (by decide)) rfl (g_left_of E) (f_left_of E).kp (b_left_of E) .nil pass0 (pa_cons (pe_meth (pv 0) (c_Orders E) (m_Orders_to_outlet E) (ok_Orders_to_outlet E) (hr.mono (by decide)) (b_Orders_to_outlet E) .nil pass0 (pa_cons (pv 3) pa_nil)) (pa_cons (pe_meth (pv 1) (c_Orders E) (m_Orders_to_outlet E) (ok_Orders_to_outlet E) (hr.mono (by decide)) (b_Orders_to_outlet E) .nil pass0 (pa_cons (pv 3) pa_nil)) pa_nil))))
      (pss_one (ps_if (pt_cmpR op_notN (pe_prL (pv 5) (q_first E) (ok_Lags_first E) (hr.mono (by decide)) (bp_Lags_first E) rfl) pe_non (nomark _)) (pss_one ps_never) pss_nil))))
      (pss_one (ps_ret (pv 4)))))), ?_⟩
  refine ⟨_, rfl, wh, rfl, ite2 (fun c => ?_) (fun c => ?_)⟩
  · refine ⟨_, rfl, x, _, dx, _, .ref tx, rfl, hx, c_Orders E, a_Orders_known E, rfl, tx, rfl, ⟨_, hkx⟩, fun D hD => ?_⟩
    refine lc_map (walk_tup (K := K) (a := tx) (xs := kn.map V.str)) hD (fun _ => .non) (fun _ => false) (by rw [List.length_map]; omega) (fun H s => sT s hkx) ?_ ?_
    · rintro k z H2 H3 Nk Ns hk s2 ⟨rfl, hz⟩ k1 k2
      obtain ⟨n, en, rfl⟩ := map_get hz
      refine ⟨rfl, _, rfl, _, rfl, y, _, dy, _, .ref ty, rfl, s2 _ _ hy, c_Orders E, a_Orders_known E, rfl, ty, _, rfl, .inr (sT s2 hky), rfl, flat_strs' _, ?_⟩
      rw [inV_strs]
      exact ⟨_, rfl, ite_f (b := !decide (n ∈ km)) (by rw [decide_eq_true (hsub n (List.mem_of_getElem? en))]; rfl) (k2 rfl _ (Same.refl _))⟩
    · intro H2 s2 h2'
      refine q D H2 s2 (h2'.trans ?_)
      have : (List.range (kn.map V.str).length).filter (fun _ => false) = [] := List.filter_eq_nil_iff.mpr fun a _ => by simp
      rw [this]; rfl
  · refine ⟨by show 0 ≤ sizeLine; omega, fun D hD => ?_⟩
    have s0 : Same H (upd H D (.lst [])) := sNew hD
    refine ⟨_, rfl, x, _, dx, _, .ref tx, rfl, s0 _ _ hx, c_Orders E, a_Orders_known E, rfl, tx, rfl, ⟨_, sT s0 hkx⟩, ?_⟩
    refine for_it (walk_tup (K := K) (a := tx) (xs := kn.map V.str)) (fun i σ H' => (∃ v3 v5, σ = [some (.ref x), some (.ref y), some (.bl wh), v3, some (.ref D), v5]) ∧ Same (upd H D (.lst [])) H') ⟨⟨_, _, rfl⟩, Same.refl _⟩ (fun i σ H' _ h => sT (s0.trans h.2) hkx) ?_ ?_
    · rintro i z σ H2 H3 hi ⟨⟨v3, v5, rfl⟩, s2⟩ ⟨rfl, hz⟩
      obtain ⟨n, en, rfl⟩ := map_get hz
      have hn := List.mem_of_getElem? en
      have s02 := s0.trans s2
      refine ⟨_, rfl, x, dx, _, rfl, s02 _ _ hx, rfl, _, rfl, _, L, kn, n, rfl, h1.mono (sameI s02), hn, fun u1 hu1 => ?_⟩
      refine ⟨_, rfl, y, dy, _, rfl, s02 _ _ hy, rfl, _, rfl, _, M, km, n, rfl, h2.mono (sameI s02), hsub n hn, fun u2 hu2 => ?_⟩
      refine ⟨u1, u2, _, _, rfl, hu1, hu2, fun u3 H4 s4 hu3 => ?_⟩
      rw [← hS.out, hS.none] at hu3
      obtain ⟨s, p, ⟨a, C, dx2, tv, rfl, hC, ha, hF⟩, hq⟩ := id hu3
      refine ⟨_, rfl, a, C, dx2, _, rfl, hC, ha, _, _, rfl, hu3, fun H5 s5 _ => ?_, fun k H5 s5 hk => by cases hk⟩
      exact ⟨rfl, _, rfl, ite_f (b := !decide (V.non = V.non)) rfl ⟨⟨_, _, rfl⟩, (s2.trans s4).trans s5⟩⟩
    · rintro σ H2 ⟨⟨v3, v5, rfl⟩, s2⟩
      exact ⟨_, rfl, q D H2 (s0.trans s2) (s2 _ _ upd_same)⟩
theorem sc_pair_cases : FnScope ["orders", "others", "whole", "found", "name", "mate", "late", "lag"] ["orders", "others", "whole"] (defScope s_pair_cases) := ⟨rfl, rfl, rfl, by decide +kernel, rfl, by decide +kernel, by decide +kernel⟩
theorem b_pair_cases (E : Env K mg base) : Binds K (fdAt K (ga K "pair_cases")) ["orders", "others", "whole"] [] := (f_pair_cases E).bindsN fun _ _ _ _ _ _ us hl => match us, hl with | [_, _, _], _ => rfl
theorem ok_pair_cases (E : Env K mg base) : FnOk P w K mg base CX0 6 (ga K "pair_cases") (fdAt K (ga K "pair_cases")) ["orders", "others", "whole"] ((sp_sc K)) := by
  refine okD (f_pair_cases E) sc_pair_cases (fun cdv A outer s H vs Q X hr h => ?_) (fun vs H Q X h => by obtain ⟨_, _, _, _, _, _, _, rfl, _⟩ := h; rfl)
  obtain ⟨v, u, L, M, kn, km, wh, rfl, hOP, q⟩ := h
  obtain ⟨h1, h2, hS, hO, hO2⟩ := id hOP
  have hsub := ord_sub h1 h2 hS
  have hkl := ord_len h1 hO
  have e3 : sizeLine = 16777216 := sizeLine_eq
  obtain ⟨x, dx, tx, _, _, _, _, _, rfl, hx, hkx, _⟩ := id h1
  obtain ⟨y, dy, ty, _, _, _, _, _, rfl, hy, hky, _⟩ := id h2
  refine ⟨_, (pss_cons (ps_set (i := 3) sc_pair_cases.nd rfl (Or.inl rfl) (pe_lst pa_nil))
      (pss_cons (ps_for PassesOwn.never rfl (pi_tup (pe_fldK K (pv 0))) (pg_name (i := 4) sc_pair_cases.nd rfl (Or.inl rfl)) (pss_one (ps_for PassesOwn.never rfl (pi_tup (pe_fldK K (pv 0))) (pg_name (i := 5) sc_pair_cases.nd rfl (Or.inl rfl)) (pss_cons (ps_set (i := 6) sc_pair_cases.nd rfl (Or.inl rfl) (pe_ifExp (pt_val (pv 2)) pe_int (pe_prL (pe_meth (pv 0) (c_Orders E) (m_Orders_to_outlet E) (ok_Orders_to_outlet E) (hr.mono (by decide)) (b_Orders_to_outlet E) .nil pass0 (pa_cons (pv 5) pa_nil)) (q_first E) (ok_Lags_first E) (hr.mono (by decide)) (bp_Lags_first E) rfl)))
      (pss_cons (ps_set (i := 7) sc_pair_cases.nd rfl (Or.inl rfl) (pe_prL (pe_call (ok_bad_lags E) (hr.mono (by decide)) rfl (g_bad_lags E) (f_bad_lags E).kp (b_bad_lags E) .nil pass0 (pa_cons (pv 0) (pa_cons (pv 1) (pa_cons (pv 4) (pa_cons (pv 5) pa_nil))))) (q_first E) (ok_Lags_first E) (hr.mono (by decide)) (bp_Lags_first E) rfl))
      (pss_one (ps_if (PW.pt (pw_and (pt_cmpR op_notN (pv 6) pe_non (nomark _)) (pw_and1 (pt_cmpR op_notN (pv 7) pe_non (nomark _))))) (pss_one ps_never) pss_nil)))))))
      (pss_one (ps_ret (pv 3))))), ?_⟩
  refine ⟨by show 0 ≤ sizeLine; omega, fun D hD => ?_⟩
  have s0 : Same H (upd H D (.lst [])) := sNew hD
  refine ⟨_, rfl, x, _, dx, _, .ref tx, rfl, s0 _ _ hx, c_Orders E, a_Orders_known E, rfl, tx, rfl, ⟨_, sT s0 hkx⟩, ?_⟩
  refine for_it (walk_tup (K := K) (a := tx) (xs := kn.map V.str)) (fun i σ H' => (∃ v4 v5 v6 v7, σ = [some (.ref x), some (.ref y), some (.bl wh), some (.ref D), v4, v5, v6, v7]) ∧ Same (upd H D (.lst [])) H') ⟨⟨_, _, _, _, rfl⟩, Same.refl _⟩ (fun i σ H' _ h => sT (s0.trans h.2) hkx) ?_ ?_
  · rintro i z σ H2 H3 hi ⟨⟨v4, v5, v6, v7, rfl⟩, s2⟩ ⟨rfl, hz⟩
    obtain ⟨n, en, rfl⟩ := map_get hz
    have hn := List.mem_of_getElem? en
    have s02 := s0.trans s2
    refine ⟨_, rfl, x, _, dx, _, .ref tx, rfl, s02 _ _ hx, c_Orders E, a_Orders_known E, rfl, tx, rfl, ⟨_, sT s02 hkx⟩, ?_⟩
    refine for_it (walk_tup (K := K) (a := tx) (xs := kn.map V.str)) (fun i σ H' => (∃ v5 v6 v7, σ = [some (.ref x), some (.ref y), some (.bl wh), some (.ref D), some (.str n), v5, v6, v7]) ∧ Same (upd H D (.lst [])) H') ⟨⟨_, _, _, rfl⟩, s2⟩ (fun i σ H' _ h => sT (s0.trans h.2) hkx) ?_ ?_
    · rintro j z σ H4 H5 hj ⟨⟨w5, w6, w7, rfl⟩, s4⟩ ⟨rfl, hz⟩
      obtain ⟨m, em, rfl⟩ := map_get hz
      have hm := List.mem_of_getElem? em
      have s04 := s0.trans s4
      refine ⟨_, rfl, wh, rfl, ?_⟩
      refine late_any (fun late H6 s6 => ?_) (fun h => ?_)
      · have s06 := s04.trans s6
        refine ⟨_, rfl, _, rfl, _, rfl, _, rfl, _, _, L, M, kn, km, n, m, rfl, hOP.mono (sameI s06), hn, hm, fun x5 g H7 s7 hg h0 => ?_⟩
        obtain ⟨s, p, ⟨a, C, dx2, tv, rfl, hC, ha, hF⟩, hq⟩ := id hg
        refine ⟨a, C, dx2, _, rfl, hC, ha, _, _, rfl, hg, fun H8 s8 _ => ?_, fun k H8 s8 hk => by rw [h0] at hk; cases hk⟩
        have s48 := ((s4.trans s6).trans s7).trans s8
        refine ⟨_, rfl, rfl, _, rfl, ite2 (fun c => ?_) (fun c => ?_)⟩
        · exact ⟨_, rfl, rfl, _, rfl, ite_f (b := !decide (V.non = V.non)) rfl ⟨⟨_, _, _, rfl⟩, s48⟩⟩
        · exact ite_f rfl ⟨⟨_, _, _, rfl⟩, s48⟩
      · refine ⟨_, rfl, x, dx, _, rfl, s04 _ _ hx, rfl, _, rfl, _, L, kn, m, rfl, h1.mono (sameI s04), hm, fun u1 hu1 => ?_⟩
        obtain ⟨s, p, ⟨a, C, dx2, tv, rfl, hC, ha, hF⟩, hq⟩ := id hu1
        exact ⟨a, C, dx2, _, rfl, hC, ha, _, _, rfl, hu1, fun H8 s8 _ => h _ _ s8, fun k H8 s8 _ _ _ => h _ _ s8⟩
    · rintro σ H4 ⟨⟨w5, w6, w7, rfl⟩, s4⟩
      exact ⟨⟨_, _, _, _, rfl⟩, s4⟩
  · rintro σ H2 ⟨⟨v4, v5, v6, v7, rfl⟩, s2⟩
    exact ⟨_, rfl, q D H2 (s0.trans s2) (s2 _ _ upd_same)⟩
theorem sc_least_case : FnScope ["one", "other", "whole", "orders", "others", "found", "best", "case"] ["one", "other", "whole"] (defScope s_least_case) := ⟨rfl, rfl, rfl, by decide +kernel, rfl, by decide +kernel, by decide +kernel⟩
theorem b_least_case (E : Env K mg base) : Binds K (fdAt K (ga K "least_case")) ["one", "other", "whole"] [] := (f_least_case E).bindsN fun _ _ _ _ _ _ us hl => match us, hl with | [_, _, _], _ => rfl
def sp_lc (K : PySem.W.Frag) : Sp := fun vs H Q _ => ∃ (v u : V) (L M : Lin) (wh : Bool), vs = [v, u, .bl wh] ∧ LineAt K H v L ∧ LineAt K H u M ∧ Sub L M ∧ L.Ok ∧ M.Ok ∧ Acyc L ∧ Acyc M ∧ ∀ H', Same H H' → Q .non H'
/-- Orders(v) -/
theorem mk_orders {H : Hp} {Qx : Hp → Prop} {v : V} {L : Lin} {x dx : Addr} (hL : LineAt K H v L) (hO : L.Ok) (hA : Acyc L) (hx : H x = none) (hd : H dx = none) (ne : dx ≠ x) (q : ∀ H' kn, Same H H' → OrdAt K H' (.ref x) L kn → Qx H') : sp_oi K [.ref x, v] (upd (upd H dx (.own x)) x (.ins (ga K "Orders") dx [])) (fun v H3 => v = .non ∧ Qx H3) E0 := by
  refine ⟨x, dx, v, L, rfl, upd_same, hL.mono (sameI ((sNew hd).trans (sNew (by rw [upd_ne (Ne.symm ne)]; exact hx)))), hO, hA, fun H' kn hk hOr => ⟨rfl, q H' kn (fun c o h => ?_) hOr⟩⟩
  have hc : c ≠ x := fun e => by rw [e, hx] at h; cases h
  have hcd : c ≠ dx := fun e => by rw [e, hd] at h; cases h
  exact hk c o hc (by rw [upd_ne hc, upd_ne hcd]; exact h)
theorem ok_least_case (E : Env K mg base) : FnOk P w K mg base CX0 11 (ga K "least_case") (fdAt K (ga K "least_case")) ["one", "other", "whole"] ((sp_lc K)) := by
  refine okD (f_least_case E) sc_least_case (fun cdv A outer s H vs Q X hr h => ?_) (fun vs H Q X h => by obtain ⟨_, _, _, _, _, rfl, _⟩ := h; rfl)
  obtain ⟨v, u, L, M, wh, rfl, hL, hM, hS, hO, hO2, hA, hA2, q⟩ := h
  have e3 : sizeLine = 16777216 := sizeLine_eq
  refine ⟨_, (pss_cons (ps_par (i := 3) (j := 4) rfl sc_least_case.nd rfl rfl (by decide) rfl rfl (pa_cons (pe_make (k_Orders E) (ok_Orders_init E) (hr.mono (by decide)) rfl (g_Orders E) (b_Orders_init E) .nil pass0 (pa_cons (pv 0) pa_nil)) (pa_cons (pe_make (k_Orders E) (ok_Orders_init E) (hr.mono (by decide)) rfl (g_Orders E) (b_Orders_init E) .nil pass0 (pa_cons (pv 1) pa_nil)) pa_nil)) (by rfl))
      (pss_cons (ps_set (i := 5) sc_least_case.nd rfl (Or.inl rfl) (pe_op op_cat (pe_call (ok_single_cases E) (hr.mono (by decide)) rfl (g_single_cases E) (f_single_cases E).kp (b_single_cases E) .nil pass0 (pa_cons (pv 3) (pa_cons (pv 4) (pa_cons (pv 2) pa_nil)))) (pe_call (ok_pair_cases E) (hr.mono (by decide)) rfl (g_pair_cases E) (f_pair_cases E).kp (b_pair_cases E) .nil pass0 (pa_cons (pv 3) (pa_cons (pv 4) (pa_cons (pv 2) pa_nil))))))
      (pss_cons (ps_set (i := 6) sc_least_case.nd rfl (Or.inl rfl) pe_non)
      (pss_cons (ps_for PassesOwn.never rfl (pi_list (pv 5)) (pg_name (i := 7) sc_least_case.nd rfl (Or.inl rfl)) (pss_one ps_never))
      (pss_one (ps_ret (pv 6))))))), ?_⟩
  refine ⟨_, rfl, fun o1 d1 q1 q2 q3 => mk_orders hL hO hA q1 q2 q3 fun H1 kn s1 h1 => ?_⟩
  refine ⟨_, rfl, fun o2 d2 q1 q2 q3 => mk_orders (hM.mono (sameI s1)) hO2 hA2 q1 q2 q3 fun H2 km s2 h2 => ⟨_, _, rfl, ?_⟩⟩
  have hOP : OrPair K H2 (.ref o1) (.ref o2) L M kn km := ⟨h1.mono (sameI s2), h2, hS, hO, hO2⟩
  refine ⟨_, rfl, _, rfl, _, rfl, _, _, L, M, kn, km, wh, rfl, hOP, fun D1 H3 s3 hD1 => ?_⟩
  refine ⟨_, rfl, _, rfl, _, rfl, _, _, L, M, kn, km, wh, rfl, hOP.mono (sameI s3), fun D2 H4 s4 hD2 => ?_⟩
  refine ⟨D1, D2, [], [], rfl, rfl, s4 _ _ hD1, hD2, Nat.zero_le _, fun D3 hD3 => ?_⟩
  have s5 : Same H4 (upd H4 D3 (.lst [])) := sNew hD3
  have hfin := ((((s1.trans s2).trans s3).trans s4).trans s5)
  refine ⟨_, rfl, D3, rfl, ⟨[], SqL.of upd_same⟩, ?_⟩
  refine for_it (walk_list (K := K) (a := D3) (xs := [])) (fun i σ H' => σ[6]? = some (some .non) ∧ H' = upd H4 D3 (.lst [])) ⟨rfl, rfl⟩ (fun i σ H' _ h => by rw [h.2]; exact SqL.of upd_same) (fun i x σ H1 H2 hi => absurd hi (Nat.not_lt_zero _)) ?_
  rintro σ H' ⟨hσ, rfl⟩
  exact ⟨_, hσ, q _ hfin⟩
theorem sc_later_case : FnScope ["one", "other", "whole"] ["one", "other", "whole"] (defScope s_later_case) := ⟨rfl, rfl, rfl, by decide +kernel, rfl, by decide +kernel, by decide +kernel⟩
theorem kb_later_case (E : Env K mg base) : ∃ mv : List Value, KBn K (fdAt K (ga K "later_case")) ["one", "other", "whole"] 2 ["whole"] (fun us ws => (fun us (_ : List Value) ws => us ++ ws) us mv ws) (fun vs zs => (fun us (_ : List V) ws => us ++ ws) vs (([] : List (Str × V)).map (·.2)) zs) :=
  FunD.kbinds0 (ps := ["one", "other", "whole"]) (f_later_case E) 2 ["whole"] [] (fun us _ ws => us ++ ws) (by simp) (fun _ h => nomatch h) (fun h1 _ h3 => h1.append h3) fun _ _ _ _ _ _ us mv ws hu hm hw => match us, mv, ws, hu, hm, hw with | [_, _], [], [_], _, _, _ => rfl
theorem ok_later_case (E : Env K mg base) : FnOk P w K mg base CX0 15 (ga K "later_case") (fdAt K (ga K "later_case")) ["one", "other", "whole"] ((sp_lc K)) := by
  refine okD (f_later_case E) sc_later_case (fun cdv A outer s H vs Q X hr h => ?_) (fun vs H Q X h => by obtain ⟨_, _, _, _, _, rfl, _⟩ := h; rfl)
  obtain ⟨v, u, L, M, wh, rfl, hL, hM, hS, hO, hO2, hA, hA2, q⟩ := h
  have e3 : sizeLine = 16777216 := sizeLine_eq
  refine ⟨_, (pss_cons (ps_expr (pe_call (ok_check_pair E) (hr.mono (by decide)) rfl (g_check_pair E) (f_check_pair E).kp (b_check_pair E) .nil pass0 (pa_cons (pv 0) (pa_cons (pv 1) pa_nil))))
      (pss_cons (ps_expr (pe_call (ok_check_whole E) (hr.mono (by decide)) rfl (g_check_whole E) (f_check_whole E).kp (b_check_whole E) .nil pass0 (pa_cons (pv 2) pa_nil)))
      (pss_cons (ps_expr (pe_callR (E := E0) (ok_check_free E) (hr.mono (by decide)) (f_check_free E).kp rfl (g_check_free E) pass0 (pa_cons (pv 0) (pa_cons (pv 1) pa_nil))))
      (pss_one (ps_ret (pe_call (ok_least_case E) (hr.mono (by decide)) rfl (g_least_case E) (f_least_case E).kp (b_least_case E) .nil pass0 (pa_cons (pv 0) (pa_cons (pv 1) (pa_cons (pv 2) pa_nil))))))))), ?_⟩
  refine ⟨_, rfl, _, rfl, v, u, L, M, rfl, hL, hM, ?_⟩
  refine ⟨_, rfl, wh, rfl, ?_⟩
  refine ⟨_, rfl, _, rfl, [], [v, u], rfl, rfl, by show 2 ≤ sizeLine; omega, fun p hp => ⟨p, [v, u], [L, M], rfl, SqT.of upd_same, .cons ⟨hL.mono (sameI (sNew hp)), hO, hA⟩ (.cons ⟨hM.mono (sameI (sNew hp)), hO2, hA2⟩ .nil), fun H3 s3 => ?_⟩⟩
  have s03 := (sNew hp).trans s3
  exact ⟨_, rfl, _, rfl, _, rfl, v, u, L, M, wh, rfl, hL.mono (sameI s03), hM.mono (sameI s03), hS, hO, hO2, hA, hA2, fun H4 s4 => q H4 (s03.trans s4)⟩
theorem sc_never_later : FnScope ["one", "other", "whole"] ["one", "other", "whole"] (defScope s_never_later) := ⟨rfl, rfl, rfl, by decide +kernel, rfl, by decide +kernel, by decide +kernel⟩
theorem kb_never_later (E : Env K mg base) : ∃ mv : List Value, KBn K (fdAt K (ga K "never_later")) ["one", "other", "whole"] 2 ["whole"] (fun us ws => (fun us (_ : List Value) ws => us ++ ws) us mv ws) (fun vs zs => (fun us (_ : List V) ws => us ++ ws) vs (([] : List (Str × V)).map (·.2)) zs) :=
  FunD.kbinds0 (ps := ["one", "other", "whole"]) (f_never_later E) 2 ["whole"] [] (fun us _ ws => us ++ ws) (by simp) (fun _ h => nomatch h) (fun h1 _ h3 => h1.append h3) fun _ _ _ _ _ _ us mv ws hu hm hw => match us, mv, ws, hu, hm, hw with | [_, _], [], [_], _, _, _ => rfl
theorem b0_never_later (E : Env K mg base) : ∃ ds, Vals [.bl false] ds ∧ Binds K (fdAt K (ga K "never_later")) ["one", "other", "whole"] ds :=
  FunD.binds0 (ps := ["one", "other", "whole"]) (f_never_later E) 2 (by simp) rfl fun _ _ _ _ _ _ us ks hu hk => match us, ks, hu, hk with | [_, _], [_], _, _ => ⟨_, _, _, _, _, _, rfl, rfl, rfl⟩
def sp_nl (K : PySem.W.Frag) : Sp := fun vs H Q _ => ∃ (v u : V) (L M : Lin) (wh : Bool), vs = [v, u, .bl wh] ∧ LineAt K H v L ∧ LineAt K H u M ∧ Sub L M ∧ L.Ok ∧ M.Ok ∧ Acyc L ∧ Acyc M ∧ ∀ H', Same H H' → Q (.bl true) H'
theorem ok_never_later (E : Env K mg base) : FnOk P w K mg base CX0 16 (ga K "never_later") (fdAt K (ga K "never_later")) ["one", "other", "whole"] ((sp_nl K)) := by
  refine okD (f_never_later E) sc_never_later (fun cdv A outer s H vs Q X hr h => ?_) (fun vs H Q X h => by obtain ⟨_, _, _, _, _, rfl, _⟩ := h; rfl)
  obtain ⟨v, u, L, M, wh, rfl, hL, hM, hS, hO, hO2, hA, hA2, q⟩ := h
  refine ⟨_, (pss_one (ps_ret (pe_cmpR op_isN (pe_callN (ok_later_case E) (hr.mono (by decide)) rfl (g_later_case E) (f_later_case E).kp (kb_later_case E).choose_spec pass0 (pa_cons (pv 0) (pa_cons (pv 1) pa_nil)) (pk_cons (pv 2) pk_nil)) pe_non (nomark _)))), ?_⟩
  exact ⟨_, rfl, _, rfl, _, rfl, rfl, rfl, v, u, L, M, wh, rfl, hL, hM, hS, hO, hO2, hA, hA2, fun H4 s4 => ⟨rfl, q H4 s4⟩⟩
end
end Own
set_option Elab.async false
set_option linter.all false
set_option maxRecDepth 100000
set_option maxHeartbeats 4000000
/-! {k: v for a in A for b in B}, the keys tuples (the kit has the list's two clauses and the dict's one; this is the two together) -/
namespace OwnR
open PySem PySem.Spec PyProof.Rows L2
theorem turn_a (kx vx t0 i0 t1 i1 : Expr) (scope : Scope) (pos : Pos) (it : Value) (D : Addr) (env : Env) :
    compTurn (.DictComp kx vx [⟨t0, i0, [], 0⟩, ⟨t1, i1, [], 0⟩] scope pos) 0 it (.ref D) env = (do
      standAt i0.pos
      match ← pyNext it with
      | none => pure (.done .next)
      | some v =>
        letOwnedTupleGo t0 it v
        assign t0 env v
        let x ← eval i1 env
        standAt i1.pos
        let x ← foldedSetIterable i1 env x
        let _ ← runOwn (.compStart (.DictComp kx vx [⟨t0, i0, [], 0⟩, ⟨t1, i1, [], 0⟩] scope pos) 1 (← holding [x] (pyIter x)) (.ref D) env) env
        again (.compLoop (.DictComp kx vx [⟨t0, i0, [], 0⟩, ⟨t1, i1, [], 0⟩] scope pos) 0 it (.ref D) env)) := by rfl
theorem turn_b (kx vx t0 i0 t1 i1 : Expr) (scope : Scope) (pos : Pos) (it : Value) (D : Addr) (env : Env) :
    compTurn (.DictComp kx vx [⟨t0, i0, [], 0⟩, ⟨t1, i1, [], 0⟩] scope pos) 1 it (.ref D) env = (do
      standAt i1.pos
      match ← pyNext it with
      | none => pure (.done .next)
      | some v =>
        letOwnedTupleGo t1 it v
        assign t1 env v
        (do
          let kv ← eval kx env
          let vv ← holding [kv] (eval vx env)
          standAt { kx.pos with endLine := vx.pos.endLine, endCol := vx.pos.endCol }
          holding [kv, vv] (dictSet D kv vv))
        again (.compLoop (.DictComp kx vx [⟨t0, i0, [], 0⟩, ⟨t1, i1, [], 0⟩] scope pos) 1 it (.ref D) env)) := by rfl
section
variable {prog : Program} {w : World} {A : Around} {R : Result → Shared → Prop} {s : Shared} {kx vx t0 i0 t1 i1 : Expr} {scope : Scope} {pos : Pos} {it : Value} {D : Addr} {env : Env}
theorem loop_a (hs : ∀ x, foldedSetIterable i1 env x = pure x) (I : Nat → Shared → Prop)
    (turn : ∀ n s, I n s → wpAny (model prog w) A (pyNext it) (fun r s₁ => match r with
      | none => R (.ok .next) s₁
      | some v => wpAny (model prog w) A (letOwnedTupleGo t0 it v) (fun _ s₁' => wpAny (model prog w) A (assign t0 env v) (fun _ s₂ =>
          wpAny (model prog w) A (eval i1 env) (fun x s₄ => wpAny (model prog w) A (pyIter x) (fun it1 s₅ =>
            codeAny (model prog w) A (.compStart (.DictComp kx vx [⟨t0, i0, [], 0⟩, ⟨t1, i1, [], 0⟩] scope pos) 1 it1 (.ref D) env) (fun r s' => match r with
              | .ok _ => ∃ m, m < n ∧ I m s'
              | .error _ => False) s₅) (notedBy (model prog w) A env fun e s' => R (.error e) s') s₄) (notedBy (model prog w) A env fun e s' => R (.error e) s') s₂) (notedBy (model prog w) A env fun e s' => R (.error e) s') s₁') (notedBy (model prog w) A env fun e s' => R (.error e) s') s₁) (notedBy (model prog w) A env fun e s' => R (.error e) s') s)
    (n : Nat) (h : I n s) : codeAny (model prog w) A (.compLoop (.DictComp kx vx [⟨t0, i0, [], 0⟩, ⟨t1, i1, [], 0⟩] scope pos) 0 it (.ref D) env) R s := by
  refine codeAny_loop rfl I (fun n s hI => ?_) n h
  show wpAny _ A ((compTurn (.DictComp kx vx [⟨t0, i0, [], 0⟩, ⟨t1, i1, [], 0⟩] scope pos) 0 it (.ref D) env).onRaise (fun x => do noteFrame x env; theTreesLotGoes x)) _ _ s
  refine wpAny_noted ?_
  rw [turn_a]
  refine wpAny_bind (wpAny_standAt (wpAny_bind (wpAny_mono (turn n s hI) (fun r s₁ h₁ => ?_) fun _ _ h' => h')))
  cases r with
  | none => exact wpAny_pure h₁
  | some v =>
    refine wpAny_bind (wpAny_mono h₁ (fun _ s₁' h₁' => ?_) fun _ _ h' => h')
    refine wpAny_bind (wpAny_mono h₁' (fun _ s₂ h₂ => ?_) fun _ _ h' => h')
    refine wpAny_bind (wpAny_mono h₂ (fun x s₄ h₄ => ?_) fun _ _ h' => h')
    refine wpAny_bind (wpAny_standAt (wpAny_bind (wpAny_of_eq (hs x) (wpAny_bind (wpAny_holding (wpAny_mono h₄ (fun it1 s₅ h₅ => ?_) fun _ _ h' => h'))))))
    refine wpAny_bind (wpAny_runOwn ?_)
    rw [Around.mark_none]
    refine codeAny_mono h₅ fun r s' hr => ?_
    cases r with
    | ok f =>
      first
        | exact wpAny_pure ⟨rfl, hr⟩
        | exact wpAny_bind (wpAny_pure (wpAny_pure ⟨rfl, hr⟩))
    | error e => exact hr.elim
theorem loop_b (I : Nat → Shared → Prop)
    (turn : ∀ n s, I n s → wpAny (model prog w) A (pyNext it) (fun r s₁ => match r with
      | none => R (.ok .next) s₁
      | some v => wpAny (model prog w) A (letOwnedTupleGo t1 it v) (fun _ s₁' => wpAny (model prog w) A (assign t1 env v) (fun _ s₂ =>
          wpAny (model prog w) A (eval kx env) (fun kv s₄ => wpAny (model prog w) A (eval vx env) (fun vv s₅ =>
            wpAny (model prog w) A (dictSet D kv vv) (fun _ s₆ => ∃ m, m < n ∧ I m s₆) (notedBy (model prog w) A env fun e s' => R (.error e) s') s₅) (notedBy (model prog w) A env fun e s' => R (.error e) s') s₄) (notedBy (model prog w) A env fun e s' => R (.error e) s') s₂) (notedBy (model prog w) A env fun e s' => R (.error e) s') s₁') (notedBy (model prog w) A env fun e s' => R (.error e) s') s₁) (notedBy (model prog w) A env fun e s' => R (.error e) s') s)
    (n : Nat) (h : I n s) : codeAny (model prog w) A (.compLoop (.DictComp kx vx [⟨t0, i0, [], 0⟩, ⟨t1, i1, [], 0⟩] scope pos) 1 it (.ref D) env) R s := by
  refine codeAny_loop rfl I (fun n s hI => ?_) n h
  show wpAny _ A ((compTurn (.DictComp kx vx [⟨t0, i0, [], 0⟩, ⟨t1, i1, [], 0⟩] scope pos) 1 it (.ref D) env).onRaise (fun x => do noteFrame x env; theTreesLotGoes x)) _ _ s
  refine wpAny_noted ?_
  rw [turn_b]
  refine wpAny_bind (wpAny_standAt (wpAny_bind (wpAny_mono (turn n s hI) (fun r s₁ h₁ => ?_) fun _ _ h' => h')))
  cases r with
  | none => exact wpAny_pure h₁
  | some v =>
    refine wpAny_bind (wpAny_mono h₁ (fun _ s₁' h₁' => ?_) fun _ _ h' => h')
    refine wpAny_bind (wpAny_mono h₁' (fun _ s₂ h₂ => ?_) fun _ _ h' => h')
    exact wpAny_bind (wpAny_bind (wpAny_mono h₂ (fun kv s₄ h₄ => wpAny_bind (wpAny_holding (wpAny_mono h₄ (fun vv s₅ h₅ => wpAny_bind (wpAny_standAt (wpAny_holding (wpAny_mono h₅ (fun _ s₆ h₆ => wpAny_pure ⟨rfl, h₆⟩) fun _ _ h' => h')))) fun _ _ h' => h'))) fun _ _ h' => h'))
theorem start_b (h0 : codeAny (model prog w) A (.compLoop (.DictComp kx vx [⟨t0, i0, [], 0⟩, ⟨t1, i1, [], 0⟩] scope pos) 1 it (.ref D) env) R s)
    (h : wpAny (model prog w) A (pyIter it) (fun it' s' => codeAny (model prog w) A (.compLoop (.DictComp kx vx [⟨t0, i0, [], 0⟩, ⟨t1, i1, [], 0⟩] scope pos) 1 it' (.ref D) env) R s') (notedBy (model prog w) A env fun x s' => R (.error x) s') s) :
    codeAny (model prog w) A (.compStart (.DictComp kx vx [⟨t0, i0, [], 0⟩, ⟨t1, i1, [], 0⟩] scope pos) 1 it (.ref D) env) R s := by
  refine codeAny_of_tree ?_
  show wpAny _ _ ((compStart (.DictComp kx vx [⟨t0, i0, [], 0⟩, ⟨t1, i1, [], 0⟩] scope pos) 1 it (.ref D) env).onRaise (fun x => do noteFrame x env; standAt theWindowsPlace)) _ _ s
  refine wpAny_notedAt ?_
  unfold compStart
  show wpAny _ _ (ask >>= _) _ _ s
  refine wpAny_bind (wpAny_askSetting (wpAny_ite ?_))
  split
  · first
      | exact wpAny_bind (wpAny_pure (wpAny_pure (And.intro rfl h0)))
      | exact wpAny_pure (And.intro rfl h0)
  · first
      | exact wpAny_bind (wpAny_rule (wpAny_bind (wpAny_standAt (wpAny_bind (wpAny_mono h (fun it' s' h' => wpAny_pure (And.intro rfl h')) fun _ _ x => x)))))
      | (refine wpAny_bind (wpAny_rule ?_); show wpAny _ _ (standAt i1.pos >>= _) _ _ s; exact wpAny_bind (wpAny_standAt (wpAny_bind (wpAny_mono h (fun it' s' h' => wpAny_pure (And.intro rfl h')) fun _ _ x => x))))
end
/-- d[b] = v within a comprehension, b a tuple -/
theorem dset_t {X : Cx} {pins : List (Addr × Obj)} {σ : L2.St} {H : Hp} {s : Shared} {E : Value → Shared → Prop} {D b : Addr} {kvs : List (List Key × V)} {k : List Key} {v : V} {r : Value} {Q : Unit → Shared → Prop} (hu : X.A.units + 64 < cLine) (I : Inv X pins σ H s) (hD : H D = some (.dT kvs)) (hb : H b = some (.tup (k.map kV))) (hz : kvs.length < sizeLine)
    (rv : RelV v r) (h : ∀ s', Inv X pins σ (upd H D (.dT (putK kvs k v))) s' → Q () s') : wpAny (model X.prog X.w) X.A (dictSet D (.ref b) r) Q E s := by
  obtain ⟨z, hd, xs, rel, dd⟩ := dt_of I.hok hD
  have hz' : xs.length ≤ sizeLine := by rw [← Paired.length rel]; exact z
  have hl : (putK kvs k v).length ≤ sizeLine := by
    have : (putK kvs k v).length ≤ kvs.length + 1 := by
      unfold putK
      split
      · rw [List.length_map]; omega
      · rw [List.length_append]; exact Nat.le_refl _
    omega
  refine wpAny_dictSet_heap (hsz := hz') (by show X.A.units < cLine; omega) (key_of I.hok hb) dd fun h' dd' hs => h _ ?_
  obtain ⟨q, es, ep, hq, h2, h3, h4, _, h5⟩ := dd'
  refine d_write I (by rw [hD]; exact True.intro) hs ⟨q, hq⟩ ⟨hl, hd, _, (rel.put k hb rv).keeps fun c ys ec => ?_, q, es, ep, hq, h2, h3, h4, h5⟩
  rw [upd_ne (ne_of ec hD (fun z => nomatch z))]
  exact ec
section
variable {X : Cx}
def tDc2 (wi : TI) (g : TG) (wi1 : TI) (g1 : TG) (tk tv : TE) (vs vs1 : List Nat) : TE := fun σ H Q => wi σ H fun J H1 => ∀ D, H1 D = none → ∃ W : Nat → Nat → Hp → Prop, (∃ m, W 0 m (upd H1 D (.dT []))) ∧ ∀ i m H, W i m H →
  (J.stop i H ∧ Q (.ref D) H) ∨ (J.go i H ∧ ∃ Nx : Hp → Prop, (∀ H', Nx H' → ∃ m', m' < m ∧ W (i + 1) m' H') ∧ ∀ x H', J.yld i H x H' → g x (wipe σ vs) H' fun σ2 H2 => wipe σ2 vs = wipe σ vs ∧
    wi1 σ2 H2 fun J1 H4 => ∃ W1 : Nat → Nat → Hp → Prop, (∃ m, W1 0 m H4) ∧ ∀ j k H, W1 j k H →
      (J1.stop j H ∧ Nx H) ∨ (J1.go j H ∧ ∃ Nx1 : Hp → Prop, (∀ H', Nx1 H' → ∃ k', k' < k ∧ W1 (j + 1) k' H') ∧ ∀ x H', J1.yld j H x H' → g1 x (wipe σ2 vs1) H' fun σ3 H5 => wipe σ3 vs1 = wipe σ2 vs1 ∧
        tk σ3 H5 fun y H7 => tv σ3 H7 fun z H8 => ∃ b kvs key, y = .ref b ∧ H8 D = some (.dT kvs) ∧ H8 b = some (.tup (key.map kV)) ∧ kvs.length < sizeLine ∧ Nx1 (upd H8 D (.dT (putK kvs key z)))))
variable {kx vx tg iter tg1 iter1 : Expr} {scope : Scope} {own : List (Str × Nat)} {vs1 : List Nat} {pos : Pos} {wi wi1 : TI} {g g1 : TG} {tk tv : TE}
abbrev Blk (X : Cx) (scope : Scope) (s : Shared) (H : Hp) (C : Addr) (cl : List (Str × Addr)) (fp : List Addr) : Cx := X.blk s H scope (compEnvC scope cl C X.env) fp
theorem pe_dc2 (hc : X.calm = true) (hu : X.A.units + 64 < cLine) (hN : X.N.Nodup) (hi : PI X tg iter wi) (ok : BlkOk X.N X.env.scope scope own) (hv : ∀ i ∈ vs1, i ∈ own.map (·.2))
    (hg : ∀ s H C cl fp, PG (Blk X scope s H C cl fp) tg g) (hi1 : ∀ s H C cl fp, PI (Blk X scope s H C cl fp) tg1 iter1 wi1) (hg1 : ∀ s H C cl fp, PG (Blk X scope s H C cl fp) tg1 g1)
    (hk : ∀ s H C cl fp, PE (Blk X scope s H C cl fp) kx tk) (he : ∀ s H C cl fp, PE (Blk X scope s H C cl fp) vx tv)
    (hs : ∀ x, foldedSetIterable iter X.env x = pure x := by intro _; rfl) (hs1 : ∀ env x, foldedSetIterable iter1 env x = pure x := by intro _ _; rfl) :
    PE X (.DictComp kx vx [⟨tg, iter, [], 0⟩, ⟨tg1, iter1, [], 0⟩] scope pos) (tDc2 wi g wi1 g1 tk tv (own.map (·.2)) vs1) := by
  refine ⟨fun pins s σ H Q I h => ?_⟩
  rw [arm_eval_DictComp]
  have hfree : ∀ y ∈ scope.names, y.2 = .free → ∃ c, X.env.cells.lookup y.1 = some c := fun y hy e => (ok.free y hy e).elim (fun k => I.ok.has _ (.inl k)) fun k => I.ok.has _ (.inr k)
  refine wpAny_comprehension_free (use := none) rfl hs (closure_ok hfree) ok.kind (fun y hy e => by rw [ok.uniq y hy, e])
    (thn (hi.run pins s σ H _ I h) fun xv s1 hx => thn hx fun itv s2 h2 => ?_)
  obtain ⟨it, fp, tn, J, H2, e, I2, T, st2, f2, q⟩ := h2
  subst e
  refine wpAny_newObj_type (newEnv_comp ?_)
  generalize hD : s2.heap.objs.size = D
  obtain ⟨W, ⟨m0, w0⟩, turn⟩ := q D (I2.hok.fresh (Nat.le_of_eq hD))
  generalize hs3 : ({ s2 with heap := s2.heap.push { cls := .type "dict", data := .dict #[] } } : Shared) = s3
  have h3 : s3.heap = s2.heap.push { cls := .type "dict", data := .dict #[] } := by rw [← hs3]
  have kp3 : ∀ b o, s2.heap.get? b = some o → s3.heap.get? b = some o := fun b o e => by rw [h3]; exact Heap.get?_push_of_some _ e
  have I3 : Inv X pins σ (upd H2 D (.dT [])) s3 := by
    rw [← hs3]
    refine I2.laid (t' := s2.toks) (fun b o e => Heap.get?_push_of_some _ e) (Nat.le_of_eq hD) ?_
    rw [← hD]
    exact dt_empty s2.heap I2.big
  have f3 : ∀ b ∈ fp, FpOk X pins (upd H2 D (.dT [])) b ∧ b < s3.heap.objs.size := fun b hb => by
    obtain ⟨o, e, _⟩ := T.obj _ _ st2 b hb
    have hlt := Heap.lt_size e
    refine ⟨⟨?_, (f2 b hb).2⟩, by rw [h3, Heap.size_push]; exact Nat.lt_succ_of_lt hlt⟩
    rw [upd_ne (by rw [← hD]; exact Nat.ne_of_lt hlt)]
    exact (f2 b hb).1
  have I4 := block_start I3 ok hN f3
  have p0 := hg s3 (upd H2 D (.dT [])) s3.heap.objs.size (cellsFrom (s3.heap.objs.size + 1) scope.names (cloFrom X.env.cells scope.names [])) fp
  have p1 := hi1 s3 (upd H2 D (.dT [])) s3.heap.objs.size (cellsFrom (s3.heap.objs.size + 1) scope.names (cloFrom X.env.cells scope.names [])) fp
  have p2 := hg1 s3 (upd H2 D (.dT [])) s3.heap.objs.size (cellsFrom (s3.heap.objs.size + 1) scope.names (cloFrom X.env.cells scope.names [])) fp
  have p3 := hk s3 (upd H2 D (.dT [])) s3.heap.objs.size (cellsFrom (s3.heap.objs.size + 1) scope.names (cloFrom X.env.cells scope.names [])) fp
  have p4 := he s3 (upd H2 D (.dT [])) s3.heap.objs.size (cellsFrom (s3.heap.objs.size + 1) scope.names (cloFrom X.env.cells scope.names [])) fp
  unfold Blk at p0 p1 p2 p3 p4
  show codeAny _ _ (.compStart (.DictComp kx vx [⟨tg, iter, [], 0⟩, ⟨tg1, iter1, [], 0⟩] scope pos) 0 (.ref it) (.ref D) (compEnvC scope (cellsFrom (s3.heap.objs.size + 1) scope.names (cloFrom X.env.cells scope.names [])) s3.heap.objs.size X.env)) (compPost (model X.prog X.w) X.A X.xe none (EP X pins σ Q) (.ref D) s3.heap.objs.size) { s3 with heap := pushCells (s3.heap.push { cls := .type "dict", data := .dict #[] }) scope.names }
  have nfp : ∀ b ∈ fp, (upd H2 D (.dT [])) b = none := fun b hb => (f3 b hb).1.1
  generalize hce : compEnvC scope (cellsFrom (s3.heap.objs.size + 1) scope.names (cloFrom X.env.cells scope.names [])) s3.heap.objs.size X.env = ce at I4 p0 p1 p2 p3 p4 ⊢
  have cL : ce.locals = s3.heap.objs.size := by subst hce; rfl
  generalize hH3 : upd H2 D (.dT []) = H3 at I3 I4 p0 p1 p2 p3 p4 w0 nfp f3
  generalize hs4 : ({ s3 with heap := pushCells (s3.heap.push { cls := .type "dict", data := .dict #[] }) scope.names } : Shared) = s4 at I4 ⊢
  have st4 : tn 0 s4.heap := T.keep _ _ _ st2 fun b _ o e => by rw [← hs4]; exact pushCells_keeps _ _ _ _ (Heap.get?_push_of_some _ (kp3 b o e))
  have stat : ∀ {σ' : L2.St} {H' : Hp} {s' : Shared}, Inv (X.blk s3 H3 scope ce fp) [] σ' H' s' → (∀ b ∈ fp, H' b = none) → ∀ b ∈ fp, FpOk (X.blk s3 H3 scope ce fp) [] H' b := fun {σ' H' s'} I' hn b hb =>
    ⟨hn b hb, (I'.ok.exf b hb).1, I'.ok.exfs b hb, .inl hb, fun x c e => (I'.ok.exf b hb).2 x c e, fun p hp => absurd (show p ∈ ([] : List (Addr × Obj)) ++ [] from hp) (by simp)⟩
  have loop : codeAny (model X.prog X.w) X.A (.compLoop (.DictComp kx vx [⟨tg, iter, [], 0⟩, ⟨tg1, iter1, [], 0⟩] scope pos) 0 (.ref it) (.ref D) ce) (compPost (model X.prog X.w) X.A X.xe none (EP X pins σ Q) (.ref D) s3.heap.objs.size) s4 := by
    refine loop_a (hs1 ce) (fun n s' => ∃ i H', Inv (X.blk s3 H3 scope ce fp) [] (wipe σ (own.map (·.2))) H' s' ∧ tn i s'.heap ∧ (∀ b ∈ fp, H' b = none) ∧ W i n H') ?_ m0 ⟨0, H3, I4, st4, nfp, w0⟩
    rintro n s5 ⟨i, H5, I5, st5, n5, w5⟩
    rcases turn i n H5 w5 with ⟨stop, qq⟩ | ⟨go, Nx, hNx, step⟩
    · refine thnF (T.done (X.blk s3 H3 scope ce fp) rfl rfl rfl hc i [] s5 _ H5 (fun _ _ => False) I5 (stat I5 n5) st5 stop) fun r s6 ⟨hr, I6⟩ => ?_
      subst hr
      have I7 : Inv X pins σ H5 s6 := I3.call' (ch := fp) I6.os I6.base I6.hok I6.bare fun b hb => ⟨(f3 b hb).1.2.2.2.1, (f3 b hb).1.2.1, (f3 b hb).1.2.2.2.2.1, (f3 b hb).1.2.2.2.2.2⟩
      have nC : H5 s3.heap.objs.size = none := by
        rw [← cL]
        exact I6.free
      obtain ⟨m, hn, _⟩ := I6.loc
      have hn : s6.heap.Ns s3.heap.objs.size m := by rw [← cL]; exact hn
      refine ⟨m, hn, fun h'' sb => ?_⟩
      obtain ⟨g0, g1, g2, g3, g4, g5⟩ := I3.fpOk (Nat.le_refl _) nC
      exact ⟨.ref D, H5, I7.turned (t' := s6.toks) (fun b o hb e => (sb.2 b hb).trans e) g0 g1 g3 g4 g5, rfl, qq⟩
    · refine thnF (T.item (X.blk s3 H3 scope ce fp) rfl rfl rfl hc i [] s5 _ H5 (fun _ _ => False) I5 (stat I5 n5) st5 go) fun r s6 ⟨u, hr, h6⟩ => ?_
      subst hr
      refine thnF h6 fun _ s7 ⟨x, H7, I7, r7, y7, st7, n7⟩ => ?_
      refine thnF (p0.run _ s7 _ H7 x u _ (I7.pinned (stat I7 n7) (T.obj _ _ st7)) r7 (step x H7 y7)) fun _ s8 ⟨σ8, H8, I8, hw8, q8⟩ => ?_
      have fin : ∀ {σ9 : L2.St} {s' : Shared} {H' : Hp}, Inv (X.blk s3 H3 scope ce fp) ([] ++ pinsAt fp s7.heap) σ9 H' s' → (wipe σ (own.map (·.2))).length = σ9.length → (∀ (j : Nat) v, (wipe σ (own.map (·.2)))[j]? = some (some v) → σ9[j]? = some (some v)) → Nx H' →
          ∃ m, m < n ∧ ∃ i H', Inv (X.blk s3 H3 scope ce fp) [] (wipe σ (own.map (·.2))) H' s' ∧ tn i s'.heap ∧ (∀ b ∈ fp, H' b = none) ∧ W i m H' := fun {σ9 s' H'} I' hl hk nx => by
        obtain ⟨m', hm, w'⟩ := hNx H' nx
        have pin' : ∀ b ∈ fp, ∀ o, s7.heap.get? b = some o → s'.heap.get? b = some o ∧ H' b = none := fun b hb o e =>
          let z := I'.pin (b, o) (List.mem_append_right _ (List.mem_append_right _ (mem_pinsAt hb e)))
          ⟨z.1, z.2.1⟩
        refine ⟨m', hm, i + 1, H', (I'.unpinned (pins := [])).weak hl hk, T.keep _ _ _ st7 fun b hb o e => (pin' b hb o e).1, fun b hb => ?_, w'⟩
        obtain ⟨o, e, _⟩ := T.obj _ _ st7 b hb
        exact (pin' b hb o e).2
      have hl8 : (wipe σ (own.map (·.2))).length = σ8.length := by rw [← hw8, wipe_length]
      have hk9 : ∀ (j : Nat) v, (wipe σ (own.map (·.2)))[j]? = some (some v) → (wipe σ8 vs1)[j]? = some (some v) := fun j v e => by
        rw [← hw8] at e
        obtain ⟨e1, e2⟩ := wipe_some e
        rw [wipe_out fun z => e2 (hv j z)]
        exact e1
      refine thnF (p1.run _ s8 σ8 H8 _ I8 q8) fun xv s10 hx => thnF hx fun itv s11 h11 => ?_
      obtain ⟨it1, fp1, tn1, J1, H11, e1, I11, T1, st11, f11, W1, ⟨m1, w1⟩, turn1⟩ := h11
      subst e1
      have stat1 : ∀ {H' : Hp}, (∀ b ∈ fp1, H' b = none) → ∀ b ∈ fp1, FpOk (X.blk s3 H3 scope ce fp) ([] ++ pinsAt fp s7.heap) H' b := fun hn b hb => ⟨hn b hb, (f11 b hb).2⟩
      have loop1 : codeAny (model X.prog X.w) X.A (.compLoop (.DictComp kx vx [⟨tg, iter, [], 0⟩, ⟨tg1, iter1, [], 0⟩] scope pos) 1 (.ref it1) (.ref D) ce)
          (fun r s' => match r with
            | .ok _ => ∃ m, m < n ∧ ∃ i H', Inv (X.blk s3 H3 scope ce fp) [] (wipe σ (own.map (·.2))) H' s' ∧ tn i s'.heap ∧ (∀ b ∈ fp, H' b = none) ∧ W i m H'
            | .error _ => False) s11 := by
        refine loop_b (fun k s' => ∃ j H', Inv (X.blk s3 H3 scope ce fp) ([] ++ pinsAt fp s7.heap) (wipe σ8 vs1) H' s' ∧ tn1 j s'.heap ∧ (∀ b ∈ fp1, H' b = none) ∧ W1 j k H') ?_ m1 ⟨0, H11, I11.weak (wipe_length _ _) (fun j v e => (wipe_some e).1), st11, fun b hb => (f11 b hb).1, w1⟩
        rintro k s12 ⟨j, H12, I12, st12, n12, w12⟩
        rcases turn1 j k H12 w12 with ⟨stop1, nx1⟩ | ⟨go1, Nx1, hNx1, step1⟩
        · refine thnF (T1.done (X.blk s3 H3 scope ce fp) rfl rfl rfl hc j _ s12 (wipe σ8 vs1) H12 (fun _ _ => False) I12 (stat1 n12) st12 stop1) fun r s13 ⟨hr, I13⟩ => ?_
          subst hr
          exact fin I13 (hl8.trans (wipe_length σ8 vs1).symm) hk9 nx1
        · refine thnF (T1.item (X.blk s3 H3 scope ce fp) rfl rfl rfl hc j _ s12 (wipe σ8 vs1) H12 (fun _ _ => False) I12 (stat1 n12) st12 go1) fun r s13 ⟨u1, hr, h13⟩ => ?_
          subst hr
          refine thnF h13 fun _ s14 ⟨x1, H14, I14, r14, y14, st14, n14⟩ => ?_
          refine thnF (p2.run _ s14 (wipe σ8 vs1) H14 x1 u1 _ (I14.pinned (stat1 n14) (T1.obj _ _ st14)) r14 (step1 x1 H14 y14)) fun _ s15 ⟨σ15, H15, I15, hw15, q15⟩ => ?_
          have fin1 : ∀ {s' : Shared} {H' : Hp}, Inv (X.blk s3 H3 scope ce fp) (([] ++ pinsAt fp s7.heap) ++ pinsAt fp1 s14.heap) σ15 H' s' → Nx1 H' → ∃ m, m < k ∧ ∃ j H', Inv (X.blk s3 H3 scope ce fp) ([] ++ pinsAt fp s7.heap) (wipe σ8 vs1) H' s' ∧ tn1 j s'.heap ∧ (∀ b ∈ fp1, H' b = none) ∧ W1 j m H' := fun {s' H'} I' nx => by
            obtain ⟨m', hm, w'⟩ := hNx1 H' nx
            have pin' : ∀ b ∈ fp1, ∀ o, s14.heap.get? b = some o → s'.heap.get? b = some o ∧ H' b = none := fun b hb o e =>
              let z := I'.pin (b, o) (List.mem_append_right _ (List.mem_append_right _ (mem_pinsAt hb e)))
              ⟨z.1, z.2.1⟩
            refine ⟨m', hm, j + 1, H', I'.unpinned.weak (by rw [← hw15, wipe_length]) (fun j v e => by rw [← hw15] at e; exact (wipe_some e).1), T1.keep _ _ _ st14 fun b hb o e => (pin' b hb o e).1, fun b hb => ?_, w'⟩
            obtain ⟨o, e, _⟩ := T1.obj _ _ st14 b hb
            exact (pin' b hb o e).2
          refine thnF (p3.run _ s15 σ15 H15 _ I15 q15) fun z s16 ⟨yk, H16, I16, r16, q16⟩ => ?_
          refine thnF (p4.run _ s16 σ15 H16 _ I16 q16) fun z2 s17 ⟨yv, H17, I17, r17, b, kvs, key, ek, hD17, hb17, hz17, nx⟩ => ?_
          subst ek
          cases r16
          exact dset_t (X := X.blk s3 H3 scope ce fp) hu I17 hD17 hb17 hz17 r17 fun s18 I18 => fin1 I18 nx
      exact start_b loop1 (T1.self X.A 0 _ _ _ st11 loop1)
  exact codeAny_compStart_dict loop (T.self X.A 0 _ _ _ st4 loop)
end
end OwnR
set_option Elab.async false
set_option linter.all false
set_option maxRecDepth 100000
set_option maxHeartbeats 4000000
/-! for k, v in d.items(), the keys tuples; sorted(a tuple of texts); a dict display of one pair -/
namespace OwnR
open PySem PySem.Spec PyProof.Rows L2
section
variable {X : Cx} {pins : List (Addr × Obj)} {σ : L2.St} {H : Hp} {s : Shared} {d : Addr} {o : Obj}
theorem frzT2 {kvs : List (List Key × V)} (I : Inv X pins σ H s) (h : H d = some (.frz o (.dT kvs))) :
    (d == sysModules) = false ∧ s.heap.get? d = some o ∧ o.ExactDict ∧ ∃ (es : Array DictEntry) (ep : Nat), o.data = .dict es ep ∧ es.size = kvs.length ∧
      ∀ (i : Nat) (k : List Key) (v : V), kvs[i]? = some (k, v) → ∃ (en : DictEntry) (q : Addr), es[i]? = some en ∧ en.key = .ref q ∧ H q = some (.tup (k.map kV)) ∧ RelV v en.val := by
  obtain ⟨hd, z, hs, xs, pr, o', es, ep, ho, hx, hdt, he, _⟩ := I.hok d _ h
  rw [hd] at ho
  cases ho
  refine ⟨hs, hd, hx, es, ep, hdt, ?_, fun i k v e => ?_⟩
  · have l1 : es.size = xs.length := size_of_entries he
    have l2 : kvs.length = xs.length := Paired.length pr
    omega
  · obtain ⟨b, hb, e1, e2, e3⟩ := paired_get pr e
    have q := entry_at he i
    rw [hb] at q
    exact ⟨_, b.2.1, q, rfl, e2, e3⟩
end
/-- the pairs, each a new tuple of the key's own tuple and the value -/
def Itit (d : Addr) (o : Obj) (kvs : List (List Key × V)) : It :=
  ⟨fun i H => H d = some (.frz o (.dT kvs)) ∧ i < kvs.length, fun i H x H' => ∃ T k v q, kvs[i]? = some (k, v) ∧ x = .ref T ∧ H T = none ∧ H q = some (.tup (k.map kV)) ∧ H' = upd H T (.tup [.ref q, v]), fun i H => H d = some (.frz o (.dT kvs)) ∧ kvs.length ≤ i⟩
section
variable {P : Program} {w : World} {K : PySem.W.Frag} {d : Addr} {o : Obj} {es : Array DictEntry} {ep : Nat}
theorem turn_itemsT {kvs : List (List Key × V)} {elts : List Expr} {kk : Nat} {tpos : Pos} (it : Addr) (hod : o.data = .dict es ep) :
    Turn P w K (.Tuple elts kk tpos) (Itit d o kvs) [it] it (fun i h => ∃ ok ov, IsItemIter h it d i kvs.length ep ok ov) where
  mem := by simp
  obj := fun i h st b hb => by
    have e : b = it := by simpa using hb
    subst e
    obtain ⟨ok, ov, e⟩ := st
    exact ⟨_, e, fun v z => nomatch z⟩
  keep := fun i h h' st k => let ⟨ok, ov, e⟩ := st; ⟨ok, ov, k it (by simp) _ e⟩
  item := by
    intro X hP hw hK hc i pins s σ H E I hf st hg
    subst hP hw hK
    obtain ⟨hd, hi⟩ := hg
    obtain ⟨hs, hgd, hx, es', ep', hdt, hsz, ent⟩ := frzT2 I hd
    obtain ⟨rfl, rfl⟩ := dict_ep hod hdt
    obtain ⟨⟨k, v⟩, hkv⟩ : ∃ p, kvs[i]? = some p := ⟨kvs[i], List.getElem?_eq_getElem hi⟩
    obtain ⟨en, q, hen, hkey, hq, rv⟩ := ent i k v hkv
    obtain ⟨ok, ov, he⟩ := st
    rw [← hsz] at he
    have hlt : it < s.heap.objs.size := Heap.lt_size he
    have hie : i < es'.size := by omega
    refine DT.nextI he ⟨o, hgd, hx, hod⟩ hie fun h' ho hT hz hk => ?_
    have een : es'[i] = en := by
      rw [Array.getElem?_eq_getElem hie] at hen
      exact Option.some.inj hen
    rw [een, hkey] at ho hT
    refine ⟨_, rfl, wpAny_letOwnedTupleGo_items (s := { s with heap := h' }) ho fun h'' he' sb => ?_⟩
    have hT2 : h''.get? s.heap.objs.size = some { cls := .type "tuple", data := .seq #[.ref q, en.val] } := (sb.2 _ (Nat.ne_of_gt hlt)).trans hT
    have new : ObjOk X.prog X.w (upd H s.heap.objs.size (.tup [.ref q, v])) h'' s.heap.objs.size (.tup [.ref q, v]) :=
      ⟨by show 2 ≤ sizeLine; decide, [.ref q, en.val], .cons rfl (.cons rv .nil), ⟨_, hT2, rfl, _, rfl⟩⟩
    have I1 : Inv X pins σ (upd H s.heap.objs.size (.tup [.ref q, v])) { s with heap := h'' } :=
      I.turnedNew (t' := s.toks) (ch := [it]) (fun b ob hb e => (sb.2 b (by simpa using hb)).trans (hk b ob (by simpa using hb) e)) hf (Nat.le_refl _) new
    refine ⟨.ref s.heap.objs.size, _, I1, rfl, ⟨_, k, v, q, hkv, rfl, I.hok.fresh (Nat.le_refl _), hq, rfl⟩, ⟨.ref q, en.val, ?_⟩, fun b hb => ?_⟩
    · rw [← hsz]; exact he'
    · have e : b = it := by simpa using hb
      rw [e, upd_ne (Nat.ne_of_lt hlt)]
      exact (hf it (by simp)).1
  done := by
    intro X hP hw hK hc i pins s σ H E I hf st hg
    subst hP hw hK
    obtain ⟨hd, hi⟩ := hg
    obtain ⟨f0, f1, f2, f3, f4, f5⟩ := hf it (by simp)
    obtain ⟨hs, hgd, hx, es', ep', hdt, hsz, ent⟩ := frzT2 I hd
    obtain ⟨rfl, rfl⟩ := dict_ep hod hdt
    obtain ⟨ok, ov, he⟩ := st
    rw [← hsz] at he
    exact DT.endI (I.ok.hd hc) he ⟨o, hgd, hx, hod⟩ (by omega) fun h' eb => ⟨rfl, I.turned (t' := s.toks) (fun b ob hb e => eb b ob hb e) f0 f1 f3 f4 f5⟩
  self := fun A i s Q E st h => let ⟨_, _, e⟩ := st; PySem.W.kcp_self e h
end
def iItemsT (td : TE) : TI := fun σ H R => td σ H fun x H1 => ∃ d o kvs, x = .ref d ∧ H1 d = some (.frz o (.dT kvs)) ∧ R (Itit d o kvs) H1
section
variable {X : Cx} {e : Expr} {td : TE} {apos cpos : Pos}
theorem pi_itemsT {elts : List Expr} {kk : Nat} {tpos : Pos} (he : PE X e td) (hbase : attributeBase e "items" X.env (eval e X.env) = eval e X.env := by rfl) (hline : (apos.endLine == cpos.line) = true := by rfl) :
    PI X (.Tuple elts kk tpos) (.Call (.Attribute e "items" apos) [] [] cpos) (iItemsT td) := by
  refine ⟨fun pins s σ H R I h => ?_⟩
  refine wpAny_Call_method (T := "dict") (id := "dict.items") hbase rfl hline F.plainAttrs_dict F.slot_dict_items F.type_dict_items (thn (he.run pins s σ H _ I h) fun u s1 ⟨x, H1, I1, rx, d, o, kvs, ex, hd, q⟩ => ?_)
  subst ex
  obtain rfl : u = Value.ref d := rx
  obtain ⟨hs, hgd, hx, es, ep, hdt, hsz, ent⟩ := frzT2 I1 hd
  have raw : DT.Raw s1.heap d es ep := ⟨o, hgd, hx, hdt⟩
  refine ⟨raw.typeIs, fun b z => by cases z; exact ⟨o, hgd, hx.2.1⟩, ?_⟩
  have I2 : Inv X pins σ H1 { s1 with heap := s1.heap.push { cls := .type "dict_items", data := .fields #[.ref d] } } := I1.kept (t' := s1.toks) fun b ob q => Heap.get?_push_of_some _ q
  have fin : wpAny (model X.prog X.w) X.A (pyIter (.ref s1.heap.objs.size)) (PIE X pins σ (.Tuple elts kk tpos) R) X.xe { s1 with heap := s1.heap.push { cls := .type "dict_items", data := .fields #[.ref d] } } := by
    refine DT.iterI (d := d) (es := es) (ep := ep) ⟨_, Heap.get?_push_size _ rfl, rfl, rfl⟩ (raw.push _) (pi_one (tk := s1.toks) I2 _ (turn_itemsT _ hdt) ⟨.none, .none, ?_⟩ q)
    rw [← hsz]
    exact Heap.get?_push_size _ rfl
  show wpAny _ _ (callWith cpos (.builtin "dict.items") [.ref d] [] []) _ X.xe s1
  exact method_meetsIn F.slot_dict_items F.entry_dict_items rfl (PySem.evalArgs_none ⟨rfl, raw.typeIs, F.args_dict_items_1 _, _, DT.meetsItems (es := es) (ep := ep) hs, raw, fin⟩)
end
theorem walk_itemsT {d : Addr} {o : Obj} {kvs : List (List Key × V)} : Walk (Itit d o kvs) kvs.length (fun H => H d = some (.frz o (.dT kvs))) (fun i H x H' => ∃ T k v q, kvs[i]? = some (k, v) ∧ x = .ref T ∧ H T = none ∧ H q = some (.tup (k.map kV)) ∧ H' = upd H T (.tup [.ref q, v])) :=
  ⟨fun i H hi h => ⟨h, hi⟩, fun H h => ⟨h, Nat.le_refl _⟩, fun i H x H' hi h y => y⟩
/-- {k: v}, k a tuple -/
def tD1 (tk tv : TE) : TE := fun σ H Q => ∀ p, H p = none → tk σ (upd H p (.dT [])) fun y H1 => tv σ H1 fun z H2 => ∃ b key, y = .ref b ∧ H2 b = some (.tup (key.map kV)) ∧ H2 p = some (.dT []) ∧ Q (.ref p) (upd H2 p (.dT [(key, z)]))
section
variable {X : Cx} {k v : Expr} {tk tv : TE} {pos : Pos}
theorem pe_d1 (hu : X.A.units + 64 < cLine) (hk : PE X k tk) (hv : PE X v tv) : PE X (.Dict [some k] [v] pos) (tD1 tk tv) := by
  refine ⟨fun pins s σ H Q I h => ?_⟩
  have hsh : (evalEachOpt [some k] X.env).zip ((evalEach [v] X.env).map fun v => do let x ← v; standAt pos; pure x) = [(eval k X.env, do let x ← eval v X.env; standAt pos; pure x)].map fun p => (some p.1, p.2) := by rfl
  rw [arm_eval_Dict, hsh, dictDisplay_pairs _ (by simp) (by simp)]
  have hn : H s.heap.objs.size = none := I.hok.fresh (Nat.le_refl _)
  have I0 : Inv X pins σ (upd H s.heap.objs.size (.dT [])) { s with heap := s.heap.push { cls := .type "dict", data := .dict #[] } } := I.laid (t' := s.toks) (fun _ _ q => Heap.get?_push_of_some _ q) (Nat.le_refl _) (dt_empty s.heap I.big)
  refine wpAny_bind (wpAny_standAt (wpAny_bind (wpAny_subDictH (knd := tupleKind (mixKind X.prog X.w)) (Q := fun d s' => wpAny (model X.prog X.w) X.A (pure (Value.ref d)) (EP X pins σ Q) X.xe s') (by show X.A.units < cLine; omega) (by simp) ?_)))
  refine evalPairs_cons (thn (hk.run pins _ σ _ _ I0 (h _ hn)) fun kv s1 ⟨y, H1, I1, ry, q1⟩ => ?_)
  refine wpAny_bind (thn (hv.run pins s1 σ H1 _ I1 q1) fun vv s2 ⟨z, H2, I2, rz, b, key, ey, hb, hp, q2⟩ => wpAny_bind (wpAny_standAt (wpAny_pure ?_)))
  subst ey
  obtain rfl : kv = Value.ref b := ry
  obtain ⟨hz, hs, xs, rel, dd⟩ := dt_of I2.hok hp
  have exs : xs = [] := by cases rel; rfl
  subst exs
  refine evalPairs_nil ⟨[(key, b, vv)], ⟨rfl, rfl, key_of I2.hok hb, trivial⟩, dd, fun h' tk' dd' sb => wpAny_pure ?_⟩
  have dd2 : h'.DictOfH (tupleKind (mixKind X.prog X.w)) s.heap.objs.size [(key, b, vv)] := dd'
  obtain ⟨o, es, ep, ho, hx, hdat, hes, _, hnd⟩ := dd2
  refine ⟨.ref s.heap.objs.size, upd H2 s.heap.objs.size (.dT [(key, z)]), d_write (t' := tk') I2 (by rw [hp]; exact True.intro) sb ⟨o, ho⟩ ⟨by show 1 ≤ sizeLine; decide, hs, [(key, b, vv)], .cons ⟨rfl, ?_, rz⟩ .nil, o, es, ep, ho, hx, hdat, hes, hnd⟩, rfl, q2⟩
  rw [upd_ne (ne_of hb hp (fun z => nomatch z))]
  exact hb
end
/-- sorted(t), t a tuple of texts -/
def rSortedTS (K : PySem.W.Frag) : List V → Hp → VK → Prop := fun vs H Q => ∃ (a : Addr) (xs : List Str), vs = [V.ref a] ∧ SqT K H a (xs.map V.str) ∧ xs.length < 64 ∧
  ∀ (ys : List Str) (p : Addr), ys.Perm xs → sortedS ys = true → H p = none → Q (.ref p) (upd H p (.lst (ys.map V.str)))
theorem cr_sortedTS {X : Cx} : CallR X (.builtin "sorted") (rSortedTS X.K) := by
  intro pins s σ H vs us Q I r h
  obtain ⟨a, xs, rfl, ht, h64, q⟩ := h
  obtain ⟨its, rv, ⟨o, ho, hc, n, hd⟩, hz⟩ := I.tuple ht
  have hS := rv.strs
  have hlen := rv.length
  rw [List.length_map] at hlen
  have e3 : sizeLine = 16777216 := sizeLine_eq
  rw [Vals.ref1 r]
  refine Calls.call_function_entry kind_sorted plain_sorted entry_sorted (args_sorted1 _) ?_
  unfold Builtin.«sorted»
  refine wpAny_bind (m := checkCount "sorted" 1 1 _) (wpAny_pure ?_)
  refine wpAny_bind (wpAny_collect_seq (A := X.A.in1) a (.inr rfl) ho hc hd (fun h' kp => ?_) (by simp only [List.size_toArray]; omega))
  refine wpAny_bind (wpAny_newList ?_ (by simp; omega))
  have hob : (h'.push { cls := .type "list", data := .seq its.toArray }).get? h'.objs.size = some (seqObj "list" its.toArray 0) := Heap.get?_push_size _ rfl
  refine wpAny_bind (wpAny_holding (wpAny_call_entry slot_list_sort ⟨_, hob, rfl⟩ entry_list_sort (list_sort_treeKAny strKind_oneLt hob hS.keysOf (fun v₁ v₂ rest e => keyKind_strs (by rw [← e]; exact hS)) (by omega) fun st' hp hs => ?_) (args_list_sort _)))
  obtain ⟨ss', h1, h2, h3⟩ := sorted_out_str hS hp hs
  have I1 : Inv X pins σ H { s with heap := h' } := I.kept (t' := s.toks) kp
  obtain ⟨ep, he'⟩ := sortedHeap_at (vs := its) (out := (arrOf st').map (·.2)) hob
  have hl2 : (ss'.map V.str).length ≤ sizeLine := by rw [List.length_map, h2.length_eq]; omega
  have hn : H h'.objs.size = none := I1.hok.fresh (Nat.le_refl _)
  refine ⟨.none, rfl, wpAny_pure ⟨_, rfl, .ref h'.objs.size, upd H h'.objs.size (.lst (ss'.map V.str)), I1.laid (t' := s.toks) (fun b ob e => ?_) (Nat.le_refl _) ⟨hl2, _, ep, vals_of_strs h1, ?_⟩, rfl, q ss' _ h2 h3 hn⟩⟩
  · have hlt : b < h'.objs.size := Heap.lt_size e
    rw [sortedHeap_old (Nat.ne_of_lt hlt) (by show b < (h'.push _).objs.size; rw [Heap.size_push]; exact Nat.lt_succ_of_lt hlt)]
    exact Heap.get?_push_of_some _ e
  · rw [Array.toArray_toList]
    exact he'
end OwnR
namespace OwnR
open PySem PySem.Spec PyProof.Rows L2
theorem pi_listK (K : PySem.W.Frag) {X : Cx} {tg e : Expr} {te : TE} (he : PE X e te) (h : X.K = K := by rfl) : PI X tg e (iList K te) := h ▸ pi_list he
theorem pi_tupK (K : PySem.W.Frag) {X : Cx} {tg e : Expr} {te : TE} (he : PE X e te) (h : X.K = K := by rfl) : PI X tg e (iTup K te) := h ▸ pi_tup he
end OwnR
set_option Elab.async false
set_option linter.all false
set_option maxRecDepth 100000
set_option maxHeartbeats 4000000
/-! exchanges -/
namespace Own
open PySem PySem.Spec PyProof.Rows L2 He OwnR
theorem mem_putK {κ : Type} [DecidableEq κ] {kvs : List (κ × V)} {k : κ} {v : V} {p : κ × V} (h : p ∈ putK kvs k v) : p ∈ kvs ∨ p = (k, v) := by
  unfold putK at h
  split at h
  · obtain ⟨kv, hkv, e⟩ := List.mem_map.mp h
    by_cases c : kv.1 = k
    · rw [if_pos c] at e
      subst c
      exact .inr e.symm
    · rw [if_neg c] at e
      exact .inl (e ▸ hkv)
  · rcases List.mem_append.mp h with h | h
    · exact .inl h
    · exact .inr (List.mem_singleton.mp h)
theorem put_some {κ : Type} [DecidableEq κ] {kvs : List (κ × V)} {k j : κ} {v : V} (h : (valV kvs j).isSome = true) : (valV (putK kvs k v) j).isSome = true := by
  rw [valV_put]
  split
  · rfl
  · exact h
theorem valV_mem {κ : Type} [DecidableEq κ] : ∀ {kvs : List (κ × V)} {k : κ} {v : V}, valV kvs k = some v → (k, v) ∈ kvs
  | [], k, v, h => by rw [valV_nil] at h; cases h
  | p :: r, k, v, h => by
    by_cases c : p.1 = k
    · rw [valV_pos c] at h
      obtain rfl := Option.some.inj h
      subst c
      exact List.mem_cons_self
    · rw [valV_neg c] at h
      exact List.mem_cons_of_mem _ (valV_mem h)
theorem strs_inj : ∀ {l m : List Str}, l.map V.str = m.map V.str → l = m
  | [], [], _ => rfl
  | [], _ :: _, h => by cases h
  | _ :: _, [], h => by cases h
  | a :: l, b :: m, h => by
    rw [List.map_cons, List.map_cons] at h
    injection h with h1 h2
    injection h1 with h1
    rw [h1, strs_inj h2]
theorem kV_strs (ys : List Str) : ((ys.map Sum.inr : List Key).map kV) = ys.map V.str := by rw [List.map_map]; rfl
section
variable {P : Program} {w : World} {K : PySem.W.Frag} {mg : Str → Option Value} {base : Heap}
/-- a way: its cost, its mates -/
def WayV (K : PySem.W.Frag) (H : Hp) (i : Nat) (v : V) : Prop := ∃ (t mt : Addr) (c : Int) (ms : List Str), v = .ref t ∧ SqT K H t [.int c, .ref mt] ∧ SqT K H mt (ms.map V.str) ∧ ms.length ≤ i
theorem WayV.t {H H' : Hp} {i : Nat} {v : V} (h : WayV K H i v) (g : TT K H H') : WayV K H' i v := by
  obtain ⟨t, mt, c, ms, rfl, h1, h2, h3⟩ := h
  exact ⟨t, mt, c, ms, rfl, g _ _ h1, g _ _ h2, h3⟩
def DictW (K : PySem.W.Frag) (H : Hp) (kvs : List (List Key × V)) (i : Nat) : Prop := ∀ p ∈ kvs, (∃ ks : List Str, p.1 = ks.map Sum.inr ∧ ks.length ≤ i) ∧ WayV K H i p.2
theorem DictW.t {H H' : Hp} {i : Nat} {kvs : List (List Key × V)} (h : DictW K H kvs i) (g : TT K H H') : DictW K H' kvs i := fun p hp => ⟨(h p hp).1, (h p hp).2.t g⟩
theorem ex_put {D : Ends} {σ : L2.St} {H : Hp} {c g : Int} {mt ld p4 : Addr} {m : Str} {ms ys : List Str} {i : Nat} {lk : List (List Key × V)} (h5 : σ[5]? = some (some (.int c))) (h8 : σ[8]? = some (some (.int g))) (h6 : σ[6]? = some (some (.ref mt))) (h7 : σ[7]? = some (some (.str m))) (h3 : σ[3]? = some (some (.ref ld))) (h9 : σ[9]? = some (some (.ref p4)))
    (hmt : SqT K H mt (ms.map V.str)) (hms : ms.length ≤ i) (hi : i ≤ 8) (hl : H ld = some (.dT lk)) (hk : H p4 = some (.tup (ys.map V.str))) (hz : lk.length ≤ 1000) (q : ∀ v H', Same H H' → WayV K H' (i + 1) v → D.nx σ (upd H' ld (.dT (putK lk (ys.map Sum.inr) v)))) :
    sDPut (tVar 3) (tVar 9) (tTup (tCons (tOp (rI0 fun i j => V.int (i + j)) (tVar 5) (tVar 8)) (tCons (tTup (StX.tStar K (tVar 6) (tCons (tVar 7) tNil))) tNil))) D σ H := by
  have e3 : sizeLine = 16777216 := sizeLine_eq
  refine ⟨_, h5, _, h8, _, _, rfl, rfl, _, h6, mt, _, rfl, .inl hmt, _, h7, by rw [List.length_append, List.length_map]; show _ + 1 ≤ _; omega, fun p5 hp5 => ?_⟩
  have s8 : Same H (upd H p5 (.tup (ms.map V.str ++ [.str m]))) := sNew hp5
  refine ⟨by show 2 ≤ sizeLine; omega, fun p6 hp6 => ?_⟩
  have s9 := s8.trans (sNew (o := .tup [.int (c + g), .ref p5]) hp6)
  have n56 : p5 ≠ p6 := fun e => by rw [← e, upd_same] at hp6; cases hp6
  refine ⟨_, h3, _, h9, ld, _, rfl, .inr ⟨lk, ys.map Sum.inr, p4, s9 _ _ hl, rfl, ?_, by omega, rfl⟩, ?_⟩
  · rw [kV_strs]; exact s9 _ _ hk
  · refine q _ _ s9 ⟨p6, p5, c + g, ms ++ [m], rfl, SqT.of upd_same, SqT.of ?_, by rw [List.length_append]; show _ + 1 ≤ _; omega⟩
    rw [upd_ne n56, upd_same, List.map_append]; rfl
def xfs (nl fd : Addr) (c m : V) : List (Str × V) := [("chosen", .ref nl), ("firsts", .ref fd), ("cost", c), ("mates", m)]
/-- the first lags -/
def FstAt (H : Hp) (fd : Addr) (names : List Str) : Prop := ∃ fkvs, H fd = some (.dT fkvs) ∧ ∀ n ∈ names, ∀ m ∈ names, ∃ v, valV fkvs [.inr n, .inr m] = some v ∧ (v = .non ∨ ∃ i : Int, v = .int i)
theorem sc_Exchange_cheapest : FnScope ["self", "ways", "name", "later", "used", "cost", "mates", "mate", "lag", "key"] ["self"] (defScope s_Exchange_cheapest) := ⟨rfl, rfl, rfl, by decide +kernel, rfl, by decide +kernel, by decide +kernel⟩
theorem b_Exchange_cheapest (E : Env K mg base) : Binds K (fdAt K (ma K (ga K "Exchange") "cheapest")) ["self"] [] := (f_Exchange_cheapest E).bindsN fun _ _ _ _ _ _ us hl => match us, hl with | [_], _ => rfl
def sp_ch (K : PySem.W.Frag) : Sp := fun vs H Q _ => ∃ (x dx nl fd : Addr) (c m : V) (names : List Str) (fkvs : List (List Key × V)), vs = [.ref x] ∧ H x = some (.ins (ga K "Exchange") dx (xfs nl fd c m)) ∧ SqL K H nl (names.map V.str) ∧ names.Nodup ∧ names.length ≤ 4 ∧ H fd = some (.dT fkvs) ∧
  (∀ n ∈ names, ∀ m ∈ names, ∃ v, valV fkvs [.inr n, .inr m] = some v ∧ (v = .non ∨ ∃ i : Int, v = .int i)) ∧ (∀ n ∈ names, ∃ i : Int, valV fkvs [.inr n, .inr n] = some (.int i)) ∧
  ∀ T H' (c : Int) (mt : Addr), Same H H' → SqT K H' T [.int c, .ref mt] → Q (.ref T) H'
theorem ok_Exchange_cheapest (E : Env K mg base) : FnOk P w K mg base CX0 4 (ma K (ga K "Exchange") "cheapest") (fdAt K (ma K (ga K "Exchange") "cheapest")) ["self"] ((sp_ch K)) := by
  refine okD (f_Exchange_cheapest E) sc_Exchange_cheapest (fun cdv A outer s H vs Q X hr h => ?_) (fun vs H Q X h => by obtain ⟨_, _, _, _, _, _, _, _, rfl, _⟩ := h; rfl)
  obtain ⟨x, dx, nl, fd, c0, m0, names, fkvs, rfl, hx, hnl, hnd, h4, hfd, hfv, hdg, q⟩ := h
  have e3 : sizeLine = 16777216 := sizeLine_eq
  refine ⟨_, (pss_cons (ps_set (i := 1) sc_Exchange_cheapest.nd rfl (Or.inl rfl) (pe_d1 hr.units (pe_tup pa_nil) (pe_tup (pa_cons pe_int (pa_cons (pe_tup pa_nil) pa_nil)))))
      (pss_cons (ps_for PassesOwn.never rfl (pi_list (pe_fldK K (pv 0))) (pg_name (i := 2) sc_Exchange_cheapest.nd rfl (Or.inl rfl)) (pss_cons (ps_set (i := 3) sc_Exchange_cheapest.nd rfl (Or.inl rfl) pe_dnewT)
      (pss_cons (ps_lock (ps_for PassesOwn.never rfl (pi_itemsT (pv 1)) (pg_tup rfl (pgs_cons (pg_name (i := 4) sc_Exchange_cheapest.nd rfl (Or.inl rfl)) (pgs_cons (pg_tup rfl (pgs_cons (pg_name (i := 5) sc_Exchange_cheapest.nd rfl (Or.inl rfl)) (pgs_cons (pg_name (i := 6) sc_Exchange_cheapest.nd rfl (Or.inl rfl)) pgs_nil))) pgs_nil))) (pss_one (ps_for PassesOwn.never rfl (pi_list (pe_fldK K (pv 0))) (pg_name (i := 7) sc_Exchange_cheapest.nd rfl (Or.inl rfl)) (pss_cons (ps_set (i := 8) sc_Exchange_cheapest.nd rfl (Or.inl rfl) (pe_dget (hu_of hr) (pe_fldK K (pv 0)) (pe_tup (pa_cons (pv 2) (pa_cons (pv 7) pa_nil))) (fun _ _ => rfl)))
      (pss_one (ps_if (PW.pt (pw_and (pt_cmpR op_notN (pv 8) pe_non (nomark _)) (pw_and1 (pt_cmpR (opNotInK K) (pv 7) (pv 4) rfl)))) (pss_cons (ps_set (i := 9) sc_Exchange_cheapest.nd rfl (Or.inl rfl) (pe_callTy (tupK K) rfl (n_tuple E) boot_tuple (pa_cons (pe_callB cr_sortedTS rfl (n_sorted E) boot_sorted (pa_cons (pe_tup (StX.pa_star (pv 4) (pa_cons (pv 7) pa_nil))) pa_nil)) pa_nil)))
      (pss_one (ps_if (PW.pt (pw_or (pt_cmp (pc_dnotin (hu_of hr) (pv 9) (pv 3))) (pw_or1 (pt_cmpR op_lt (pe_op op_add (pv 5) (pv 8)) (pe_ix (ixT K) (pe_dget (hu_of hr) (pv 3) (pv 9) (fun _ _ => rfl)) pe_int (fun _ _ => rfl)) (nomark _))))) (pss_one (ps_dput (hu_of hr) (pv 3) (pv 9) (pe_tup (pa_cons (pe_op op_add (pv 5) (pv 8)) (pa_cons (pe_tup (StX.pa_star (pv 6) (pa_cons (pv 7) pa_nil))) pa_nil))) rfl)) pss_nil))) pss_nil)))))))
      (pss_one (ps_set (i := 1) sc_Exchange_cheapest.nd rfl (Or.inl rfl) (pv 3))))))
      (pss_one (ps_ret (pe_dget (hu_of hr) (pv 1) (pe_callTy (tupK K) rfl (n_tuple E) boot_tuple (pa_cons (pe_callB cr_sortedS rfl (n_sorted E) boot_sorted (pa_cons (pe_fldK K (pv 0)) pa_nil)) pa_nil)) (fun _ _ => rfl)))))), ?_⟩
  refine fun wd0 hwd0 => ?_
  refine ⟨by show 0 ≤ sizeLine; omega, fun p0 hp0 => ?_⟩
  refine ⟨by show 0 ≤ sizeLine; omega, fun p1 hp1 => ?_⟩
  refine ⟨by show 2 ≤ sizeLine; omega, fun p2 hp2 => ?_⟩
  have u1 : Same H (upd H wd0 (.dT [])) := sNew hwd0
  have u2 := u1.trans (sNew (o := .tup []) hp0)
  have u3 := u2.trans (sNew (o := .tup []) hp1)
  have u4 := u3.trans (sNew (o := .tup [.int 0, .ref p1]) hp2)
  have np0w : p0 ≠ wd0 := fun e => by rw [e, upd_same] at hp0; cases hp0
  have np1w : p1 ≠ wd0 := fun e => by rw [e, upd_ne (Ne.symm np0w), upd_same] at hp1; cases hp1
  have np01 : p0 ≠ p1 := fun e => by rw [← e, upd_same] at hp1; cases hp1
  have np2w : p2 ≠ wd0 := fun e => by rw [e, upd_ne (Ne.symm np1w), upd_ne (Ne.symm np0w), upd_same] at hp2; cases hp2
  have np02 : p0 ≠ p2 := fun e => by rw [← e, upd_ne np01, upd_same] at hp2; cases hp2
  have np12 : p1 ≠ p2 := fun e => by rw [← e, upd_same] at hp2; cases hp2
  have hwd2 : upd (upd (upd (upd H wd0 (.dT [])) p0 (.tup [])) p1 (.tup [])) p2 (.tup [.int 0, .ref p1]) wd0 = some (.dT []) := by
    rw [upd_ne (Ne.symm np2w), upd_ne (Ne.symm np1w), upd_ne (Ne.symm np0w)]; exact upd_same
  refine ⟨p0, [], rfl, by rw [upd_ne np02, upd_ne np01]; exact upd_same, hwd2, ?_⟩
  have t5 : TT K (upd (upd (upd (upd H wd0 (.dT [])) p0 (.tup [])) p1 (.tup [])) p2 (.tup [.int 0, .ref p1])) (upd (upd (upd (upd (upd H wd0 (.dT [])) p0 (.tup [])) p1 (.tup [])) p2 (.tup [.int 0, .ref p1])) wd0 (.dT [([], .ref p2)])) := TT.upd hwd2 (fun _ z => by cases z) (fun _ _ z => by cases z)
  have s5 : Same H (upd (upd (upd (upd (upd H wd0 (.dT [])) p0 (.tup [])) p1 (.tup [])) p2 (.tup [.int 0, .ref p1])) wd0 (.dT [([], .ref p2)])) := sMut u4 hwd0
  refine ⟨_, rfl, x, _, dx, _, .ref nl, rfl, s5 _ _ hx, c_Exchange E, a_Exchange_chosen E, rfl, nl, rfl, ⟨_, s5.seq hnl⟩, ?_⟩
  refine for_it (walk_list (K := K) (a := nl) (xs := names.map V.str)) (fun i σ H' => Same H H' ∧ ∃ wd kvs, (∃ v2 v3 v4 v5 v6 v7 v8 v9, σ = [some (.ref x), some (.ref wd), v2, v3, v4, v5, v6, v7, v8, v9]) ∧ H wd = none ∧ H' wd = some (.dT kvs) ∧ DictW K H' kvs i ∧ kvs.length ≤ 4 ^ i ∧
      ∃ ks0 : List Str, ks0.Perm (names.take i) ∧ sortedS ks0 = true ∧ (valV kvs (ks0.map Sum.inr)).isSome = true)
    ⟨s5, wd0, _, ⟨_, _, _, _, _, _, _, _, rfl⟩, hwd0, upd_same, fun p hp => ?_, Nat.le_refl _, [], ?_, rfl, rfl⟩ (fun i σ H' _ h => h.1.seq hnl) ?_ ?_
  · rw [List.mem_singleton.mp hp]
    refine ⟨⟨[], rfl, Nat.le_refl _⟩, WayV.t ⟨p2, p1, 0, [], rfl, SqT.of upd_same, SqT.of ?_, Nat.le_refl _⟩ t5⟩
    rw [upd_ne np12]; exact upd_same
  · rw [List.take_zero]
  · rintro i y σ H1 H2 hi ⟨s1, wd, kvs, ⟨v2, v3, v4, v5, v6, v7, v8, v9, rfl⟩, hwN, hw, hDW, hkl, ks0, hpm0, hst0, hk0⟩ ⟨rfl, hy⟩
    obtain ⟨nm, en, rfl⟩ := map_get hy
    have hnm := List.mem_of_getElem? en
    have hi4 : i < 4 := by rw [List.length_map] at hi; omega
    have h4i : 4 ^ i ≤ 64 := Nat.le_trans (Nat.pow_le_pow_right (by decide) (show i ≤ 3 by omega)) (by decide)
    refine fun ld hld => ?_
    have s2 : Same H2 (upd H2 ld (.dT [])) := sNew hld
    have nwl : wd ≠ ld := fun e => by rw [e, hld] at hw; cases hw
    have hldN : H ld = none := by
      cases e : H ld with
      | none => rfl
      | some o => exact absurd (s1 _ _ e) (by rw [hld]; exact fun z => nomatch z)
    refine ⟨wd, .dT kvs, s2 _ _ hw, trivial, fun od => ?_⟩
    have t3 : TT K (upd H2 ld (.dT [])) (upd (upd H2 ld (.dT [])) wd (.frz od (.dT kvs))) := TT.upd (s2 _ _ hw) (fun _ z => by cases z) (fun _ _ z => by cases z)
    have hC0 : ∀ ks : List Str, ks.map Sum.inr = (ks0.map Sum.inr : List Key) → ks = ks0 := fun ks h => by
      have := congrArg (fun l : List Key => l.map kV) h
      simp only [kV_strs] at this
      exact strs_inj this
    refine ⟨_, rfl, wd, od, kvs, rfl, upd_same, ?_⟩
    refine for_it (walk_itemsT (d := wd) (o := od) (kvs := kvs)) (fun j σ H' => Same H H' ∧ H' wd = some (.frz od (.dT kvs)) ∧ DictW K H' kvs i ∧ ∃ lk, (∃ v4 v5 v6 v7 v8 v9, σ = [some (.ref x), some (.ref wd), some (.str nm), some (.ref ld), v4, v5, v6, v7, v8, v9]) ∧ H' ld = some (.dT lk) ∧ DictW K H' lk (i + 1) ∧ lk.length ≤ j * 4 ∧
        ∀ j0, j0 < j → (kvs[j0]?).map (·.1) = some (ks0.map Sum.inr) → ∃ ks1 : List Str, ks1.Perm (names.take (i + 1)) ∧ sortedS ks1 = true ∧ (valV lk (ks1.map Sum.inr)).isSome = true)
      ⟨sMut (s1.trans s2) hwN, upd_same, DictW.t hDW ((TT.same s2).trans t3), [], ⟨_, _, _, _, _, _, rfl⟩, by rw [upd_ne (Ne.symm nwl)]; exact upd_same, (fun p hp => nomatch hp), Nat.zero_le _, fun j0 h => by omega⟩ (fun j σ H' _ h => h.2.1) ?_ ?_
    · rintro j z σ H5 H6 hj ⟨s5, hw5, hDW5, lk, ⟨w4, w5, w6, w7, w8, w9, rfl⟩, hl5, hDL5, hll5, hC5⟩ ⟨T, k, v, q1, hkv, rfl, hT, hq, rfl⟩
      obtain ⟨⟨ks, eks, hksl⟩, t, mt, c, ms, rfl, ht, hmt, hms⟩ := hDW5 _ (List.mem_of_getElem? hkv)
      have eks : k = ks.map Sum.inr := eks
      subst eks
      rw [kV_strs] at hq
      have s6 : Same H5 (upd H5 T (.tup [.ref q1, .ref t])) := sNew hT
      have s06 := s5.trans s6
      refine ⟨T, _, rfl, SqT.of upd_same, rfl, _, _, rfl, _, _, rfl, t, _, rfl, sT s6 ht, rfl, _, _, rfl, _, _, rfl, rfl, rfl, ?_⟩
      refine ⟨_, rfl, x, _, dx, _, .ref nl, rfl, s06 _ _ hx, c_Exchange E, a_Exchange_chosen E, rfl, nl, rfl, ⟨_, s06.seq hnl⟩, ?_⟩
      refine for_it (walk_list (K := K) (a := nl) (xs := names.map V.str)) (fun k' σ H' => Same H H' ∧ H' wd = some (.frz od (.dT kvs)) ∧ DictW K H' kvs i ∧ SqT K H' q1 (ks.map V.str) ∧ SqT K H' mt (ms.map V.str) ∧ ∃ lk, (∃ v7 v8 v9, σ = [some (.ref x), some (.ref wd), some (.str nm), some (.ref ld), some (.ref q1), some (.int c), some (.ref mt), v7, v8, v9]) ∧ H' ld = some (.dT lk) ∧ DictW K H' lk (i + 1) ∧ lk.length ≤ j * 4 + k' ∧
          ∀ j0, (j0 < j ∨ (j0 = j ∧ i < k')) → (kvs[j0]?).map (·.1) = some (ks0.map Sum.inr) → ∃ ks1 : List Str, ks1.Perm (names.take (i + 1)) ∧ sortedS ks1 = true ∧ (valV lk (ks1.map Sum.inr)).isSome = true)
        ⟨s06, s6 _ _ hw5, hDW5.t (TT.same s6), sT s6 (SqT.of hq), sT s6 hmt, lk, ⟨_, _, _, rfl⟩, s6 _ _ hl5, hDL5.t (TT.same s6), hll5, fun j0 h => hC5 j0 (by omega)⟩ (fun k' σ H' _ h => h.1.seq hnl) ?_ ?_
      · rintro k' z σ H7 H8 hk' ⟨s7, hw7, hDW7, hq7, hmt7, lk7, ⟨w7, w8, w9, rfl⟩, hl7, hDL7, hll7, hC7⟩ ⟨rfl, hz⟩
        obtain ⟨m, em, rfl⟩ := map_get hz
        have hm := List.mem_of_getElem? em
        have hk4 : k' < 4 := by rw [List.length_map] at hk'; omega
        have hj64 : j < 64 := by omega
        obtain ⟨lv, elv, hlv⟩ := hfv nm hnm m hm
        have key : ∀ j0, (j0 < j ∨ (j0 = j ∧ i < k' + 1)) → (kvs[j0]?).map (·.1) = some (ks0.map Sum.inr) → (j0 < j ∨ (j0 = j ∧ i < k')) ∨ (ks = ks0 ∧ m = nm) := fun j0 h1 h2 => by
          rcases h1 with h1 | ⟨h1, h3⟩
          · exact .inl (.inl h1)
          · rcases Nat.lt_or_ge i k' with h | h
            · exact .inl (.inr ⟨h1, h⟩)
            · have : k' = i := by omega
              subst this
              subst h1
              rw [hkv] at h2
              exact .inr ⟨hC0 ks (Option.some.inj h2), Option.some.inj (em.symm.trans en)⟩
        have stay : ∀ (H9 : Hp) (a8 a9 : Option V), Same H8 H9 → (ks = ks0 → m = nm → ∃ ks1 : List Str, ks1.Perm (names.take (i + 1)) ∧ sortedS ks1 = true ∧ (valV lk7 (ks1.map Sum.inr)).isSome = true) →
            (Same H H9 ∧ H9 wd = some (.frz od (.dT kvs)) ∧ DictW K H9 kvs i ∧ SqT K H9 q1 (ks.map V.str) ∧ SqT K H9 mt (ms.map V.str) ∧ ∃ lk, (∃ v7 v8 v9, [some (V.ref x), some (V.ref wd), some (V.str nm), some (V.ref ld), some (V.ref q1), some (V.int c), some (V.ref mt), some (V.str m), a8, a9] = [some (.ref x), some (.ref wd), some (.str nm), some (.ref ld), some (.ref q1), some (.int c), some (.ref mt), v7, v8, v9]) ∧ H9 ld = some (.dT lk) ∧ DictW K H9 lk (i + 1) ∧ lk.length ≤ j * 4 + (k' + 1) ∧
              ∀ j0, (j0 < j ∨ (j0 = j ∧ i < k' + 1)) → (kvs[j0]?).map (·.1) = some (ks0.map Sum.inr) → ∃ ks1 : List Str, ks1.Perm (names.take (i + 1)) ∧ sortedS ks1 = true ∧ (valV lk (ks1.map Sum.inr)).isSome = true) := fun H9 a8 a9 s9 hb =>
          ⟨s7.trans s9, s9 _ _ hw7, DictW.t hDW7 (TT.same s9), sT s9 hq7, sT s9 hmt7, lk7, ⟨_, _, _, rfl⟩, s9 _ _ hl7, DictW.t hDL7 (TT.same s9), by omega, fun j0 h1 h2 => (key j0 h1 h2).elim (fun h => hC7 j0 h h2) fun h => hb h.1 h.2⟩
        refine ⟨_, rfl, x, _, dx, _, .ref fd, rfl, s7 _ _ hx, c_Exchange E, a_Exchange_firsts E, rfl, _, rfl, _, rfl, by show 2 ≤ sizeLine; omega, fun p hp => ?_⟩
        have s9 : Same H8 (upd H8 p (.tup [.str nm, .str m])) := sNew hp
        have gg := DGet.t (H := upd H8 p (.tup [.str nm, .str m])) (a := fd) (b := p) (kvs := fkvs) (k := [.inr nm, .inr m]) (s9 _ _ (s7 _ _ hfd)) upd_same
        rw [elv] at gg
        refine ⟨fd, _, rfl, gg, ?_⟩
        rcases hlv with rfl | ⟨g, rfl⟩
        · refine ⟨_, rfl, rfl, _, rfl, ite_f (b := !decide (V.non = V.non)) rfl (ite_f rfl ?_)⟩
          refine stay _ _ _ s9 fun h1 h2 => ?_
          subst h2
          obtain ⟨g, eg⟩ := hdg m hnm
          rw [elv] at eg
          cases eg
        · refine ⟨_, rfl, rfl, _, rfl, ite_t (b := !decide (V.int g = V.non)) rfl ?_⟩
          refine ⟨_, rfl, _, rfl, q1, _, rfl, .inr (sT s9 hq7), rfl, flat_strs' _, ?_⟩
          rw [inV_strs]
          refine ⟨_, rfl, ?_⟩
          by_cases cm : m ∈ ks
          · refine ite_f (b := !decide (m ∈ ks)) (by rw [decide_eq_true cm]; rfl) ?_
            refine stay _ _ _ s9 fun h1 h2 => ?_
            exfalso
            subst h1
            subst h2
            have hmt : m ∈ names.take i := hpm0.subset cm
            obtain ⟨a, ha, ea⟩ := List.mem_iff_getElem.mp hmt
            rw [List.length_take] at ha
            rw [List.getElem_take] at ea
            have := (List.getElem?_inj (i := a) (j := i) (by omega) hnd).mp (by rw [en, List.getElem?_eq_getElem (by omega), ea])
            omega
          · refine ite_t (b := !decide (m ∈ ks)) (by rw [decide_eq_false cm]; rfl) ?_
            refine ⟨_, rfl, q1, _, rfl, .inl (sT s9 hq7), _, rfl, by rw [List.length_append, List.length_map]; show _ + 1 ≤ _; omega, fun p2 hp2 => ?_⟩
            refine ⟨p2, ks ++ [m], rfl, SqT.of (by rw [upd_same, List.map_append]; rfl), by rw [List.length_append]; show _ + 1 < _; omega, fun ys p3 hym hys hp3 => ?_⟩
            refine ⟨p3, _, rfl, .inl ⟨SqL.of upd_same, fun p4 hp4 => ?_⟩⟩
            have s10 := ((s9.trans (sNew hp2)).trans (sNew hp3)).trans (sNew (o := .tup (ys.map V.str)) hp4)
            have hkey : upd (upd (upd (upd H8 p (.tup [.str nm, .str m])) p2 (.tup (ks.map V.str ++ [.str m]))) p3 (.lst (ys.map V.str))) p4 (.tup (ys.map V.str)) p4 = some (.tup (ys.map V.str)) := upd_same
            have fullp : ks = ks0 → m = nm → ys.Perm (names.take (i + 1)) := fun h1 h2 => by
              subst h1
              subst h2
              rw [List.take_succ, en]
              exact hym.trans (List.Perm.append_right _ hpm0)
            have g2 := DGet.t (H := upd (upd (upd (upd H8 p (.tup [.str nm, .str m])) p2 (.tup (ks.map V.str ++ [.str m]))) p3 (.lst (ys.map V.str))) p4 (.tup (ys.map V.str))) (a := ld) (b := p4) (kvs := lk7) (k := ys.map Sum.inr) (s10 _ _ hl7) (by rw [kV_strs]; exact hkey)
            have hput : ∀ (a8 a9 : Option V) (v : V) (H' : Hp), Same (upd (upd (upd (upd H8 p (.tup [.str nm, .str m])) p2 (.tup (ks.map V.str ++ [.str m]))) p3 (.lst (ys.map V.str))) p4 (.tup (ys.map V.str))) H' → WayV K H' (i + 1) v →
                (Same H (upd H' ld (.dT (putK lk7 (ys.map Sum.inr) v))) ∧ upd H' ld (.dT (putK lk7 (ys.map Sum.inr) v)) wd = some (.frz od (.dT kvs)) ∧ DictW K (upd H' ld (.dT (putK lk7 (ys.map Sum.inr) v))) kvs i ∧ SqT K (upd H' ld (.dT (putK lk7 (ys.map Sum.inr) v))) q1 (ks.map V.str) ∧ SqT K (upd H' ld (.dT (putK lk7 (ys.map Sum.inr) v))) mt (ms.map V.str) ∧ ∃ lk, (∃ v7 v8 v9, [some (V.ref x), some (V.ref wd), some (V.str nm), some (V.ref ld), some (V.ref q1), some (V.int c), some (V.ref mt), some (V.str m), a8, a9] = [some (.ref x), some (.ref wd), some (.str nm), some (.ref ld), some (.ref q1), some (.int c), some (.ref mt), v7, v8, v9]) ∧ upd H' ld (.dT (putK lk7 (ys.map Sum.inr) v)) ld = some (.dT lk) ∧ DictW K (upd H' ld (.dT (putK lk7 (ys.map Sum.inr) v))) lk (i + 1) ∧ lk.length ≤ j * 4 + (k' + 1) ∧
                  ∀ j0, (j0 < j ∨ (j0 = j ∧ i < k' + 1)) → (kvs[j0]?).map (·.1) = some (ks0.map Sum.inr) → ∃ ks1 : List Str, ks1.Perm (names.take (i + 1)) ∧ sortedS ks1 = true ∧ (valV lk (ks1.map Sum.inr)).isSome = true) := by
              intro a8 a9 v H' s11 hv
              have s12 := s10.trans s11
              have hl' := s12 _ _ hl7
              have tf : TT K H' (upd H' ld (.dT (putK lk7 (ys.map Sum.inr) v))) := TT.upd hl' (fun _ z => by cases z) (fun _ _ z => by cases z)
              have ta := (TT.same s12).trans tf
              refine ⟨sMut (s7.trans s12) hldN, by rw [upd_ne nwl]; exact s12 _ _ hw7, DictW.t hDW7 ta, ta _ _ hq7, ta _ _ hmt7, _, ⟨_, _, _, rfl⟩, upd_same, fun pr hpr => ?_, Nat.le_trans (putK_len' _ _ _) (by omega), fun j0 h1 h2 => ?_⟩
              · rcases mem_putK hpr with hpr | rfl
                · exact (DictW.t hDL7 ta) pr hpr
                · exact ⟨⟨ys, rfl, by rw [hym.length_eq, List.length_append]; show _ + 1 ≤ _; omega⟩, hv.t tf⟩
              · rcases key j0 h1 h2 with h | ⟨h3, h4⟩
                · obtain ⟨ks1, a1, a2, a3⟩ := hC7 j0 h h2
                  exact ⟨ks1, a1, a2, put_some a3⟩
                · exact ⟨ys, fullp h3 h4, hys, by rw [valV_put, if_pos rfl]; rfl⟩
            refine ⟨_, rfl, _, rfl, ld, _, rfl, g2, _, rfl, ?_⟩
            cases ev : valV lk7 (ys.map Sum.inr) with
            | none => exact ite_t rfl (ite_t rfl (ex_put rfl rfl rfl rfl rfl rfl (sT s10 hmt7) hms (by omega) (s10 _ _ hl7) hkey (by omega) fun v H' s11 hv => hput _ _ v H' s11 hv))
            | some ov =>
              rw [ev] at g2
              obtain ⟨t', mt', c', ms', rfl, ht', _⟩ := (DictW.t hDL7 (TT.same s10) _ (valV_mem ev)).2
              refine ite_f rfl ⟨_, rfl, _, rfl, _, _, rfl, rfl, _, rfl, _, rfl, ld, _, rfl, g2, t', _, _, .int c', rfl, rfl, ht', rfl, _, _, rfl, rfl, _, rfl, ite2 (fun _ => ?_) (fun _ => ?_)⟩
              · exact ex_put rfl rfl rfl rfl rfl rfl (sT s10 hmt7) hms (by omega) (s10 _ _ hl7) hkey (by omega) fun v H' s11 hv => hput _ _ v H' s11 hv
              · exact stay _ _ _ s10 fun h1 h2 => ⟨ys, fullp h1 h2, hys, by rw [ev]; rfl⟩
      · rintro σ H7 ⟨s7, hw7, hDW7, hq7, hmt7, lk7, ⟨w7, w8, w9, rfl⟩, hl7, hDL7, hll7, hC7⟩
        rw [List.length_map] at hll7 hC7
        refine ⟨s7, hw7, hDW7, lk7, ⟨_, _, _, _, _, _, rfl⟩, hl7, hDL7, by omega, fun j0 hj0 => hC7 j0 ?_⟩
        have hin : i < names.length := by rw [List.length_map] at hi; exact hi
        rcases Nat.lt_or_ge j0 j with h | h
        · exact .inl h
        · exact .inr ⟨by omega, hin⟩
    · rintro σ H5 ⟨s5, hw5, hDW5, lk, ⟨w4, w5, w6, w7, w8, w9, rfl⟩, hl5, hDL5, hll5, hC5⟩
      have tf : TT K H5 (upd H5 wd (.dT kvs)) := TT.upd hw5 (fun _ z => by cases z) (fun _ _ z => by cases z)
      refine ⟨hw5, _, rfl, sMut s5 hwN, ld, lk, ⟨_, _, _, _, _, _, _, _, rfl⟩, hldN, by rw [upd_ne (Ne.symm nwl)]; exact hl5, hDL5.t tf, ?_, ?_⟩
      · have : kvs.length * 4 ≤ 4 ^ i * 4 := Nat.mul_le_mul_right 4 hkl
        rw [Nat.pow_succ]; omega
      · obtain ⟨v, ev⟩ := Option.isSome_iff_exists.mp hk0
        obtain ⟨j0, hj0, e0⟩ := List.mem_iff_getElem.mp (valV_mem ev)
        exact hC5 j0 hj0 (by rw [List.getElem?_eq_getElem hj0, e0]; rfl)
  · rintro σ H1 ⟨s1, wd, kvs, ⟨v2, v3, v4, v5, v6, v7, v8, v9, rfl⟩, hwN, hw, hDW, hkl, ks0, hpm0, hst0, hk0⟩
    refine ⟨_, rfl, _, rfl, x, _, dx, _, .ref nl, rfl, s1 _ _ hx, c_Exchange E, a_Exchange_chosen E, rfl, nl, names, rfl, s1.seq hnl, by omega, fun ys p hym hys hp => ?_⟩
    refine ⟨p, _, rfl, .inl ⟨SqL.of upd_same, fun p2 hp2 => ?_⟩⟩
    rw [List.length_map, List.take_length] at hpm0
    have e0 : ks0 = ys := sorted_unique (sorted_le hst0) (sorted_le hys) (hpm0.nodup_iff.mpr hnd) (hym.nodup_iff.mpr hnd) fun n => hpm0.mem_iff.trans hym.mem_iff.symm
    subst e0
    obtain ⟨v, ev⟩ := Option.isSome_iff_exists.mp hk0
    have s2 : Same H1 (upd (upd H1 p (.lst (ks0.map V.str))) p2 (.tup (ks0.map V.str))) := (sNew hp).trans (sNew hp2)
    have g := DGet.t (H := upd (upd H1 p (.lst (ks0.map V.str))) p2 (.tup (ks0.map V.str))) (a := wd) (b := p2) (kvs := kvs) (k := ks0.map Sum.inr) (s2 _ _ hw) (by rw [kV_strs]; exact upd_same)
    rw [ev] at g
    obtain ⟨t, mt, c, ms, rfl, ht, _⟩ := (DictW.t hDW (TT.same s2) _ (valV_mem ev)).2
    exact ⟨wd, _, rfl, g, q t _ c mt (s1.trans s2) ht⟩
end
end Own
set_option Elab.async false
set_option linter.all false
set_option maxRecDepth 100000
set_option maxHeartbeats 4000000
/-! exchanges: their maker -/
namespace Own
open PySem PySem.Spec PyProof.Rows L2 He OwnR
theorem dc2_in {J1 : It} {n : Nat} {G : Hp → Prop} {Y : Nat → Hp → V → Hp → Prop} (w : Walk J1 n G Y) {g1 : TG} {tk tv : TE} {vs1 : List Nat} {σ2 : L2.St} {H4 : Hp} {D : Addr} {Nx : Hp → Prop} (Pv : Nat → Hp → Prop) (h0 : Pv 0 H4) (hG : ∀ i H, i ≤ n → Pv i H → G H)
    (hs : ∀ j x H H', j < n → Pv j H → Y j H x H' → g1 x (wipe σ2 vs1) H' fun σ3 H5 => wipe σ3 vs1 = wipe σ2 vs1 ∧ tk σ3 H5 fun y H7 => tv σ3 H7 fun z H8 => ∃ b kvs key, y = .ref b ∧ H8 D = some (.dT kvs) ∧ H8 b = some (.tup (key.map kV)) ∧ kvs.length < sizeLine ∧ Pv (j + 1) (upd H8 D (.dT (putK kvs key z))))
    (hd : ∀ H, Pv n H → Nx H) : ∃ W1 : Nat → Nat → Hp → Prop, (∃ m, W1 0 m H4) ∧ ∀ j k H, W1 j k H →
      (J1.stop j H ∧ Nx H) ∨ (J1.go j H ∧ ∃ Nx1 : Hp → Prop, (∀ H', Nx1 H' → ∃ k', k' < k ∧ W1 (j + 1) k' H') ∧ ∀ x H', J1.yld j H x H' → g1 x (wipe σ2 vs1) H' fun σ3 H5 => wipe σ3 vs1 = wipe σ2 vs1 ∧
        tk σ3 H5 fun y H7 => tv σ3 H7 fun z H8 => ∃ b kvs key, y = .ref b ∧ H8 D = some (.dT kvs) ∧ H8 b = some (.tup (key.map kV)) ∧ kvs.length < sizeLine ∧ Nx1 (upd H8 D (.dT (putK kvs key z)))) := by
  refine ⟨fun i m H => m = n - i ∧ i ≤ n ∧ Pv i H, ⟨n, by simp, Nat.zero_le _, h0⟩, ?_⟩
  rintro i m H ⟨rfl, hi, p⟩
  have q := hG i H hi p
  by_cases hlt : i < n
  · have e : ∀ H', Pv (i + 1) H' → ∃ m', m' < n - i ∧ m' = n - (i + 1) ∧ i + 1 ≤ n ∧ Pv (i + 1) H' := fun H' p' => ⟨n - (i + 1), by omega, rfl, hlt, p'⟩
    exact .inr ⟨w.goes i H hlt q, Pv (i + 1), e, fun x H' y => hs i x H H' hlt p (w.yields i H x H' hlt q y)⟩
  · have e : i = n := by omega
    subst e
    exact .inl ⟨w.stops H q, hd H p⟩
theorem dc2_out {J : It} {n : Nat} {G : Hp → Prop} {Y : Nat → Hp → V → Hp → Prop} (w : Walk J n G Y) {g : TG} {R : (Hp → Prop) → L2.St → Hp → Prop} {vs : List Nat} {σ : L2.St} {H1 : Hp} {Qd : Hp → Prop} (Pv : Nat → Hp → Prop) (h0 : Pv 0 H1) (hG : ∀ i H, i ≤ n → Pv i H → G H)
    (hs : ∀ i x H H', i < n → Pv i H → Y i H x H' → g x (wipe σ vs) H' fun σ2 H2 => wipe σ2 vs = wipe σ vs ∧ R (Pv (i + 1)) σ2 H2) (hd : ∀ H, Pv n H → Qd H) :
    ∃ W : Nat → Nat → Hp → Prop, (∃ m, W 0 m H1) ∧ ∀ i m H, W i m H →
      (J.stop i H ∧ Qd H) ∨ (J.go i H ∧ ∃ Nx : Hp → Prop, (∀ H', Nx H' → ∃ m', m' < m ∧ W (i + 1) m' H') ∧ ∀ x H', J.yld i H x H' → g x (wipe σ vs) H' fun σ2 H2 => wipe σ2 vs = wipe σ vs ∧ R Nx σ2 H2) := by
  refine ⟨fun i m H => m = n - i ∧ i ≤ n ∧ Pv i H, ⟨n, by simp, Nat.zero_le _, h0⟩, ?_⟩
  rintro i m H ⟨rfl, hi, p⟩
  have q := hG i H hi p
  by_cases hlt : i < n
  · have e : ∀ H', Pv (i + 1) H' → ∃ m', m' < n - i ∧ m' = n - (i + 1) ∧ i + 1 ≤ n ∧ Pv (i + 1) H' := fun H' p' => ⟨n - (i + 1), by omega, rfl, hlt, p'⟩
    exact .inr ⟨w.goes i H hlt q, Pv (i + 1), e, fun x H' y => hs i x H H' hlt p (w.yields i H x H' hlt q y)⟩
  · have e : i = n := by omega
    subst e
    exact .inl ⟨w.stops H q, hd H p⟩
section
variable {P : Program} {w : World} {K : PySem.W.Frag} {mg : Str → Option Value} {base : Heap}
theorem OrdAt.keepE {H H' : Hp} {v : V} {L : Lin} {kn : List Str} {x C dx : Addr} (h : OrdAt K H v L kn) (hx : H x = some (.ins C dx [])) (e : ∀ a o, a ≠ x → H a = some o → H' a = some o) : OrdAt K H' v L kn := by
  have kx := keepX_of (K := K) hx e
  have nx : ∀ a o, H a = some o → (∀ C dx, o ≠ .ins C dx []) → H' a = some o := fun a o h hn => e a o (fun z => by subst z; rw [hx] at h; exact hn _ _ (Option.some.inj h).symm) h
  have lg : ∀ u f, LagAt K H u f → LagAt K H' u f := fun u f ⟨s, p, ⟨a, C, dx, tv, hu, hC, h1, h2⟩, q⟩ => ⟨s, p, ⟨a, C, dx, tv, hu, hC, kx.2 _ _ _ _ (by simp) h1, h2.monoT kx.1⟩, q⟩
  obtain ⟨y, dy, t, od, fd, nn, okvs, fkvs, rfl, h1, h2, h3, h4, h5, h6, h7⟩ := h
  refine ⟨y, dy, t, od, fd, nn, okvs, fkvs, rfl, kx.2 _ _ _ _ (by simp [ofs]) h1, kx.1 _ _ h2, h3, nx _ _ h4 (fun _ _ z => by cases z), nx _ _ h5 (fun _ _ z => by cases z), fun n hn => ?_, fun n hn m hm => ?_⟩
  · obtain ⟨u, a, b⟩ := h6 n hn
    exact ⟨u, a, lg _ _ b⟩
  · obtain ⟨u, a, b⟩ := h7 n hn m hm
    exact ⟨u, a, lg _ _ b⟩
theorem sqL_keep {H H' : Hp} {x C dx a : Addr} {fs : List (Str × V)} {xs : List V} (h : SqL K H a xs) (hx : H x = some (.ins C dx fs)) (e : ∀ a o, a ≠ x → H a = some o → H' a = some o) : SqL K H' a xs := by
  rcases h with (h | ⟨u, h⟩) | h
  · exact .inl (.inl (e _ _ (fun z => by subst z; rw [hx] at h; cases h) h))
  · exact .inl (.inr ⟨u, e _ _ (fun z => by subst z; rw [hx] at h; cases h) h⟩)
  · exact .inr h
theorem sc_Exchange_init : FnScope ["self", "orders", "names", "name", "mate"] ["self", "orders", "names"] (defScope s_Exchange_init) := ⟨rfl, rfl, rfl, by decide +kernel, rfl, by decide +kernel, by decide +kernel⟩
theorem b_Exchange_init (E : Env K mg base) : Binds K (fdAt K (ma K (ga K "Exchange") "__init__")) ["self", "orders", "names"] [] := (f_Exchange_init E).bindsN fun _ _ _ _ _ _ us hl => match us, hl with | [_, _, _], _ => rfl
def sp_exi (K : PySem.W.Frag) : Sp := fun vs H Q _ => ∃ (x dx nl : Addr) (v : V) (M : Lin) (km names : List Str), vs = [.ref x, v, .ref nl] ∧ H x = some (.ins (ga K "Exchange") dx []) ∧ OrdAt K H v M km ∧ SqL K H nl (names.map V.str) ∧ names.Nodup ∧ names.length ≤ 4 ∧ (∀ n ∈ names, n ∈ km) ∧
  ∀ H' fd c m, (∀ a o, a ≠ x → H a = some o → H' a = some o) → H' x = some (.ins (ga K "Exchange") dx (xfs nl fd c m)) → (c = .non ∨ ∃ i : Int, c = .int i) → Q .non H'
def FsI (H : Hp) (D : Addr) (names : List Str) (i k : Nat) : Prop := ∃ fk : List (List Key × V), H D = some (.dT fk) ∧ fk.length ≤ i * 8 + k ∧ ∀ j j' n m, names[j]? = some n → names[j']? = some m → (j < i ∨ (j = i ∧ j' < k)) → ∃ v, valV fk [.inr n, .inr m] = some v ∧ (v = .non ∨ ∃ g : Int, v = .int g)
theorem ok_Exchange_init (E : Env K mg base) : FnOk P w K mg base CX0 5 (ma K (ga K "Exchange") "__init__") (fdAt K (ma K (ga K "Exchange") "__init__")) ["self", "orders", "names"] ((sp_exi K)) := by
  refine okD (f_Exchange_init E) sc_Exchange_init (fun cdv A outer s H vs Q X hr h => ?_) (fun vs H Q X h => by obtain ⟨_, _, _, _, _, _, _, rfl, _⟩ := h; rfl)
  obtain ⟨x, dx, nl, v, M, km, names, rfl, hx, hOr, hnl, hnd, h4, hsub, q⟩ := h
  have e3 : sizeLine = 16777216 := sizeLine_eq
  refine ⟨_, (pss_cons (ps_fld (pv 0) (pv 2) rfl)
      (pss_cons (ps_fld (pv 0) (pe_dc2 (own := [("name", 3), ("mate", 4)]) (vs1 := [4]) (g := (gName 3)) (g1 := (gName 4)) rfl hr.units sc_Exchange_init.nd (pi_list (pv 2)) (blkOk_by (own := [("name", 3), ("mate", 4)]) (N := (["self", "orders", "names", "name", "mate"] : List Str)) (sc := defScope s_Exchange_init) (by decide +kernel)) (by decide) (fun _ _ _ _ _ => (pg_name (i := 3) sc_Exchange_init.nd rfl (Or.inl rfl))) (fun _ _ _ _ _ => (pi_listK K (pv 2))) (fun _ _ _ _ _ => (pg_name (i := 4) sc_Exchange_init.nd rfl (Or.inl rfl))) (fun _ _ _ _ _ => (pe_tup (pa_cons (pv 3) (pa_cons (pv 4) pa_nil)))) (fun _ _ _ _ _ => (pe_prL (pe_meth (pv 1) (c_Orders E) (m_Orders_between E) (ok_Orders_between E) (hr.mono (by decide)) (b_Orders_between E) .nil pass0 (pa_cons (pv 3) (pa_cons (pv 4) pa_nil))) (q_first E) (ok_Lags_first E) (hr.mono (by decide)) (bp_Lags_first E) rfl))) rfl)
      (pss_cons (ps_asg (pe_tup (pa_cons pe_non (pa_cons (pe_tup pa_nil) pa_nil))) (pg_tup rfl (pgs_cons (pg_fld (pv 0)) (pgs_cons (pg_fld (pv 0)) pgs_nil))))
      (pss_one (ps_if (pt_not (pt_val (pe_callB (anyK K) rfl (n_any E) boot_any (pa_cons (pe_lc (own := [("name", 3)]) (g := (gName 3)) rfl sc_Exchange_init.nd (pi_list (pv 2)) (blkOk_by (own := [("name", 3)]) (N := (["self", "orders", "names", "name", "mate"] : List Str)) (sc := defScope s_Exchange_init) (by decide +kernel)) (fun _ _ _ _ _ => (pg_name (i := 3) sc_Exchange_init.nd rfl (Or.inl rfl))) (fun _ _ _ _ _ => pts_nil) (fun _ _ _ _ _ => (pe_cmpR op_isN (pe_dget (hu_of hr) (pe_fldK K (pv 0)) (pe_tup (pa_cons (pv 3) (pa_cons (pv 3) pa_nil))) (fun _ _ => rfl)) pe_non (nomark _)))) pa_nil)))) (pss_one (ps_asg (pe_meth0 (pv 0) (c_Exchange E) (m_Exchange_cheapest E) (ok_Exchange_cheapest E) (hr.mono (by decide)) (b_Exchange_cheapest E) .nil pass0) (pg_tup rfl (pgs_cons (pg_fld (pv 0)) (pgs_cons (pg_fld (pv 0)) pgs_nil))))) pss_nil))))), ?_⟩
  refine ⟨_, rfl, _, rfl, x, _, dx, [], rfl, hx, c_Exchange E, a_Exchange_chosen E, (by show 0 < 1000; decide), ?_⟩
  obtain ⟨H1, eH1⟩ : ∃ H1, H1 = upd H x (.ins (ga K "Exchange") dx [("chosen", .ref nl)]) := ⟨_, rfl⟩
  have hx1 : H1 x = some (.ins (ga K "Exchange") dx [("chosen", .ref nl)]) := by rw [eH1]; exact upd_same
  have hk1 : ∀ a o, a ≠ x → H a = some o → H1 a = some o := fun a o ha h => by rw [eH1, upd_ne ha]; exact h
  have hOr1 := hOr.keepE hx hk1
  have hnl1 := sqL_keep hnl hx hk1
  subst eH1
  refine ⟨_, rfl, nl, rfl, ⟨_, hnl1⟩, fun D hD => ?_⟩
  have s2 := sNew (o := .dT []) hD
  refine dc2_out (walk_list (K := K) (a := nl) (xs := names.map V.str)) (fun i H' => Same (upd H x (.ins (ga K "Exchange") dx [("chosen", .ref nl)])) H' ∧ FsI H' D names i 0) ⟨s2, [], upd_same, Nat.le_refl _, fun j j' n m _ _ h => by omega⟩ (fun i H' _ h => h.1.seq hnl1) ?_ ?_
  · rintro i y H2 H3 hi ⟨s3, hF3⟩ ⟨rfl, hy⟩
    obtain ⟨n, en, rfl⟩ := map_get hy
    have hi4 : i < 4 := by rw [List.length_map] at hi; omega
    refine ⟨rfl, _, rfl, nl, rfl, ⟨_, s3.seq hnl1⟩, ?_⟩
    refine dc2_in (walk_list (K := K) (a := nl) (xs := names.map V.str)) (fun k H' => Same (upd H x (.ins (ga K "Exchange") dx [("chosen", .ref nl)])) H' ∧ FsI H' D names i k) ⟨s3, hF3⟩ (fun i H' _ h => h.1.seq hnl1) ?_ ?_
    · rintro k y H4 H5 hk ⟨s5, fk, hD5, hl5, hv5⟩ ⟨rfl, hy⟩
      obtain ⟨m, em, rfl⟩ := map_get hy
      have hk4 : k < 4 := by rw [List.length_map] at hk; omega
      have hn := List.mem_of_getElem? en
      have hm := List.mem_of_getElem? em
      refine ⟨rfl, _, rfl, _, rfl, by show 2 ≤ sizeLine; omega, fun p hp => ?_⟩
      have s6 := s5.trans (sNew (o := .tup [.str n, .str m]) hp)
      have hOr6 := hOr1.mono (sameI s6)
      obtain ⟨ox, odx, ot, ood, ofd, onn, ook, ofk, rfl, hox, _⟩ := id hOr6
      refine ⟨_, rfl, ox, odx, _, rfl, hox, rfl, _, rfl, _, rfl, _, M, km, n, m, rfl, hOr6, hsub n hn, hsub m hm, fun u H7 s7 hu => ?_⟩
      obtain ⟨s, pp, ⟨a, C, dx2, tv, rfl, hC, ha, hF⟩, hq⟩ := id hu
      have fin : ∀ (z : V) (H8 : Hp), Same H7 H8 → (z = .non ∨ ∃ g : Int, z = .int g) → ∃ b kvs key, V.ref p = V.ref b ∧ H8 D = some (.dT kvs) ∧ H8 b = some (.tup (key.map kV)) ∧ kvs.length < sizeLine ∧ (Same (upd H x (.ins (ga K "Exchange") dx [("chosen", .ref nl)])) (upd H8 D (.dT (putK kvs key z))) ∧ FsI (upd H8 D (.dT (putK kvs key z))) D names i (k + 1)) := by
        intro z H8 s8 hz
        have s78 := s7.trans s8
        have s58 := (sNew (o := .tup [.str n, .str m]) hp).trans s78
        refine ⟨p, fk, [.inr n, .inr m], rfl, s58 _ _ hD5, s78 _ _ upd_same, by omega, sMut (s6.trans s78) hD, _, upd_same, Nat.le_trans (putK_len' _ _ _) (by omega), fun j j' n' m' h1 h2 h3 => ?_⟩
        rw [valV_put]
        by_cases c : ([.inr n', .inr m'] : List Key) = [.inr n, .inr m]
        · rw [if_pos c]
          exact ⟨z, rfl, hz⟩
        · rw [if_neg c]
          refine hv5 j j' n' m' h1 h2 ?_
          rcases h3 with h | ⟨h, h'⟩
          · exact .inl h
          · refine .inr ⟨h, ?_⟩
            rcases Nat.lt_or_ge j' k with q | q
            · exact q
            · exfalso
              have : j' = k := by omega
              subst this
              subst h
              obtain rfl := Option.some.inj (h1.symm.trans en)
              obtain rfl := Option.some.inj (h2.symm.trans em)
              exact c rfl
      exact ⟨a, C, dx2, _, rfl, hC, ha, _, _, rfl, hu, fun H8 s8 _ => fin _ H8 s8 (.inl rfl), fun g H8 s8 _ _ _ => fin _ H8 s8 (.inr ⟨_, rfl⟩)⟩
    · rintro H4 ⟨s4, fk, hD4, hl4, hv4⟩
      rw [List.length_map] at hl4 hv4
      refine ⟨s4, fk, hD4, by omega, fun j j' n m h1 h2 h3 => hv4 j j' n m h1 h2 ?_⟩
      have hj' := (List.getElem?_eq_some_iff.mp h2).1
      rcases h3 with h | ⟨_, h⟩
      · rcases Nat.lt_or_ge j i with q | q
        · exact .inl q
        · exact .inr ⟨by omega, hj'⟩
      · omega
  · rintro H2 ⟨s3, fk, hD2, hl2, hv2⟩
    rw [List.length_map] at hv2
    have hx2 := s3 _ _ hx1
    refine ⟨_, rfl, x, _, dx, _, rfl, hx2, c_Exchange E, a_Exchange_firsts E, (by show 1 < 1000; decide), ?_⟩
    refine ⟨by show 0 ≤ sizeLine; omega, fun p1 hp1 => ⟨by show 2 ≤ sizeLine; omega, fun p2 hp2 => ⟨p2, _, rfl, SqT.of upd_same, rfl, _, _, rfl, ?_⟩⟩⟩
    have w1 : Same (upd H2 x (.ins (ga K "Exchange") dx [("chosen", .ref nl), ("firsts", .ref D)])) (upd (upd (upd H2 x (.ins (ga K "Exchange") dx [("chosen", .ref nl), ("firsts", .ref D)])) p1 (.tup [])) p2 (.tup [.non, .ref p1])) := (sNew hp1).trans (sNew hp2)
    have hx4 := w1 _ _ upd_same
    refine ⟨_, rfl, x, _, dx, _, rfl, hx4, c_Exchange E, a_Exchange_cost E, (by show 2 < 1000; decide), ?_⟩
    refine ⟨_, _, rfl, _, rfl, x, _, dx, _, rfl, upd_same, c_Exchange E, a_Exchange_mates E, (by show 3 < 1000; decide), rfl, ?_⟩
    rw [upd_upd]
    obtain ⟨H5, eH5⟩ : ∃ H5, H5 = upd (upd (upd (upd H2 x (.ins (ga K "Exchange") dx [("chosen", .ref nl), ("firsts", .ref D)])) p1 (.tup [])) p2 (.tup [.non, .ref p1])) x (.ins (ga K "Exchange") dx (xfs nl D .non (.ref p1))) := ⟨_, rfl⟩
    have hx5 : H5 x = some (.ins (ga K "Exchange") dx (xfs nl D .non (.ref p1))) := by rw [eH5]; exact upd_same
    have k25 : ∀ a o, a ≠ x → H2 a = some o → H5 a = some o := fun a o ha h => by
      rw [eH5, upd_ne ha]
      exact w1 _ _ (by rw [upd_ne ha]; exact h)
    have k05 : ∀ a o, a ≠ x → H a = some o → H5 a = some o := fun a o ha h => k25 a o ha (s3 _ _ (hk1 a o ha h))
    have nDx : D ≠ x := fun e => by rw [e, hx2] at hD2; cases hD2
    have hD5 := k25 _ _ nDx hD2
    have hnl5 := sqL_keep hnl hx k05
    subst eH5
    refine ⟨_, rfl, nl, rfl, ⟨_, hnl5⟩, fun D2 hD2' => ?_⟩
    have hnn : ∀ n ∈ names, ∃ v, valV fk [.inr n, .inr n] = some v ∧ (v = .non ∨ ∃ g : Int, v = .int g) := fun n hn => by
      obtain ⟨j, hj, e⟩ := List.mem_iff_getElem.mp hn
      exact hv2 j j n n (by rw [List.getElem?_eq_getElem hj, e]) (by rw [List.getElem?_eq_getElem hj, e]) (.inl hj)
    refine lc_map (walk_list (K := K) (a := nl) (xs := names.map V.str)) hD2' (gv names fun n => .bl (decide (valV fk [.inr n, .inr n] = some .non))) (fun _ => true) (by rw [List.length_map]; omega) (fun H s => s.seq hnl5) ?_ ?_
    · rintro k y H6 H7 Nk Ns hk s7 ⟨rfl, hy⟩ k1 k2
      obtain ⟨n, en, rfl⟩ := map_get hy
      rw [gv_at en] at k1
      obtain ⟨v, ev, hv⟩ := hnn n (List.mem_of_getElem? en)
      refine ⟨rfl, tyes_if ?_⟩
      refine ⟨_, rfl, x, _, dx, _, .ref D, rfl, s7 _ _ hx5, c_Exchange E, a_Exchange_firsts E, rfl, _, rfl, _, rfl, by show 2 ≤ sizeLine; omega, fun p hp => ?_⟩
      have s8 := s7.trans (sNew (o := .tup [.str n, .str n]) hp)
      have g := DGet.t (H := upd H7 p (.tup [.str n, .str n])) (a := D) (b := p) (kvs := fk) (k := [.inr n, .inr n]) (s8 _ _ hD5) upd_same
      rw [ev] at g
      refine ⟨D, v, rfl, g, rfl, ?_⟩
      have := k1 rfl _ (sNew (o := .tup [.str n, .str n]) hp)
      rw [ev] at this
      have e : decide (some v = some V.non) = decide (v = V.non) := decide_eq_decide.mpr ⟨fun e => Option.some.inj e, fun e => by rw [e]⟩
      rw [← e]
      exact this
    · intro H6 s6 h6
      rw [filter_true, List.length_map, map_range_get] at h6
      refine ⟨D2, names.map fun n => decide (valV fk [.inr n, .inr n] = some .non), rfl, SqL.of (h6.trans (by rw [List.map_map]; rfl)), _, rfl, ite2 (fun c => ?_) (fun c => ?_)⟩
      · have hall : ∀ n ∈ names, ∃ g : Int, valV fk [.inr n, .inr n] = some (.int g) := fun n hn => by
          obtain ⟨v, ev, hv⟩ := hnn n hn
          rcases hv with rfl | ⟨g, rfl⟩
          · exfalso
            have : (names.map fun n => decide (valV fk [.inr n, .inr n] = some V.non)).any id = true := List.any_eq_true.mpr ⟨true, List.mem_map.mpr ⟨n, hn, decide_eq_true ev⟩, rfl⟩
            rw [this] at c
            cases c
          · exact ⟨g, ev⟩
        have hx6 := s6 _ _ hx5
        refine ⟨_, rfl, x, dx, _, rfl, hx6, rfl, x, dx, nl, D, .non, .ref p1, names, fk, rfl, hx6, s6.seq hnl5, hnd, h4, s6 _ _ hD5, fun n hn m hm => ?_, hall, fun T H8 c mt s8 hT => ?_⟩
        · obtain ⟨j, hj, e⟩ := List.mem_iff_getElem.mp hn
          obtain ⟨j', hj', e'⟩ := List.mem_iff_getElem.mp hm
          exact hv2 j j' n m (by rw [List.getElem?_eq_getElem hj, e]) (by rw [List.getElem?_eq_getElem hj', e']) (.inl hj)
        · have hx8 := s8 _ _ hx6
          refine ⟨T, _, rfl, hT, rfl, _, _, rfl, ?_⟩
          refine ⟨_, rfl, x, _, dx, _, rfl, hx8, c_Exchange E, a_Exchange_cost E, (by show 4 < 1000; decide), ?_⟩
          refine ⟨_, _, rfl, _, rfl, x, _, dx, _, rfl, upd_same, c_Exchange E, a_Exchange_mates E, (by show 4 < 1000; decide), rfl, ?_⟩
          rw [upd_upd]
          exact q _ D (.int c) (.ref mt) (fun a o ha h => by rw [upd_ne ha]; exact s8 _ _ (s6 _ _ (k05 a o ha h))) upd_same (.inr ⟨c, rfl⟩)
      · exact q H6 D .non (.ref p1) (fun a o ha h => s6 _ _ (k05 a o ha h)) (s6 _ _ hx5) (.inl rfl)
end
end Own
set_option Elab.async false
set_option linter.all false
set_option maxRecDepth 100000
set_option maxHeartbeats 4000000
/-! factors: the small parts -/
namespace Own
open PySem PySem.Spec PyProof.Rows L2 He OwnR
noncomputable def hasF (f : Nat → Bool) : Bool := @decide (∃ k, f k = true) (Classical.propDecidable _)
theorem hasF_no {f : Nat → Bool} (h : ∀ k, f k = false) : hasF f = false := by
  unfold hasF
  exact @decide_eq_false _ (Classical.propDecidable _) fun ⟨k, e⟩ => by rw [h k] at e; cases e
theorem hasF_yes {f : Nat → Bool} {k : Nat} (h : f k = true) : hasF f = true := by
  unfold hasF
  exact @decide_eq_true _ (Classical.propDecidable _) ⟨k, h⟩
section
variable {P : Program} {w : World} {K : PySem.W.Frag} {mg : Str → Option Value} {base : Heap}
theorem sc_common_period : FnScope ["periods", "found", "period", "greater", "lesser"] ["periods"] (defScope s_common_period) := ⟨rfl, rfl, rfl, by decide +kernel, rfl, by decide +kernel, by decide +kernel⟩
theorem b_common_period (E : Env K mg base) : Binds K (fdAt K (ga K "common_period")) ["periods"] [] := (f_common_period E).bindsN fun _ _ _ _ _ _ us hl => match us, hl with | [_], _ => rfl
def sp_cpd (K : PySem.W.Frag) : Sp := fun vs H Q _ => ∃ (a : Addr) (ns : List Nat), vs = [.ref a] ∧ SqL K H a (ns.map fun n => .int (n : Nat)) ∧ (∀ n ∈ ns, 0 < n ∧ n ∣ LL) ∧ ∀ r, 0 < r → r ∣ LL → Q (.int (r : Nat)) H
theorem ok_common_period (E : Env K mg base) : FnOk P w K mg base CX0 1 (ga K "common_period") (fdAt K (ga K "common_period")) ["periods"] ((sp_cpd K)) := by
  refine okD (f_common_period E) sc_common_period (fun cdv A outer s H vs Q X hr h => ?_) (fun vs H Q X h => by obtain ⟨_, _, rfl, _⟩ := h; rfl)
  obtain ⟨a, ns, rfl, hA, hn, q⟩ := h
  refine ⟨_, (pss_cons (ps_set (i := 1) sc_common_period.nd rfl (Or.inl rfl) pe_int)
      (pss_cons (ps_for PassesOwn.never rfl (pi_list (pv 0)) (pg_name (i := 2) sc_common_period.nd rfl (Or.inl rfl)) (pss_cons (ps_par (i := 3) (j := 4) rfl sc_common_period.nd rfl rfl (by decide) rfl rfl (pa_cons (pv 1) (pa_cons (pv 2) pa_nil)) (by rfl))
      (pss_cons (ps_while PassesOwn.never (pt_cmpR op_gt (pv 4) pe_int (nomark _)) (pss_one (ps_par (i := 3) (j := 4) rfl sc_common_period.nd rfl rfl (by decide) rfl rfl (pa_cons (pv 4) (pa_cons (pe_op op_mod (pe_callTy call_int1 rfl (n_int E) boot_int (pa_cons (pv 3) pa_nil)) (pv 4)) pa_nil)) (by rfl))))
      (pss_one (ps_set (i := 1) sc_common_period.nd rfl (Or.inl rfl) (pe_op op_mul (pe_op op_fdivN (pv 1) (pv 3)) (pv 2)))))))
      (pss_one (ps_ret (pv 1))))), ?_⟩
  refine ⟨_, rfl, a, rfl, ⟨_, hA⟩, ?_⟩
  refine for_it (walk_list (K := K) (a := a) (xs := ns.map fun n => V.int (n : Nat))) (fun i σ H' => H' = H ∧ ∃ (r : Nat) (v2 v3 v4 : Option V), σ = [some (.ref a), some (.int (r : Nat)), v2, v3, v4] ∧ 0 < r ∧ r ∣ LL) ⟨rfl, 1, _, _, _, rfl, by decide, Nat.one_dvd _⟩ (fun i σ H' _ h => by rw [h.1]; exact hA) ?_ ?_
  · rintro i y σ H1 H2 hi ⟨rfl, r, v2, v3, v4, rfl, hr, hd⟩ ⟨rfl, hy⟩
    obtain ⟨n, en, rfl⟩ := map_get hy
    obtain ⟨hn0, hnd⟩ := hn n (List.mem_of_getElem? en)
    refine ⟨_, rfl, _, rfl, _, _, rfl, ?_⟩
    show tWhile _ _ _ _ _
    refine while_q (fun σ H' => H' = H2 ∧ ∃ g l : Nat, σ = [some (.ref a), some (.int (r : Nat)), some (.int (n : Nat)), some (.int (g : Nat)), some (.int (l : Nat))] ∧ 0 < g ∧ Nat.gcd g l = Nat.gcd r n) (fun σ _ => match σ with | [_, _, _, _, some (.int l)] => l.toNat | _ => 0) ⟨rfl, r, n, rfl, hr, rfl⟩ ?_
    rintro σ H3 ⟨rfl, g, l, rfl, hg, hgl⟩
    refine ⟨_, rfl, _, _, rfl, rfl, _, rfl, ?_⟩
    by_cases c : 0 < l
    · refine ite_t (decide_eq_true (by omega)) (wnext ?_)
      refine ⟨_, rfl, _, rfl, .inl ⟨_, rfl, _, rfl, _, _, rfl, rfl, (by show (0 : Int) < (l : Int); omega), _, _, rfl, ?_⟩⟩
      refine ⟨⟨rfl, l, g % l, ?_, c, ?_⟩, ?_⟩
      · rfl
      · rw [← hgl, Nat.gcd_comm g l, Nat.gcd_rec l g, Nat.gcd_comm]
      · show ((g : Int) % (l : Int)).toNat < (l : Int).toNat
        have : g % l < l := Nat.mod_lt _ c
        have e : ((g : Int) % (l : Int)) = ((g % l : Nat) : Int) := by omega
        rw [e]; omega
    · refine ite_f (decide_eq_false (by omega)) ?_
      have l0 : l = 0 := by omega
      subst l0
      rw [Nat.gcd_zero_right] at hgl
      subst hgl
      have hg2 : Nat.gcd r n ≤ r := Nat.gcd_le_left _ hr
      have lr : r ≤ 27720 := Nat.le_of_dvd (by decide) hd
      have ln : n ≤ 27720 := Nat.le_of_dvd (by decide) hnd
      refine ⟨_, rfl, _, rfl, _, _, rfl, rfl, ⟨by omega, by omega⟩, _, rfl, _, _, rfl, rfl, ?_⟩
      have e2 : (r : Int).fdiv ((Nat.gcd r n : Nat) : Int) = ((r / Nat.gcd r n : Nat) : Int) := by
        rw [Int.fdiv_eq_ediv_of_nonneg _ (by omega)]
        rfl
      have e3 : r / Nat.gcd r n * n = Nat.lcm r n := by
        rw [Nat.lcm, Nat.mul_comm r n, Nat.mul_div_assoc _ (Nat.gcd_dvd_left r n), Nat.mul_comm]
      have le : r / Nat.gcd r n ≤ r := Nat.div_le_self _ _
      have e4 : (r : Int).fdiv ((Nat.gcd r n : Nat) : Int) * (n : Int) = ((Nat.lcm r n : Nat) : Int) := by
        rw [e2, ← e3]; rfl
      obtain ⟨m, hm⟩ : ∃ m, m = r / Nat.gcd r n := ⟨_, rfl⟩
      rw [← hm] at e2 e3 le
      refine ⟨.inl ⟨by rw [e2]; omega, by rw [e2]; omega⟩, ?_⟩
      refine ⟨rfl, Nat.lcm r n, _, _, _, congrArg (fun w => [some (V.ref a), some w, some (V.int (n : Nat)), some (V.int ((Nat.gcd r n : Nat) : Int)), some (V.int ((0 : Nat) : Int))]) (congrArg V.int e4), Nat.lcm_pos hr hn0, Nat.lcm_dvd hd hnd⟩
  · rintro σ H1 ⟨rfl, r, v2, v3, v4, rfl, hr, hd⟩
    exact ⟨_, rfl, q r hr hd⟩
/-- a list of lag sets -/
def LagsAt (K : PySem.W.Frag) (H : Hp) (a : Addr) (n : Nat) : Prop := ∃ xs, SqL K H a xs ∧ xs.length ≤ n ∧ ∀ x ∈ xs, ∃ f, LagAt K H x f
theorem LagsAt.mono {H H' : Hp} {a : Addr} {n : Nat} (h : LagsAt K H a n) (g : Same H H') : LagsAt K H' a n := by
  obtain ⟨xs, h1, h2, h3⟩ := h
  refine ⟨xs, g.seq h1, h2, fun x hx => ?_⟩
  obtain ⟨f, hf⟩ := h3 x hx
  exact ⟨f, hf.mono (sameI g)⟩
theorem sc_far_of : FnScope ["sets", "lags"] ["sets"] (defScope s_far_of) := ⟨rfl, rfl, rfl, by decide +kernel, rfl, by decide +kernel, by decide +kernel⟩
theorem b_far_of (E : Env K mg base) : Binds K (fdAt K (ga K "far_of")) ["sets"] [] := (f_far_of E).bindsN fun _ _ _ _ _ _ us hl => match us, hl with | [_], _ => rfl
def sp_far (K : PySem.W.Frag) : Sp := fun vs H Q _ => ∃ (a : Addr), vs = [.ref a] ∧ LagsAt K H a 1000 ∧ ∀ (r : Nat) H', Same H H' → r ≤ 40000 → Q (.int (r : Nat)) H'
theorem ok_far_of (E : Env K mg base) : FnOk P w K mg base CX0 3 (ga K "far_of") (fdAt K (ga K "far_of")) ["sets"] ((sp_far K)) := by
  refine okD (f_far_of E) sc_far_of (fun cdv A outer s H vs Q X hr h => ?_) (fun vs H Q X h => by obtain ⟨_, rfl, _⟩ := h; rfl)
  obtain ⟨a, rfl, ⟨xs, hA, hl, hx⟩, q⟩ := h
  have e3 : sizeLine = 16777216 := sizeLine_eq
  refine ⟨_, (pss_one (ps_ret (pe_op op_add (pe_callB (maxK K) rfl (n_max E) boot_max (pa_cons (pe_lst (pa_cons pe_int (StX.pa_star (pe_lc (own := [("lags", 1)]) (g := (gName 1)) rfl sc_far_of.nd (pi_list (pv 0)) (blkOk_by (own := [("lags", 1)]) (N := (["sets", "lags"] : List Str)) (sc := defScope s_far_of) (by decide +kernel)) (fun _ _ _ _ _ => (pg_name (i := 1) sc_far_of.nd rfl (Or.inl rfl))) (fun _ _ _ _ _ => pts_nil) (fun _ _ _ _ _ => (pe_prL (pv 1) (q_start E) (ok_Lags_start E) (hr.mono (by decide)) (bp_Lags_start E) rfl))) pa_nil))) pa_nil)) (pe_call (ok_common_period E) (hr.mono (by decide)) rfl (g_common_period E) (f_common_period E).kp (b_common_period E) .nil pass0 (pa_cons (pe_lc (own := [("lags", 1)]) (g := (gName 1)) rfl sc_far_of.nd (pi_list (pv 0)) (blkOk_by (own := [("lags", 1)]) (N := (["sets", "lags"] : List Str)) (sc := defScope s_far_of) (by decide +kernel)) (fun _ _ _ _ _ => (pg_name (i := 1) sc_far_of.nd rfl (Or.inl rfl))) (fun _ _ _ _ _ => pts_nil) (fun _ _ _ _ _ => (pe_prL (pv 1) (q_period E) (ok_Lags_period E) (hr.mono (by decide)) (bp_Lags_period E) rfl))) pa_nil))))), ?_⟩
  refine ⟨_, rfl, a, rfl, ⟨xs, hA⟩, fun D hD => ?_⟩
  -- the starts
  have hst : ∃ ns : List Nat, ns.length = xs.length ∧ (∀ n ∈ ns, n ≤ 10000) ∧ ∀ (i : Nat) (x : V) (n : Nat), xs[i]? = some x → ns[i]? = some n → ∃ f p, LagSP K H x f n p := by
    clear hA hl
    induction xs with
    | nil => exact ⟨[], rfl, (fun _ h => nomatch h), fun i x n h => by simp at h⟩
    | cons x xs ih =>
      obtain ⟨ns, h1, h2, h3⟩ := ih fun y hy => hx y (List.mem_cons_of_mem _ hy)
      obtain ⟨f, s, p, h4, h5, _⟩ := hx x List.mem_cons_self
      refine ⟨s :: ns, by rw [List.length_cons, List.length_cons, h1], fun n hn => ?_, fun i y n hy hn => ?_⟩
      · rcases List.mem_cons.mp hn with e | hn
        · rw [e]; exact h5
        · exact h2 n hn
      · cases i with
        | zero =>
          cases hy
          cases hn
          exact ⟨f, p, h4⟩
        | succ i => exact h3 i y n (by simpa using hy) (by simpa using hn)
  have hpe : ∃ ns : List Nat, ns.length = xs.length ∧ (∀ n ∈ ns, 0 < n ∧ n ∣ LL) ∧ ∀ (i : Nat) (x : V) (n : Nat), xs[i]? = some x → ns[i]? = some n → ∃ f s, LagSP K H x f s n := by
    clear hA hl hst
    induction xs with
    | nil => exact ⟨[], rfl, (fun _ h => nomatch h), fun i x n h => by simp at h⟩
    | cons x xs ih =>
      obtain ⟨ns, h1, h2, h3⟩ := ih fun y hy => hx y (List.mem_cons_of_mem _ hy)
      obtain ⟨f, s, p, h4, h5, h6⟩ := hx x List.mem_cons_self
      have hp : 0 < p := Nat.pos_of_dvd_of_pos h6 (by decide)
      refine ⟨p :: ns, by rw [List.length_cons, List.length_cons, h1], fun n hn => ?_, fun i y n hy hn => ?_⟩
      · rcases List.mem_cons.mp hn with e | hn
        · rw [e]; exact ⟨hp, h6⟩
        · exact h2 n hn
      · cases i with
        | zero =>
          cases hy
          cases hn
          exact ⟨f, s, h4⟩
        | succ i => exact h3 i y n (by simpa using hy) (by simpa using hn)
  obtain ⟨ns, n1, n2, n3⟩ := hst
  obtain ⟨ms, m1, m2, m3⟩ := hpe
  refine lc_map (walk_list (K := K) (a := a) (xs := xs)) hD (gv ns fun n => .int (n : Nat)) (fun _ => true) (by omega) (fun H s => s.seq hA) ?_ ?_
  · rintro k y H2 H3 Nk Ns hk s2 ⟨rfl, hy⟩ k1 k2
    have en : ns[k]? = some ns[k] := List.getElem?_eq_getElem (by omega)
    rw [gv_at en] at k1
    obtain ⟨f, p, hf⟩ := n3 k y _ hy en
    have hf2 := hf.mono (sameI s2)
    obtain ⟨b, C, dx, tv, rfl, hC, hb, hF⟩ := id hf2
    exact ⟨rfl, tyes_if ⟨_, rfl, b, C, dx, _, rfl, hC, hb, _, f, _, p, rfl, hf2, k1 rfl _ (Same.refl _)⟩⟩
  · intro H2 s2 h2
    rw [filter_true, ← n1, map_range_get] at h2
    refine ⟨D, _, rfl, .inr (SqL.of h2), by simp; omega, fun p hp => ?_⟩
    have s3 := s2.trans (sNew (o := .lst ([.int 0] ++ (ns.map (fun n => V.int (n : Nat)) ++ []))) hp)
    refine ⟨p, (0 : Int) :: ns.map fun n => ((n : Nat) : Int), rfl, SqL.of (upd_same.trans (by simp [List.map_map])), by simp, fun m hm hle => ?_⟩
    have hm0 : 0 ≤ m := hle 0 (by simp)
    have hm1 : m ≤ 10000 := by
      rcases List.mem_cons.mp hm with e | e
      · omega
      · obtain ⟨n, hn, rfl⟩ := List.mem_map.mp e
        have := n2 n hn
        omega
    refine ⟨_, rfl, a, rfl, ⟨xs, s3.seq hA⟩, fun D2 hD2 => ?_⟩
    refine lc_map (walk_list (K := K) (a := a) (xs := xs)) hD2 (gv ms fun n => .int (n : Nat)) (fun _ => true) (by omega) (fun H s => (s3.trans s).seq hA) ?_ ?_
    · rintro k y H4 H5 Nk Ns hk s5 ⟨rfl, hy⟩ k1 k2
      have en : ms[k]? = some ms[k] := List.getElem?_eq_getElem (by omega)
      rw [gv_at en] at k1
      obtain ⟨f, s, hf⟩ := m3 k y _ hy en
      have hf2 := hf.mono (sameI (s3.trans s5))
      obtain ⟨b, C, dx, tv, rfl, hC, hb, hF⟩ := id hf2
      exact ⟨rfl, tyes_if ⟨_, rfl, b, C, dx, _, rfl, hC, hb, _, f, s, _, rfl, hf2, k1 rfl _ (Same.refl _)⟩⟩
    · intro H4 s4 h4
      rw [filter_true, ← m1, map_range_get] at h4
      refine ⟨D2, ms, rfl, SqL.of h4, m2, fun r hr hd => ⟨_, _, rfl, rfl, ?_⟩⟩
      have lr : r ≤ 27720 := Nat.le_of_dvd (by decide) hd
      have e : m + (r : Int) = ((m.toNat + r : Nat) : Int) := by omega
      show Q (.int (m + (r : Int))) H4
      rw [e]
      exact q _ H4 (s3.trans s4) (by omega)
theorem sc_counting : FnScope ["orders", "name"] ["orders"] (defScope s_counting) := ⟨rfl, rfl, rfl, by decide +kernel, rfl, by decide +kernel, by decide +kernel⟩
theorem b_counting (E : Env K mg base) : Binds K (fdAt K (ga K "counting")) ["orders"] [] := (f_counting E).bindsN fun _ _ _ _ _ _ us hl => match us, hl with | [_], _ => rfl
def sp_cg (K : PySem.W.Frag) : Sp := fun vs H Q _ => ∃ (v : V) (L : Lin) (kn : List Str), vs = [v] ∧ OrdAt K H v L kn ∧ kn.length ≤ 4 ∧ kn.Nodup ∧ ∀ D H' (cs : List Str), Same H H' → H' D = some (.lst (cs.map V.str)) → (∀ n ∈ cs, n ∈ kn) → cs.Nodup → cs.length ≤ 4 → Q (.ref D) H'
theorem ok_counting (E : Env K mg base) : FnOk P w K mg base CX0 5 (ga K "counting") (fdAt K (ga K "counting")) ["orders"] ((sp_cg K)) := by
  refine okD (f_counting E) sc_counting (fun cdv A outer s H vs Q X hr h => ?_) (fun vs H Q X h => by obtain ⟨_, _, _, rfl, _⟩ := h; rfl)
  obtain ⟨v, L, kn, rfl, hOr, h4, hnd, q⟩ := h
  obtain ⟨x, dx, t, _, _, _, _, _, rfl, hx, hkn, _⟩ := id hOr
  refine ⟨_, (pss_one (ps_ret (pe_lc (own := [("name", 1)]) (g := (gName 1)) rfl sc_counting.nd (pi_tup (pe_fldK K (pv 0))) (blkOk_by (own := [("name", 1)]) (N := (["orders", "name"] : List Str)) (sc := defScope s_counting) (by decide +kernel)) (fun _ _ _ _ _ => (pg_name (i := 1) sc_counting.nd rfl (Or.inl rfl))) (fun _ _ _ _ _ => (pts_one (pt_cmpR op_notN (pe_prL (pe_meth (pv 0) (c_Orders E) (m_Orders_to_outlet E) (ok_Orders_to_outlet E) (hr.mono (by decide)) (b_Orders_to_outlet E) .nil pass0 (pa_cons (pv 1) pa_nil)) (q_first E) (ok_Lags_first E) (hr.mono (by decide)) (bp_Lags_first E) rfl) pe_non (nomark _)))) (fun _ _ _ _ _ => (pv 1))))), ?_⟩
  refine ⟨_, rfl, x, _, dx, _, .ref t, rfl, hx, c_Orders E, a_Orders_known E, rfl, t, rfl, ⟨_, hkn⟩, fun D hD => ?_⟩
  refine lc_map (walk_tup (K := K) (a := t) (xs := kn.map V.str)) hD (gv kn V.str) (kv kn fun n => hasF (lagF L n false L.out)) (by rw [List.length_map]; omega) (fun H s => sT s hkn) ?_ ?_
  · rintro k y H2 H3 Nk Ns hk s2 ⟨rfl, hy⟩ k1 k2
    obtain ⟨n, en, rfl⟩ := map_get hy
    rw [kv_at en] at k1 k2
    rw [gv_at en] at k1
    refine ⟨rfl, _, rfl, x, dx, _, rfl, s2 _ _ hx, rfl, _, rfl, _, L, kn, n, rfl, hOr.mono (sameI s2), List.mem_of_getElem? en, fun u hu => ?_⟩
    obtain ⟨s, p, ⟨a, C, dx2, tv, rfl, hC, ha, hF⟩, hq⟩ := id hu
    refine ⟨a, C, dx2, _, rfl, hC, ha, _, _, rfl, hu, fun H4 s4 h0 => ?_, fun j H4 s4 hj _ _ => ?_⟩
    · exact ⟨rfl, _, rfl, ite_f (b := !decide (V.non = V.non)) rfl (k2 (hasF_no h0) _ s4)⟩
    · exact ⟨rfl, _, rfl, ite_t (b := !decide (V.int j = V.non)) rfl ⟨_, rfl, k1 (hasF_yes hj) _ s4⟩⟩
  · intro H2 s2 h2
    rw [List.length_map, filter_gv] at h2
    exact q D H2 _ s2 h2 (fun n hn => (List.mem_filter.mp hn).1) (List.Sublist.nodup List.filter_sublist hnd) (Nat.le_trans (List.length_filter_le _ _) h4)
theorem ord_nd {H : Hp} {v : V} {L : Lin} {kn : List Str} (h1 : OrdAt K H v L kn) (hO : L.Ok) : kn.Nodup := by
  obtain ⟨_, _, _, _, _, _, _, _, _, _, _, p1, _⟩ := h1
  exact p1.nodup_iff.mpr (List.Sublist.nodup (List.filter_sublist.map Sta.name) hO.nd)
theorem sc_lost_station : FnScope ["orders", "others", "name"] ["orders", "others"] (defScope s_lost_station) := ⟨rfl, rfl, rfl, by decide +kernel, rfl, by decide +kernel, by decide +kernel⟩
theorem b_lost_station (E : Env K mg base) : Binds K (fdAt K (ga K "lost_station")) ["orders", "others"] [] := (f_lost_station E).bindsN fun _ _ _ _ _ _ us hl => match us, hl with | [_, _], _ => rfl
def sp_ls (K : PySem.W.Frag) : Sp := fun vs H Q _ => ∃ (v u : V) (L M : Lin) (kn km : List Str), vs = [v, u] ∧ OrPair K H v u L M kn km ∧ ∀ H', Same H H' → Q .non H'
theorem ok_lost_station (E : Env K mg base) : FnOk P w K mg base CX0 7 (ga K "lost_station") (fdAt K (ga K "lost_station")) ["orders", "others"] ((sp_ls K)) := by
  refine okD (f_lost_station E) sc_lost_station (fun cdv A outer s H vs Q X hr h => ?_) (fun vs H Q X h => by obtain ⟨_, _, _, _, _, _, rfl, _⟩ := h; rfl)
  obtain ⟨v, u, L, M, kn, km, rfl, ⟨h1, h2, hS, hO, hO2⟩, q⟩ := h
  have hsub := ord_sub h1 h2 hS
  obtain ⟨x, dx, _, _, _, _, _, _, rfl, hx, _⟩ := id h1
  obtain ⟨y, dy, _, _, _, _, _, _, rfl, hy, _⟩ := id h2
  refine ⟨_, (pss_cons (ps_for PassesOwn.never rfl (pi_list (pe_call (ok_counting E) (hr.mono (by decide)) rfl (g_counting E) (f_counting E).kp (b_counting E) .nil pass0 (pa_cons (pv 0) pa_nil))) (pg_name (i := 2) sc_lost_station.nd rfl (Or.inl rfl)) (pss_one (ps_if (pt_not (pt_val (pe_mtL (pe_meth (pv 0) (c_Orders E) (m_Orders_to_outlet E) (ok_Orders_to_outlet E) (hr.mono (by decide)) (b_Orders_to_outlet E) .nil pass0 (pa_cons (pv 2) pa_nil)) (q_within E) (ok_Lags_within E) (hr.mono (by decide)) (b_Lags_within E) (pa_cons (pe_meth (pv 1) (c_Orders E) (m_Orders_to_outlet E) (ok_Orders_to_outlet E) (hr.mono (by decide)) (b_Orders_to_outlet E) .nil pass0 (pa_cons (pv 2) pa_nil)) pa_nil)))) (pss_one (ps_ret (pv 2))) pss_nil)))
      (pss_one (ps_ret pe_non))), ?_⟩
  refine ⟨_, rfl, _, L, kn, rfl, h1, ord_len h1 hO, ord_nd h1 hO, fun D H1 cs s1 hD hcs _ hc4 => ⟨D, rfl, ⟨_, SqL.of hD⟩, ?_⟩⟩
  refine for_it (walk_list (K := K) (a := D) (xs := cs.map V.str)) (fun i σ H' => Same H1 H' ∧ ∃ v2, σ = [some (.ref x), some (.ref y), v2]) ⟨Same.refl _, _, rfl⟩ (fun i σ H' _ h => h.1.seq (SqL.of hD)) ?_ ?_
  · rintro i z σ H2 H3 hi ⟨s3, v2, rfl⟩ ⟨rfl, hz⟩
    obtain ⟨n, en, rfl⟩ := map_get hz
    have hn := hcs n (List.mem_of_getElem? en)
    have s13 := s1.trans s3
    refine ⟨_, rfl, x, dx, _, rfl, s13 _ _ hx, rfl, _, rfl, _, L, kn, n, rfl, h1.mono (sameI s13), hn, fun u1 hu1 => ?_⟩
    obtain ⟨s, p, ⟨a, C, dx2, tv, rfl, hC, ha, hF⟩, hq⟩ := id hu1
    refine ⟨a, C, dx2, _, rfl, hC, ha, rfl, _, rfl, y, dy, _, rfl, s13 _ _ hy, rfl, _, rfl, _, M, km, n, rfl, h2.mono (sameI s13), hsub n hn, fun u2 hu2 => ?_⟩
    exact ⟨_, u2, _, _, rfl, hu1, hu2, fun k e => by rw [← hS.out]; exact hS.lag n false L.out k e, fun H4 s4 => ⟨_, rfl, ite_f (b := !true) rfl ⟨s3.trans s4, _, rfl⟩⟩⟩
  · rintro σ H2 ⟨s3, v2, rfl⟩
    exact q H2 (s1.trans s3)
theorem sc_free_station : FnScope ["orders", "others", "name"] ["orders", "others"] (defScope s_free_station) := ⟨rfl, rfl, rfl, by decide +kernel, rfl, by decide +kernel, by decide +kernel⟩
theorem b_free_station (E : Env K mg base) : Binds K (fdAt K (ga K "free_station")) ["orders", "others"] [] := (f_free_station E).bindsN fun _ _ _ _ _ _ us hl => match us, hl with | [_, _], _ => rfl
theorem ok_free_station (E : Env K mg base) : FnOk P w K mg base CX0 6 (ga K "free_station") (fdAt K (ga K "free_station")) ["orders", "others"] ((sp_ls K)) := by
  refine okD (f_free_station E) sc_free_station (fun cdv A outer s H vs Q X hr h => ?_) (fun vs H Q X h => by obtain ⟨_, _, _, _, _, _, rfl, _⟩ := h; rfl)
  obtain ⟨v, u, L, M, kn, km, rfl, ⟨h1, h2, hS, hO, hO2⟩, q⟩ := h
  have hsub := ord_sub h1 h2 hS
  obtain ⟨x, dx, _, _, _, _, _, _, rfl, hx, _⟩ := id h1
  obtain ⟨y, dy, _, _, _, _, _, _, rfl, hy, _⟩ := id h2
  refine ⟨_, (pss_cons (ps_for PassesOwn.never rfl (pi_list (pe_call (ok_counting E) (hr.mono (by decide)) rfl (g_counting E) (f_counting E).kp (b_counting E) .nil pass0 (pa_cons (pv 0) pa_nil))) (pg_name (i := 2) sc_free_station.nd rfl (Or.inl rfl)) (pss_one (ps_if (PW.pt (pw_and (pt_cmpR op_notN (pe_prL (pe_meth (pv 0) (c_Orders E) (m_Orders_between E) (ok_Orders_between E) (hr.mono (by decide)) (b_Orders_between E) .nil pass0 (pa_cons (pv 2) (pa_cons (pv 2) pa_nil))) (q_first E) (ok_Lags_first E) (hr.mono (by decide)) (bp_Lags_first E) rfl) pe_non (nomark _)) (pw_and1 (pt_cmpR op_isN (pe_prL (pe_meth (pv 1) (c_Orders E) (m_Orders_between E) (ok_Orders_between E) (hr.mono (by decide)) (b_Orders_between E) .nil pass0 (pa_cons (pv 2) (pa_cons (pv 2) pa_nil))) (q_first E) (ok_Lags_first E) (hr.mono (by decide)) (bp_Lags_first E) rfl) pe_non (nomark _))))) (pss_one (ps_ret (pv 2))) pss_nil)))
      (pss_one (ps_ret pe_non))), ?_⟩
  refine ⟨_, rfl, _, L, kn, rfl, h1, ord_len h1 hO, ord_nd h1 hO, fun D H1 cs s1 hD hcs _ hc4 => ⟨D, rfl, ⟨_, SqL.of hD⟩, ?_⟩⟩
  refine for_it (walk_list (K := K) (a := D) (xs := cs.map V.str)) (fun i σ H' => Same H1 H' ∧ ∃ v2, σ = [some (.ref x), some (.ref y), v2]) ⟨Same.refl _, _, rfl⟩ (fun i σ H' _ h => h.1.seq (SqL.of hD)) ?_ ?_
  · rintro i z σ H2 H3 hi ⟨s3, v2, rfl⟩ ⟨rfl, hz⟩
    obtain ⟨n, en, rfl⟩ := map_get hz
    have hn := hcs n (List.mem_of_getElem? en)
    have s13 := s1.trans s3
    refine ⟨_, rfl, x, dx, _, rfl, s13 _ _ hx, rfl, _, rfl, _, rfl, _, L, kn, n, n, rfl, h1.mono (sameI s13), hn, hn, fun u1 H4 s4 hu1 => ?_⟩
    obtain ⟨s, p, ⟨a, C, dx2, tv, rfl, hC, ha, hF⟩, hq⟩ := id hu1
    refine ⟨a, C, dx2, _, rfl, hC, ha, _, _, rfl, hu1, fun H5 s5 _ => ?_, fun k H5 s5 hk _ _ => ?_⟩
    · exact ⟨rfl, _, rfl, ite_f (b := !decide (V.non = V.non)) rfl (ite_f rfl ⟨(s3.trans s4).trans s5, _, rfl⟩)⟩
    · refine ⟨rfl, _, rfl, ite_t (b := !decide (V.int k = V.non)) rfl ?_⟩
      have s15 := (s13.trans s4).trans s5
      refine ⟨_, rfl, y, dy, _, rfl, s15 _ _ hy, rfl, _, rfl, _, rfl, _, M, km, n, n, rfl, h2.mono (sameI s15), hsub n hn, hsub n hn, fun u2 H6 s6 hu2 => ?_⟩
      obtain ⟨s', p', ⟨a', C', dx', tv', rfl, hC', ha', hF'⟩, hq'⟩ := id hu2
      refine ⟨a', C', dx', _, rfl, hC', ha', _, _, rfl, hu2, fun H7 s7 h0 => ?_, fun k' H7 s7 _ _ _ => ?_⟩
      · have := hS.lag n true n k hk
        rw [h0] at this
        cases this
      · exact ⟨rfl, _, rfl, ite_f (b := decide (V.int k' = V.non)) rfl ⟨(((s3.trans s4).trans s5).trans s6).trans s7, _, rfl⟩⟩
  · rintro σ H2 ⟨s3, v2, rfl⟩
    exact q H2 (s1.trans s3)
end
end Own
set_option Elab.async false
set_option linter.all false
set_option maxRecDepth 100000
set_option maxHeartbeats 4000000
/-! searches: their maker -/
namespace Own
open PySem PySem.Spec PyProof.Rows L2 He OwnR
theorem lc2_in {J1 : It} {n : Nat} {G : Hp → Prop} {Y : Nat → Hp → V → Hp → Prop} (w : Walk J1 n G Y) {g1 : TG} {tt1 : L2.TT} {te : TE} {vs1 : List Nat} {σ2 : L2.St} {H4 : Hp} {D : Addr} {Nx : Hp → Prop} (Pv : Nat → Hp → Prop) (h0 : Pv 0 H4) (hG : ∀ i H, i ≤ n → Pv i H → G H)
    (hs : ∀ j x H H', j < n → Pv j H → Y j H x H' → g1 x (wipe σ2 vs1) H' fun σ3 H5 => wipe σ3 vs1 = wipe σ2 vs1 ∧ tt1 σ3 H5 fun b H6 => if b = true then te σ3 H6 fun y H7 => ∃ acc, H7 D = some (.lst acc) ∧ acc.length < sizeLine ∧ Pv (j + 1) (upd H7 D (.lst (acc ++ [y]))) else Pv (j + 1) H6)
    (hd : ∀ H, Pv n H → Nx H) : ∃ W1 : Nat → Nat → Hp → Prop, (∃ m, W1 0 m H4) ∧ ∀ j k H, W1 j k H →
      (J1.stop j H ∧ Nx H) ∨ (J1.go j H ∧ ∃ Nx1 : Hp → Prop, (∀ H', Nx1 H' → ∃ k', k' < k ∧ W1 (j + 1) k' H') ∧ ∀ x H', J1.yld j H x H' → g1 x (wipe σ2 vs1) H' fun σ3 H5 => wipe σ3 vs1 = wipe σ2 vs1 ∧ tt1 σ3 H5 fun b H6 =>
        if b = true then te σ3 H6 fun y H7 => ∃ acc, H7 D = some (.lst acc) ∧ acc.length < sizeLine ∧ Nx1 (upd H7 D (.lst (acc ++ [y]))) else Nx1 H6) := by
  refine ⟨fun i m H => m = n - i ∧ i ≤ n ∧ Pv i H, ⟨n, by simp, Nat.zero_le _, h0⟩, ?_⟩
  rintro i m H ⟨rfl, hi, p⟩
  have q := hG i H hi p
  by_cases hlt : i < n
  · have e : ∀ H', Pv (i + 1) H' → ∃ m', m' < n - i ∧ m' = n - (i + 1) ∧ i + 1 ≤ n ∧ Pv (i + 1) H' := fun H' p' => ⟨n - (i + 1), by omega, rfl, hlt, p'⟩
    exact .inr ⟨w.goes i H hlt q, Pv (i + 1), e, fun x H' y => hs i x H H' hlt p (w.yields i H x H' hlt q y)⟩
  · have e : i = n := by omega
    subst e
    exact .inl ⟨w.stops H q, hd H p⟩
section
variable {P : Program} {w : World} {K : PySem.W.Frag} {mg : Str → Option Value} {base : Heap}
theorem sc_Search_init : FnScope ["self", "orders", "others", "names", "left", "pairs", "sets", "name", "mate"] ["self", "orders", "others", "names", "left"] (defScope s_Search_init) := ⟨rfl, rfl, rfl, by decide +kernel, rfl, by decide +kernel, by decide +kernel⟩
theorem b_Search_init (E : Env K mg base) : Binds K (fdAt K (ma K (ga K "Search") "__init__")) ["self", "orders", "others", "names", "left"] [] := (f_Search_init E).bindsN fun _ _ _ _ _ _ us hl => match us, hl with | [_, _, _, _, _], _ => rfl
def sfs (v u : V) (nl lf : Addr) (far : Nat) (most : V) (bl : Addr) : List (Str × V) := [("orders", v), ("others", u), ("counted", .ref nl), ("left", .ref lf), ("far", .int (far : Nat)), ("most", most), ("best", .ref bl)]
def sp_sri (K : PySem.W.Frag) : Sp := fun vs H Q _ => ∃ (x dx nl lf : Addr) (v u : V) (L M : Lin) (kn km names : List Str), vs = [.ref x, v, u, .ref nl, .ref lf] ∧ H x = some (.ins (ga K "Search") dx []) ∧ OrPair K H v u L M kn km ∧ SqL K H nl (names.map V.str) ∧ names.Nodup ∧ names.length ≤ 4 ∧ (∀ n ∈ names, n ∈ kn) ∧
  ∀ H' far most bl, (∀ a o, a ≠ x → H a = some o → H' a = some o) → H' x = some (.ins (ga K "Search") dx (sfs v u nl lf far most bl)) → far ≤ 40000 → (most = .non ∨ ∃ i : Int, most = .int i) → H' bl = some (.lst []) → H bl = none → Q .non H'
/-- Exchange(v, names) -/
theorem mk_exchange {H : Hp} {Qx : Hp → Prop} {v : V} {M : Lin} {km names : List Str} {x dx nl : Addr} (hOr : OrdAt K H v M km) (hnl : SqL K H nl (names.map V.str)) (hnd : names.Nodup) (h4 : names.length ≤ 4) (hsub : ∀ n ∈ names, n ∈ km) (hx : H x = none) (hd : H dx = none) (ne : dx ≠ x)
    (q : ∀ H' fd c m, Same H H' → H' x = some (.ins (ga K "Exchange") dx (xfs nl fd c m)) → (c = .non ∨ ∃ i : Int, c = .int i) → Qx H') : sp_exi K [.ref x, v, .ref nl] (upd (upd H dx (.own x)) x (.ins (ga K "Exchange") dx [])) (fun v H3 => v = .non ∧ Qx H3) E0 := by
  have s0 : Same H (upd (upd H dx (.own x)) x (.ins (ga K "Exchange") dx [])) := (sNew hd).trans (sNew (by rw [upd_ne (Ne.symm ne)]; exact hx))
  refine ⟨x, dx, nl, v, M, km, names, rfl, upd_same, hOr.mono (sameI s0), s0.seq hnl, hnd, h4, hsub, fun H' fd c m hk hx' hc => ⟨rfl, q H' fd c m (fun a o h => ?_) hx' hc⟩⟩
  have hc : a ≠ x := fun e => by rw [e, hx] at h; cases h
  have hcd : a ≠ dx := fun e => by rw [e, hd] at h; cases h
  exact hk a o hc (by rw [upd_ne hc, upd_ne hcd]; exact h)
/-- a pair of names -/
def PairV (K : PySem.W.Frag) (H : Hp) (names : List Str) (v : V) : Prop := ∃ t n m, v = .ref t ∧ SqT K H t [.str n, .str m] ∧ n ∈ names ∧ m ∈ names
theorem PairV.mono {H H' : Hp} {names : List Str} {v : V} (h : PairV K H names v) (g : SameI H H') : PairV K H' names v := by
  obtain ⟨t, n, m, rfl, h1, h2⟩ := h
  exact ⟨t, n, m, rfl, g.seqT h1, h2⟩
theorem ok_Search_init (E : Env K mg base) : FnOk P w K mg base CX0 7 (ma K (ga K "Search") "__init__") (fdAt K (ma K (ga K "Search") "__init__")) ["self", "orders", "others", "names", "left"] ((sp_sri K)) := by
  refine okD (f_Search_init E) sc_Search_init (fun cdv A outer s H vs Q X hr h => ?_) (fun vs H Q X h => by obtain ⟨_, _, _, _, _, _, _, _, _, _, _, rfl, _⟩ := h; rfl)
  obtain ⟨x, dx, nl, lf, v, u, L, M, kn, km, names, rfl, hx, hOP, hnl, hnd, h4, hsub, q⟩ := h
  have e3 : sizeLine = 16777216 := sizeLine_eq
  obtain ⟨h1, h2, hS, hO, hO2⟩ := id hOP
  have hsub2 := ord_sub h1 h2 hS
  refine ⟨_, (pss_cons (ps_asg (pe_tup (pa_cons (pv 1) (pa_cons (pv 2) pa_nil))) (pg_tup rfl (pgs_cons (pg_fld (pv 0)) (pgs_cons (pg_fld (pv 0)) pgs_nil))))
      (pss_cons (ps_asg (pe_tup (pa_cons (pv 3) (pa_cons (pv 4) pa_nil))) (pg_tup rfl (pgs_cons (pg_fld (pv 0)) (pgs_cons (pg_fld (pv 0)) pgs_nil))))
      (pss_cons (ps_setLc2 (i := 5) (own := [("name", 7), ("mate", 8)]) (vs1 := [8]) (g := (gName 7)) (g1 := (gName 8)) rfl sc_Search_init.nd rfl rfl (sw_true rfl rfl rfl (by decide +kernel)) (pi_list (pe_fldK K (pv 0))) (blkOk_by (own := [("name", 7), ("mate", 8)]) (N := (["self", "orders", "others", "names", "left", "pairs", "sets", "name", "mate"] : List Str)) (sc := defScope s_Search_init) (by decide +kernel)) (by decide) (fun _ _ _ _ _ => (pg_name (i := 7) sc_Search_init.nd rfl (Or.inl rfl))) (fun _ _ _ _ _ => pts_nil) (fun _ _ _ _ _ => (pi_listK K (pe_fldK K (pv 0)))) (fun _ _ _ _ _ => (pg_name (i := 8) sc_Search_init.nd rfl (Or.inl rfl))) (fun _ _ _ _ _ => pts_nil) (fun _ _ _ _ _ => (pe_tup (pa_cons (pv 7) (pa_cons (pv 8) pa_nil)))))
      (pss_cons (ps_setLc (i := 6) (own := [("name", 7), ("mate", 8)]) (g := (gTup K 2 (gCons (gName 7) (gCons (gName 8) gNil)))) rfl sc_Search_init.nd rfl rfl (sw_true rfl rfl rfl (by decide +kernel)) (pi_list (pv 5)) (blkOk_by (own := [("name", 7), ("mate", 8)]) (N := (["self", "orders", "others", "names", "left", "pairs", "sets", "name", "mate"] : List Str)) (sc := defScope s_Search_init) (by decide +kernel)) (fun _ _ _ _ _ => (pg_tup rfl (pgs_cons (pg_name (i := 7) sc_Search_init.nd rfl (Or.inl rfl)) (pgs_cons (pg_name (i := 8) sc_Search_init.nd rfl (Or.inl rfl)) pgs_nil)))) (fun _ _ _ _ _ => pts_nil) (fun _ _ _ _ _ => (pe_meth (pv 1) (c_Orders E) (m_Orders_between E) (ok_Orders_between E) (hr.mono (by decide)) (b_Orders_between E) .nil pass0 (pa_cons (pv 7) (pa_cons (pv 8) pa_nil)))))
      (pss_cons (ps_fld (pv 0) (pe_call (ok_far_of E) (hr.mono (by decide)) rfl (g_far_of E) (f_far_of E).kp (b_far_of E) .nil pass0 (pa_cons (pe_op op_cat (pv 6) (pe_lc (own := [("name", 7), ("mate", 8)]) (g := (gTup K 2 (gCons (gName 7) (gCons (gName 8) gNil)))) rfl sc_Search_init.nd (pi_list (pv 5)) (blkOk_by (own := [("name", 7), ("mate", 8)]) (N := (["self", "orders", "others", "names", "left", "pairs", "sets", "name", "mate"] : List Str)) (sc := defScope s_Search_init) (by decide +kernel)) (fun _ _ _ _ _ => (pg_tup rfl (pgs_cons (pg_name (i := 7) sc_Search_init.nd rfl (Or.inl rfl)) (pgs_cons (pg_name (i := 8) sc_Search_init.nd rfl (Or.inl rfl)) pgs_nil)))) (fun _ _ _ _ _ => pts_nil) (fun _ _ _ _ _ => (pe_meth (pv 2) (c_Orders E) (m_Orders_between E) (ok_Orders_between E) (hr.mono (by decide)) (b_Orders_between E) .nil pass0 (pa_cons (pv 7) (pa_cons (pv 8) pa_nil)))))) pa_nil)) rfl)
      (pss_cons (ps_fld (pv 0) (pe_fldK K (pe_make (k_Exchange E) (ok_Exchange_init E) (hr.mono (by decide)) rfl (g_Exchange E) (b_Exchange_init E) .nil pass0 (pa_cons (pv 2) (pa_cons (pe_fldK K (pv 0)) pa_nil)))) rfl)
      (pss_one (ps_fld (pv 0) (pe_lst pa_nil) rfl)))))))), ?_⟩
  refine ⟨_, rfl, _, rfl, by show 2 ≤ sizeLine; omega, fun p1 hp1 => ⟨p1, _, rfl, SqT.of upd_same, rfl, _, _, rfl, ?_⟩⟩
  have s1 : Same H (upd H p1 (.tup [v, u])) := sNew hp1
  refine ⟨_, rfl, x, _, dx, _, rfl, s1 _ _ hx, c_Search E, a_Search_orders E, (by show 0 < 1000; decide), ?_⟩
  refine ⟨_, _, rfl, _, rfl, x, _, dx, _, rfl, upd_same, c_Search E, a_Search_others E, (by show 1 < 1000; decide), rfl, ?_⟩
  rw [upd_upd]
  refine ⟨_, rfl, _, rfl, by show 2 ≤ sizeLine; omega, fun p2 hp2 => ⟨p2, _, rfl, SqT.of upd_same, rfl, _, _, rfl, ?_⟩⟩
  have s2 := sNew (o := .tup [.ref nl, .ref lf]) hp2
  refine ⟨_, rfl, x, _, dx, _, rfl, s2 _ _ upd_same, c_Search E, a_Search_counted E, (by show 2 < 1000; decide), ?_⟩
  refine ⟨_, _, rfl, _, rfl, x, _, dx, _, rfl, upd_same, c_Search E, a_Search_left E, (by show 3 < 1000; decide), rfl, ?_⟩
  rw [upd_upd]
  obtain ⟨H5, eH5⟩ : ∃ H5, H5 = upd (upd (upd (upd H p1 (.tup [v, u])) x (.ins (ga K "Search") dx [("orders", v), ("others", u)])) p2 (.tup [.ref nl, .ref lf])) x (.ins (ga K "Search") dx [("orders", v), ("others", u), ("counted", .ref nl), ("left", .ref lf)]) := ⟨_, rfl⟩
  have hx5 : H5 x = some (.ins (ga K "Search") dx [("orders", v), ("others", u), ("counted", .ref nl), ("left", .ref lf)]) := by rw [eH5]; exact upd_same
  have k5 : ∀ a o, a ≠ x → H a = some o → H5 a = some o := fun a o ha h => by
    rw [eH5, upd_ne ha]
    exact s2 _ _ (by rw [upd_ne ha]; exact s1 _ _ h)
  have hO5 : OrdAt K H5 v L kn := h1.keepE hx k5
  have hM5 : OrdAt K H5 u M km := h2.keepE hx k5
  have hnl5 : SqL K H5 nl (names.map V.str) := sqL_keep hnl hx k5
  subst eH5
  refine ⟨_, rfl, x, _, dx, _, .ref nl, rfl, hx5, c_Search E, a_Search_counted E, rfl, nl, rfl, ⟨_, hnl5⟩, fun D hD => ?_⟩
  refine dc2_out (walk_list (K := K) (a := nl) (xs := names.map V.str)) (fun i H' => Same (upd (upd (upd (upd H p1 (.tup [v, u])) x (.ins (ga K "Search") dx [("orders", v), ("others", u)])) p2 (.tup [.ref nl, .ref lf])) x (.ins (ga K "Search") dx [("orders", v), ("others", u), ("counted", .ref nl), ("left", .ref lf)])) H' ∧ ∃ acc, H' D = some (.lst acc) ∧ acc.length ≤ i * 4 ∧ ∀ z ∈ acc, PairV K H' names z)
    ⟨sNew hD, [], upd_same, Nat.le_refl _, (fun z hz => nomatch hz)⟩ (fun i H' _ h => h.1.seq hnl5) ?_ ?_
  · rintro i y H6 H7 hi ⟨s7, acc, hD7, hl7, hp7⟩ ⟨rfl, hy⟩
    obtain ⟨n, en, rfl⟩ := map_get hy
    have hn := List.mem_of_getElem? en
    have hi4 : i < 4 := by rw [List.length_map] at hi; omega
    refine ⟨rfl, tyes_if ?_⟩
    refine ⟨_, rfl, x, _, dx, _, .ref nl, rfl, s7 _ _ hx5, c_Search E, a_Search_counted E, rfl, nl, rfl, ⟨_, s7.seq hnl5⟩, ?_⟩
    refine lc2_in (walk_list (K := K) (a := nl) (xs := names.map V.str)) (fun j H' => Same (upd (upd (upd (upd H p1 (.tup [v, u])) x (.ins (ga K "Search") dx [("orders", v), ("others", u)])) p2 (.tup [.ref nl, .ref lf])) x (.ins (ga K "Search") dx [("orders", v), ("others", u), ("counted", .ref nl), ("left", .ref lf)])) H' ∧ ∃ acc, H' D = some (.lst acc) ∧ acc.length ≤ i * 4 + j ∧ ∀ z ∈ acc, PairV K H' names z)
      ⟨s7, acc, hD7, hl7, hp7⟩ (fun i H' _ h => h.1.seq hnl5) ?_ ?_
    · rintro j y H8 H9 hj ⟨s9, acc9, hD9, hl9, hp9⟩ ⟨rfl, hy⟩
      obtain ⟨m, em, rfl⟩ := map_get hy
      have hm := List.mem_of_getElem? em
      have hj4 : j < 4 := by rw [List.length_map] at hj; omega
      refine ⟨rfl, tyes_if ⟨_, rfl, _, rfl, by show 2 ≤ sizeLine; omega, fun p hp => ?_⟩⟩
      have s10 : Same H9 (upd H9 p (.tup [.str n, .str m])) := sNew hp
      have npD : p ≠ D := fun e => by rw [e, hD9] at hp; cases hp
      have g11 : SameI H9 (upd (upd H9 p (.tup [.str n, .str m])) D (.lst (acc9 ++ [.ref p]))) := sI_lst (sameI s10) (s10 _ _ hD9)
      refine ⟨acc9, s10 _ _ hD9, by omega, sMut (s9.trans s10) hD, _, upd_same, by rw [List.length_append]; show _ + 1 ≤ _; omega, fun z hz => ?_⟩
      rcases List.mem_append.mp hz with hz | hz
      · exact (hp9 z hz).mono g11
      · rw [List.mem_singleton.mp hz]
        exact ⟨p, n, m, rfl, SqT.of (by rw [upd_ne npD]; exact upd_same), hn, hm⟩
    · rintro H8 ⟨s9, acc9, hD9, hl9, hp9⟩
      rw [List.length_map] at hl9
      exact ⟨s9, acc9, hD9, by omega, hp9⟩
  · rintro H6 ⟨s6, acc, hD6, hl6, hp6⟩
    rw [List.length_map] at hl6
    have hx6 := s6 _ _ hx5
    have hO6 := hO5.mono (sameI s6)
    have hM6 := hM5.mono (sameI s6)
    obtain ⟨ox, odx, _, _, _, _, _, _, rfl, hox, _⟩ := id hO6
    obtain ⟨mx, mdx, _, _, _, _, _, _, rfl, hmx, _⟩ := id hM6
    refine ⟨_, rfl, D, rfl, ⟨_, SqL.of hD6⟩, fun D2 hD2 => ?_⟩
    refine lc_gen (walk_list (K := K) (a := D) (xs := acc)) hD2 (fun i z H => ∃ f, LagAt K H z f) (fun _ => true) (by omega) (fun i z H H' ⟨f, h⟩ g => ⟨f, h.mono g⟩) (fun H s => s.seq (SqL.of hD6)) ?_ ?_
    · rintro k y H7 H8 Nk Ns hk s8 ⟨rfl, hy⟩ k1 k2
      obtain ⟨t, n, m, rfl, ht, hn, hm⟩ := hp6 y (List.mem_of_getElem? hy)
      refine ⟨t, _, rfl, sT s8 ht, rfl, _, _, rfl, _, _, rfl, rfl, rfl, tyes_if ?_⟩
      exact ⟨_, rfl, ox, odx, _, rfl, s8 _ _ hox, rfl, _, rfl, _, rfl, _, L, kn, n, m, rfl, hO6.mono (sameI s8), hsub n hn, hsub m hm, fun z H9 s9 hz => k1 rfl z H9 s9 ⟨_, hz⟩⟩
    · intro H7 us s7 hus hpd
      rw [filter_true] at hpd
      have hul := Paired.length hpd
      rw [List.length_range] at hul
      have hus' : ∀ z ∈ us, ∃ f, LagAt K H7 z f := fun z hz => by
        obtain ⟨i, hi, e⟩ := List.mem_iff_getElem.mp hz
        obtain ⟨j, _, h⟩ := pget hpd (by rw [List.getElem?_eq_getElem hi, e])
        exact h
      refine ⟨_, rfl, _, rfl, D, rfl, ⟨_, SqL.of (s7 _ _ hD6)⟩, fun D3 hD3 => ?_⟩
      refine lc_gen (walk_list (K := K) (a := D) (xs := acc)) hD3 (fun i z H => ∃ f, LagAt K H z f) (fun _ => true) (by omega) (fun i z H H' ⟨f, h⟩ g => ⟨f, h.mono g⟩) (fun H s => (s7.trans s).seq (SqL.of hD6)) ?_ ?_
      · rintro k y H8 H9 Nk Ns hk s9 ⟨rfl, hy⟩ k1 k2
        obtain ⟨t, n, m, rfl, ht, hn, hm⟩ := hp6 y (List.mem_of_getElem? hy)
        have s79 := s7.trans s9
        refine ⟨t, _, rfl, sT s79 ht, rfl, _, _, rfl, _, _, rfl, rfl, rfl, tyes_if ?_⟩
        exact ⟨_, rfl, mx, mdx, _, rfl, s79 _ _ hmx, rfl, _, rfl, _, rfl, _, M, km, n, m, rfl, hM6.mono (sameI s79), hsub2 n (hsub n hn), hsub2 m (hsub m hm), fun z H9 s9 hz => k1 rfl z H9 s9 ⟨_, hz⟩⟩
      · intro H8 us3 s8 hus3 hpd3
        rw [filter_true] at hpd3
        have hul3 := Paired.length hpd3
        rw [List.length_range] at hul3
        have s68 := s7.trans s8
        refine ⟨D2, D3, us, us3, rfl, rfl, s8 _ _ hus, hus3, by omega, fun p hp => ?_⟩
        have s9 : Same H8 (upd H8 p (.lst (us ++ us3))) := sNew hp
        refine ⟨p, rfl, ⟨us ++ us3, SqL.of upd_same, by rw [List.length_append]; omega, fun z hz => ?_⟩, fun far H10 s10 hfar => ?_⟩
        · rcases List.mem_append.mp hz with hz | hz
          · obtain ⟨f, hf⟩ := hus' z hz
            exact ⟨f, hf.mono (sameI (s8.trans s9))⟩
          · obtain ⟨i, hi, e⟩ := List.mem_iff_getElem.mp hz
            obtain ⟨j, _, f, hf⟩ := pget hpd3 (by rw [List.getElem?_eq_getElem hi, e])
            exact ⟨f, hf.mono (sameI s9)⟩
        · have s610 := (s68.trans s9).trans s10
          have hx10 := s610 _ _ hx6
          refine ⟨_, rfl, x, _, dx, _, rfl, hx10, c_Search E, a_Search_far E, (by show 4 < 1000; decide), ?_⟩
          obtain ⟨H11, eH11⟩ : ∃ H11, H11 = upd H10 x (.ins (ga K "Search") dx [("orders", .ref ox), ("others", .ref mx), ("counted", .ref nl), ("left", .ref lf), ("far", .int (far : Nat))]) := ⟨_, rfl⟩
          have hx11 : H11 x = some (.ins (ga K "Search") dx [("orders", .ref ox), ("others", .ref mx), ("counted", .ref nl), ("left", .ref lf), ("far", .int (far : Nat))]) := by rw [eH11]; exact upd_same
          have k11 : ∀ a o, a ≠ x → H a = some o → H11 a = some o := fun a o ha h => by rw [eH11, upd_ne ha]; exact s610 _ _ (s6 _ _ (k5 a o ha h))
          have hM11 : OrdAt K H11 (.ref mx) M km := h2.keepE hx k11
          have hnl11 : SqL K H11 nl (names.map V.str) := sqL_keep hnl hx k11
          subst eH11
          refine ⟨_, rfl, _, rfl, x, _, dx, _, .ref nl, rfl, hx11, c_Search E, a_Search_counted E, rfl, fun x2 d2 q1 q2 q3 => mk_exchange hM11 hnl11 hnd h4 (fun n hn => hsub2 n (hsub n hn)) q1 q2 q3 fun H12 fd c m s12 hx12 hc => ?_⟩
          refine ⟨x2, _, d2, _, c, rfl, hx12, c_Exchange E, a_Exchange_cost E, rfl, ?_⟩
          refine ⟨_, rfl, x, _, dx, _, rfl, s12 _ _ hx11, c_Search E, a_Search_most E, (by show 5 < 1000; decide), ?_⟩
          refine ⟨by show 0 ≤ sizeLine; omega, fun bl hbl => ?_⟩
          have s13 := sNew (o := .lst []) hbl
          refine ⟨_, rfl, x, _, dx, _, rfl, s13 _ _ upd_same, c_Search E, a_Search_best E, (by show 6 < 1000; decide), ?_⟩
          have kf : ∀ a o, a ≠ x → H a = some o → upd (upd H12 x (.ins (ga K "Search") dx [("orders", .ref ox), ("others", .ref mx), ("counted", .ref nl), ("left", .ref lf), ("far", .int (far : Nat)), ("most", c)])) bl (.lst []) a = some o := fun a o ha h => s13 _ _ (by rw [upd_ne ha]; exact s12 _ _ (k11 a o ha h))
          have nbx : bl ≠ x := fun e => by rw [e, upd_same] at hbl; cases hbl
          refine q _ far c bl (fun a o ha h => by rw [upd_ne ha]; exact kf a o ha h) upd_same hfar hc (by rw [upd_ne nbx]; exact upd_same) ?_
          cases e : H bl with
          | none => rfl
          | some o =>
            have h1 : upd H12 x (.ins (ga K "Search") dx [("orders", .ref ox), ("others", .ref mx), ("counted", .ref nl), ("left", .ref lf), ("far", .int (far : Nat)), ("most", c)]) bl = none := hbl
            rw [upd_ne nbx, s12 _ _ (k11 bl o nbx e)] at h1
            cases h1
end
end Own
set_option Elab.async false
set_option linter.all false
set_option maxRecDepth 100000
set_option maxHeartbeats 4000000
/-! searches: they go one task deep -/
namespace Own
open PySem PySem.Spec PyProof.Rows L2 He OwnR
section
variable {P : Program} {w : World} {K : PySem.W.Frag} {mg : Str → Option Value} {base : Heap}
/-- a search's state; what stood ahead of it (H0) stays -/
structure SrC where
  x : Addr
  dx : Addr
  nl : Addr
  lf : Addr
  v : V
  u : V
  far : Nat
  most : V
  L : Lin
  M : Lin
  kn : List Str
  km : List Str
  names : List Str
structure SrB (K : PySem.W.Frag) (H0 : Hp) (c : SrC) : Prop where
  op : OrPair K H0 c.v c.u c.L c.M c.kn c.km
  nl : SqL K H0 c.nl (c.names.map V.str)
  x : H0 c.x = none
  lf : H0 c.lf = none
  far : c.far ≤ 40000
  most : c.most = .non ∨ ∃ i : Int, c.most = .int i
  sub : ∀ n ∈ c.names, n ∈ c.kn
  n4 : c.names.length ≤ 4
def SrS (K : PySem.W.Frag) (H0 : Hp) (c : SrC) (H : Hp) : Prop := Same H0 H ∧ ∃ bl bs lk, H c.x = some (.ins (ga K "Search") c.dx (sfs c.v c.u c.nl c.lf c.far c.most bl)) ∧ H bl = some (.lst bs) ∧ bs.length ≤ 1 ∧ H c.lf = some (.dK lk) ∧ lk.length ≤ 100 ∧ ∀ n ∈ c.names, ∃ i : Int, valV lk (.inr n) = some (.int i)
theorem SrS.mono {H0 H H' : Hp} {c : SrC} (h : SrS K H0 c H) (g : Same H H') : SrS K H0 c H' := by
  obtain ⟨s, bl, bs, lk, h1, h2, h3, h4, h5⟩ := h
  exact ⟨s.trans g, bl, bs, lk, g _ _ h1, g _ _ h2, h3, g _ _ h4, h5⟩
theorem sc_Search_is_done : FnScope ["self"] ["self"] (defScope s_Search_is_done) := ⟨rfl, rfl, rfl, by decide +kernel, rfl, by decide +kernel, by decide +kernel⟩
theorem b_Search_is_done (E : Env K mg base) : Binds K (fdAt K (ma K (ga K "Search") "is_done")) ["self"] [] := (f_Search_is_done E).bindsN fun _ _ _ _ _ _ us hl => match us, hl with | [_], _ => rfl
def sp_isd (K : PySem.W.Frag) : Sp := fun vs H Q _ => ∃ (H0 : Hp) (c : SrC), vs = [.ref c.x] ∧ SrS K H0 c H ∧ SrB K H0 c ∧ ∀ b : Bool, Q (.bl b) H
theorem ok_Search_is_done (E : Env K mg base) : FnOk P w K mg base CX0 1 (ma K (ga K "Search") "is_done") (fdAt K (ma K (ga K "Search") "is_done")) ["self"] ((sp_isd K)) := by
  refine okD (f_Search_is_done E) sc_Search_is_done (fun cdv A outer s H vs Q X hr h => ?_) (fun vs H Q X h => by obtain ⟨_, _, rfl, _⟩ := h; rfl)
  obtain ⟨H0, c, rfl, ⟨hs, bl, bs, lk, h1, h2, h3, h4, h5⟩, hB, q⟩ := h
  refine ⟨_, (pss_one (ps_ret (pe_and (pe_cmpR op_notN (pe_fldK K (pv 0)) pe_non (nomark _)) (pe_one (pe_cmpR op_ge (pe_callB (lenK K) rfl (n_len E) boot_len (pa_cons (pe_fldK K (pv 0)) pa_nil)) (pe_fldK K (pv 0)) (nomark _)))))), ?_⟩
  refine ⟨_, rfl, c.x, _, c.dx, _, c.most, rfl, h1, c_Search E, a_Search_most E, rfl, rfl, _, rfl, ?_⟩
  rcases hB.most with e | ⟨i, e⟩
  · rw [e]
    exact ite_f (b := !decide (V.non = V.non)) rfl (q false)
  · rw [e]
    refine ite_t (b := !decide (V.int i = V.non)) rfl ?_
    refine ⟨_, rfl, c.x, _, c.dx, _, .ref bl, rfl, h1, c_Search E, a_Search_best E, rfl, bl, bs, rfl, .inl (SqL.of h2), _, rfl, c.x, _, c.dx, _, .int i, rfl, h1, c_Search E, a_Search_most E, ?_, _, _, rfl, rfl, q _⟩
    show some c.most = some (V.int i)
    rw [e]
theorem sc_Search_is_free : FnScope ["self", "chosen", "task", "mate"] ["self", "chosen", "task"] (defScope s_Search_is_free) := ⟨rfl, rfl, rfl, by decide +kernel, rfl, by decide +kernel, by decide +kernel⟩
theorem b_Search_is_free (E : Env K mg base) : Binds K (fdAt K (ma K (ga K "Search") "is_free")) ["self", "chosen", "task"] [] := (f_Search_is_free E).bindsN fun _ _ _ _ _ _ us hl => match us, hl with | [_, _, _], _ => rfl
def sp_isf (K : PySem.W.Frag) : Sp := fun vs H Q _ => ∃ (H0 : Hp) (c : SrC) (cl : Addr) (c0 tv : V) (n m : Str) (i d : Nat), vs = [.ref c.x, .ref cl, tv] ∧ SrS K H0 c H ∧ SrB K H0 c ∧ SqL K H cl [c0] ∧ TaskAt K H c0 n i ∧ TaskAt K H tv m (i + d) ∧ n ∈ c.names ∧ m ∈ c.names ∧ lagF c.L n true m d = true ∧ ∀ H', Same H H' → Q (.bl false) H'
theorem ok_Search_is_free (E : Env K mg base) : FnOk P w K mg base CX0 6 (ma K (ga K "Search") "is_free") (fdAt K (ma K (ga K "Search") "is_free")) ["self", "chosen", "task"] ((sp_isf K)) := by
  refine okD (f_Search_is_free E) sc_Search_is_free (fun cdv A outer s H vs Q X hr h => ?_) (fun vs H Q X h => by obtain ⟨_, _, _, _, _, _, _, _, _, rfl, _⟩ := h; rfl)
  obtain ⟨H0, c, cl, c0, tv, n, m, i, d, rfl, ⟨hs, bl, bs, lk, h1, h2, h3, h4, h5⟩, hB, hcl, ht0, htv, hn, hm, hd, q⟩ := h
  obtain ⟨o1, o2, hS, hO, hO2⟩ := hB.op
  have hsub := ord_sub o1 o2 hS
  have o2' := o2.mono (sameI hs)
  obtain ⟨mx, mdx, _, _, _, _, _, _, eu, hmx, _⟩ := id o2'
  refine ⟨_, (pss_one (ps_ret (pe_not (pe_callB (anyK K) rfl (n_any E) boot_any (pa_cons (pe_lc (own := [("mate", 3)]) (g := (gName 3)) rfl sc_Search_is_free.nd (pi_list (pv 1)) (blkOk_by (own := [("mate", 3)]) (N := (["self", "chosen", "task", "mate"] : List Str)) (sc := defScope s_Search_is_free) (by decide +kernel)) (fun _ _ _ _ _ => (pg_name (i := 3) sc_Search_is_free.nd rfl (Or.inl rfl))) (fun _ _ _ _ _ => pts_nil) (fun _ _ _ _ _ => (pe_meth (pe_fldK K (pv 0)) (c_Orders E) (m_Orders_are_in_sequence E) (ok_Orders_are_in_sequence E) (hr.mono (by decide)) (b_Orders_are_in_sequence E) .nil pass0 (pa_cons (pv 3) (pa_cons (pv 2) pa_nil))))) pa_nil))))), ?_⟩
  refine ⟨_, rfl, cl, rfl, ⟨_, hcl⟩, fun D hD => ?_⟩
  refine lc_map (walk_list (K := K) (a := cl) (xs := [c0])) hD (fun _ => .bl true) (fun _ => true) (by show 1 ≤ _; omega) (fun H s => s.seq hcl) ?_ ?_
  · rintro k y H2 H3 Nk Ns hk s2 ⟨rfl, hy⟩ k1 k2
    have ek : k = 0 := by
      have : k < 1 := hk
      omega
    subst ek
    obtain rfl := Option.some.inj hy
    refine ⟨rfl, tyes_if ?_⟩
    refine ⟨_, rfl, c.x, _, c.dx, _, c.u, rfl, s2 _ _ h1, c_Search E, a_Search_others E, rfl, mx, mdx, _, eu, s2 _ _ hmx, rfl, _, rfl, _, rfl, _, c0, tv, c.M, c.km, n, m, i, d, ?_, o2'.mono (sameI s2), hsub n (hB.sub n hn), hsub m (hB.sub m hm), ht0.mono (sameI s2), htv.mono (sameI s2), hS.lag n true m d hd, fun H4 s4 => k1 rfl _ s4⟩
    exact congrArg (fun z => [z, c0, tv]) rfl
  · intro H2 s2 h2'
    rw [filter_true] at h2'
    exact ⟨D, [true], rfl, SqL.of h2', _, rfl, q H2 s2⟩
theorem if_either {b : Bool} {σ : L2.St} {H : Hp} {te1 te2 : TE} {Kont : VK} (G : V → Hp → Prop) (h1 : ∀ Q : VK, (∀ v H', G v H' → Q v H') → te1 σ H Q) (h2 : ∀ Q : VK, (∀ v H', G v H' → Q v H') → te2 σ H Q) (h : ∀ v H', G v H' → Kont v H') : if b = true then te1 σ H Kont else te2 σ H Kont := by
  cases b with
  | true => exact ite_t rfl (h1 _ h)
  | false => exact ite_f rfl (h2 _ h)
theorem sc_Search_next_tasks : FnScope ["self", "chosen", "name", "number", "found", "mate", "lags", "lag"] ["self", "chosen"] (defScope s_Search_next_tasks) := ⟨rfl, rfl, rfl, by decide +kernel, rfl, by decide +kernel, by decide +kernel⟩
theorem b_Search_next_tasks (E : Env K mg base) : Binds K (fdAt K (ma K (ga K "Search") "next_tasks")) ["self", "chosen"] [] := (f_Search_next_tasks E).bindsN fun _ _ _ _ _ _ us hl => match us, hl with | [_, _], _ => rfl
/-- the next tasks of no task: each name's first -/
def FirstsAt (K : PySem.W.Frag) (H : Hp) (a : Addr) (names : List Str) : Prop := ∃ xs, H a = some (.lst xs) ∧ xs.length ≤ 4 ∧ ∀ z ∈ xs, ∃ n, n ∈ names ∧ TaskAt K H z n 1
def sp_nt (K : PySem.W.Frag) : Sp := fun vs H Q _ => ∃ (H0 : Hp) (c : SrC) (cl : Addr), vs = [.ref c.x, .ref cl] ∧ SrS K H0 c H ∧ SrB K H0 c ∧
  ((SqL K H cl [] ∧ ∀ a H', Same H H' → FirstsAt K H' a c.names → Q (.ref a) H') ∨ (∃ (c0 : V) (n : Str), SqL K H cl [c0] ∧ TaskAt K H c0 n 1 ∧ n ∈ c.names ∧ ∀ a H', Same H H' → SqL K H' a [] → Q (.ref a) H'))
theorem ok_Search_next_tasks (E : Env K mg base) : FnOk P w K mg base CX0 7 (ma K (ga K "Search") "next_tasks") (fdAt K (ma K (ga K "Search") "next_tasks")) ["self", "chosen"] ((sp_nt K)) := by
  refine okD (f_Search_next_tasks E) sc_Search_next_tasks (fun cdv A outer s H vs Q X hr h => ?_) (fun vs H Q X h => by obtain ⟨_, _, _, rfl, _⟩ := h; rfl)
  obtain ⟨H0, c, cl, rfl, hss, hB, hq⟩ := h
  obtain ⟨hs, bl, bs, lk, h1, h2, h3, h4, h5, h6⟩ := id hss
  have e3 : sizeLine = 16777216 := sizeLine_eq
  refine ⟨_, (pss_cons (ps_if (pt_cmpR op_eq (pe_callB (lenK K) rfl (n_len E) boot_len (pa_cons (pv 1) pa_nil)) pe_int (nomark _)) (pss_one (ps_ret (pe_lc (own := [("name", 2)]) (g := (gName 2)) rfl sc_Search_next_tasks.nd (pi_list (pe_fldK K (pv 0))) (blkOk_by (own := [("name", 2)]) (N := (["self", "chosen", "name", "number", "found", "mate", "lags", "lag"] : List Str)) (sc := defScope s_Search_next_tasks) (by decide +kernel)) (fun _ _ _ _ _ => (pg_name (i := 2) sc_Search_next_tasks.nd rfl (Or.inl rfl))) (fun _ _ _ _ _ => pts_nil) (fun _ _ _ _ _ => (pe_tup (pa_cons (pv 2) (pa_cons pe_int pa_nil))))))) pss_nil)
      (pss_cons (ps_asg (pe_ix (ixL K) (pv 1) (pe_un un_neg pe_int) (fun _ _ => rfl)) (pg_tup rfl (pgs_cons (pg_name (i := 2) sc_Search_next_tasks.nd rfl (Or.inl rfl)) (pgs_cons (pg_name (i := 3) sc_Search_next_tasks.nd rfl (Or.inl rfl)) pgs_nil))))
      (pss_cons (ps_set (i := 4) sc_Search_next_tasks.nd rfl (Or.inl rfl) (pe_lst pa_nil))
      (pss_cons (ps_for PassesOwn.never rfl (pi_list (pe_fldK K (pv 0))) (pg_name (i := 5) sc_Search_next_tasks.nd rfl (Or.inl rfl)) (pss_cons (ps_set (i := 6) sc_Search_next_tasks.nd rfl (Or.inl rfl) (pe_ifExp (pt_cmpR op_gt (pe_dget (hu_of hr) (pe_fldK K (pv 0)) (pv 5) (fun _ _ => rfl)) pe_int (nomark _)) (pe_meth (pe_fldK K (pv 0)) (c_Orders E) (m_Orders_between E) (ok_Orders_between E) (hr.mono (by decide)) (b_Orders_between E) .nil pass0 (pa_cons (pv 2) (pa_cons (pv 5) pa_nil))) (pe_make0 (k_Lags E) (ok_Lags_init E) (hr.mono (by decide)) rfl (g_Lags E) (bL0 E).choose_spec.2 (bL0 E).choose_spec.1 pass0)))
      (pss_one (ps_for PassesOwn.never rfl (pi_range1 rfl (n_range E) (pa_cons (pe_ifExp (pt_cmpR op_notN (pe_prL (pv 6) (q_first E) (ok_Lags_first E) (hr.mono (by decide)) (bp_Lags_first E) rfl) pe_non (nomark _)) (pe_op op_add (pe_fldK K (pv 0)) pe_int) pe_int) pa_nil)) (pg_name (i := 7) sc_Search_next_tasks.nd rfl (Or.inl rfl)) (pss_one (ps_if (PW.pt (pw_and (pt_cmpR (op_inOwn (q_contains E) (ok_Lags_contains E) (hr.mono (by decide)) (b_Lags_contains E)) (pv 7) (pv 6) rfl) (pw_and1 (pt_val (pe_meth (pv 0) (c_Search E) (m_Search_is_free E) (ok_Search_is_free E) (hr.mono (by decide)) (b_Search_is_free E) .nil pass0 (pa_cons (pv 1) (pa_cons (pe_tup (pa_cons (pv 5) (pa_cons (pe_op op_add (pv 3) (pv 7)) pa_nil))) pa_nil))))))) (pss_one (ps_expr (pe_bm PySem.F.plainAttrs_list PySem.F.slot_list_append PySem.F.type_list_append mt_append (pv 4) (pa_cons (pe_tup (pa_cons (pv 5) (pa_cons (pe_op op_add (pv 3) (pv 7)) pa_nil))) pa_nil)))) pss_nil))))))
      (pss_one (ps_ret (pv 4))))))), ?_⟩
  rcases hq with ⟨hcl, q⟩ | ⟨c0, n, hcl, ht0, hn, q⟩
  · refine ⟨_, rfl, cl, [], rfl, .inl hcl, rfl, _, rfl, ite_t rfl ?_⟩
    refine ⟨_, rfl, c.x, _, c.dx, _, .ref c.nl, rfl, h1, c_Search E, a_Search_counted E, rfl, c.nl, rfl, ⟨_, hs.seq hB.nl⟩, fun D hD => ?_⟩
    refine lc_gen (walk_list (K := K) (a := c.nl) (xs := c.names.map V.str)) hD (fun i z H => ∃ n, n ∈ c.names ∧ TaskAt K H z n 1) (fun _ => true) (by rw [List.length_map]; have := hB.n4; omega) (fun i z H H' ⟨f, h, h'⟩ g => ⟨f, h, h'.mono g⟩) (fun H s => s.seq (hs.seq hB.nl)) ?_ ?_
    · rintro k y H7 H8 Nk Ns hk s8 ⟨rfl, hy⟩ k1 k2
      obtain ⟨m, em, rfl⟩ := map_get hy
      refine ⟨rfl, tyes_if ⟨_, rfl, by show 2 ≤ sizeLine; omega, fun p hp => ?_⟩⟩
      exact k1 rfl _ _ (sNew hp) ⟨m, List.mem_of_getElem? em, p, rfl, SqT.of upd_same⟩
    · intro H7 us s7 hus hpd
      rw [filter_true] at hpd
      have hul := Paired.length hpd
      rw [List.length_range, List.length_map] at hul
      refine q D _ s7 ⟨us, hus, by have := hB.n4; omega, fun z hz => ?_⟩
      obtain ⟨i, hi, e⟩ := List.mem_iff_getElem.mp hz
      obtain ⟨j, _, h⟩ := pget hpd (by rw [List.getElem?_eq_getElem hi, e])
      exact h
  · refine ⟨_, rfl, cl, [c0], rfl, .inl hcl, rfl, _, rfl, ite_f rfl ?_⟩
    obtain ⟨t0, rfl, ht0'⟩ := id ht0
    refine ⟨_, rfl, _, rfl, cl, [.ref t0], -1, .ref t0, rfl, rfl, hcl, rfl, ?_⟩
    refine ⟨t0, _, rfl, ht0', rfl, _, _, rfl, _, _, rfl, rfl, ?_⟩
    refine ⟨by show 0 ≤ sizeLine; omega, fun fd hfd => ?_⟩
    have s1 : Same H (upd H fd (.lst [])) := sNew hfd
    have k1 := hs.trans s1
    obtain ⟨o1, o2, hS, hO, hO2⟩ := id hB.op
    obtain ⟨ox, odx, _, _, _, _, _, _, ev, hox, _⟩ := id o1
    refine ⟨_, rfl, c.x, _, c.dx, _, .ref c.nl, rfl, s1 _ _ h1, c_Search E, a_Search_counted E, rfl, c.nl, rfl, ⟨_, k1.seq hB.nl⟩, ?_⟩
    refine for_it (walk_list (K := K) (a := c.nl) (xs := c.names.map V.str)) (fun i σ H' => Same (upd H fd (.lst [])) H' ∧ ∃ v5 v6 v7, σ = [some (.ref c.x), some (.ref cl), some (.str n), some (.int (1 : Nat)), some (.ref fd), v5, v6, v7])
      ⟨Same.refl _, _, _, _, rfl⟩ (fun i σ H' _ h => (k1.trans h.1).seq hB.nl) ?_ ?_
    · rintro i y σ H2 H3 hi ⟨s2, v5, v6, v7, rfl⟩ ⟨rfl, hy⟩
      obtain ⟨m, em, rfl⟩ := map_get hy
      have hm := List.mem_of_getElem? em
      have s12 := s1.trans s2
      obtain ⟨lv, hlv⟩ := h6 m hm
      refine ⟨_, rfl, c.x, _, c.dx, _, .ref c.lf, rfl, s12 _ _ h1, c_Search E, a_Search_left E, rfl, _, rfl, c.lf, _, rfl, .inl ⟨lk, .inr m, .of (s12 _ _ h4), rfl, hlv.symm⟩, ?_⟩
      refine ⟨_, _, rfl, rfl, _, rfl, if_either (fun u H4 => Same H3 H4 ∧ ∃ f, LagAt K H4 u f ∧ ∀ k, f k = true → lagF c.L n true m k = true) (fun Qx hQ => ?_) (fun Qx hQ => ?_) ?_⟩
      · refine ⟨_, rfl, c.x, _, c.dx, _, c.v, rfl, s12 _ _ h1, c_Search E, a_Search_orders E, rfl, ox, odx, _, ev, k1.trans s2 _ _ hox, rfl, _, rfl, _, rfl, _, c.L, c.kn, n, m, rfl, o1.mono (sameI (k1.trans s2)), hB.sub n hn, hB.sub m hm, fun u H4 s4 hu => hQ u H4 ⟨s4, _, hu, fun k h => h⟩⟩
      · exact mk_lags0 E fun u H4 s4 hu => hQ u H4 ⟨s4, _, hu, fun k h => by cases h⟩
      · rintro u H4 ⟨s4, f, hu, hf⟩
        obtain ⟨s0, p0, ⟨b, C, dx, tv, rfl, hC, hb, hF⟩, _⟩ := id hu
        have s14 := s12.trans s4
        refine ⟨_, rfl, b, C, dx, _, rfl, hC, hb, _, f, rfl, hu, fun H5 s5 hz => ?_, fun k0 H5 s5 hk0 _ _ => ?_⟩
        · refine ⟨rfl, _, rfl, ite_f rfl ⟨0, rfl, by omega, by omega, ?_⟩⟩
          refine for_range (lo := 0) (n := (0 : Int).toNat) (fun i σ H' => H' = H5 ∧ ∃ v5 v6 v7, σ = [some (.ref c.x), some (.ref cl), some (.str n), some (.int (1 : Nat)), some (.ref fd), v5, v6, v7])
            ⟨rfl, _, _, _, rfl⟩ ?_ ?_
          · intro i σ H' hi
            exact absurd hi (Nat.not_lt_zero i)
          · rintro σ H' ⟨rfl, v5, v6, v7, rfl⟩
            exact ⟨(s2.trans s4).trans s5, _, _, _, rfl⟩
        · refine ⟨rfl, _, rfl, ite_t rfl ?_⟩
          have s15 := s14.trans s5
          have hfar := hB.far
          refine ⟨_, rfl, c.x, _, c.dx, _, .int (c.far : Nat), rfl, s15 _ _ h1, c_Search E, a_Search_far E, rfl, _, _, rfl, rfl, (c.far : Int) + 1, rfl, by omega, by omega, ?_⟩
          have u5 := hu.mono (sameI s5)
          refine for_range (lo := 0) (n := ((c.far : Int) + 1).toNat) (fun i σ H' => Same H5 H' ∧ ∃ v7, σ = [some (.ref c.x), some (.ref cl), some (.str n), some (.int (1 : Nat)), some (.ref fd), some (.str m), some (.ref b), v7])
            ⟨Same.refl _, _, rfl⟩ ?_ ?_
          · rintro i σ H6 hi ⟨s6, v7, rfl⟩
            have s16 := s15.trans s6
            refine ⟨_, rfl, _, rfl, b, C, dx, _, rfl, hC, s6 _ _ (s5 _ _ hb), .ref b, f, 0 + (i : Nat), rfl, u5.mono (sameI s6), ?_⟩
            refine ⟨_, rfl, ?_⟩
            refine ⟨_, rfl, ?_⟩
            cases ef : (decide ((0 : Int) ≤ 0 + (i : Nat)) && f (0 + ((i : Nat) : Int)).toNat) with
            | false => exact ite_f rfl (ite_f rfl ⟨s6, _, rfl⟩)
            | true =>
              have ef2 : f i = true := by
                have := (Bool.and_eq_true_iff.mp ef).2
                rwa [show (0 + ((i : Nat) : Int)).toNat = i by omega] at this
              refine ite_t rfl ?_
              refine ⟨_, rfl, c.x, c.dx, _, rfl, s16 _ _ h1, rfl, _, rfl, _, rfl, _, rfl, _, rfl, _, _, rfl, rfl, by show 2 ≤ sizeLine; omega, fun p hp => ?_⟩
              have s7 : Same H6 (upd H6 p (.tup [.str m, .int ((1 : Nat) + (0 + (i : Nat)))])) := sNew hp
              have s17 := s16.trans s7
              refine ⟨H0, c, cl, .ref t0, .ref p, n, m, 1, i, rfl, hss.mono s17, hB, s17.seq hcl, ⟨t0, rfl, sT s17 ht0'⟩, ⟨p, rfl, SqT.of (upd_same.trans ?_)⟩, hn, hm, hf i ef2, fun H8 s8 => ?_⟩
              · have e : ((1 : Nat) : Int) + (0 + ((i : Nat) : Int)) = ((1 + i : Nat) : Int) := by omega
                exact congrArg (fun z => some (HO.tup [V.str m, V.int z])) e
              · exact ⟨_, rfl, ite_f rfl ⟨(s6.trans s7).trans s8, _, rfl⟩⟩
          · rintro σ H' ⟨s6, v7, rfl⟩
            exact ⟨((s2.trans s4).trans s5).trans s6, _, _, _, rfl⟩
    · rintro σ H2 ⟨s2, v5, v6, v7, rfl⟩
      exact ⟨_, rfl, q fd _ (s1.trans s2) (SqL.of (s2 _ _ upd_same))⟩
end
end Own
set_option Elab.async false
set_option linter.all false
set_option maxRecDepth 100000
set_option maxHeartbeats 4000000
/-! searches: going -/
namespace Own
open PySem PySem.Spec PyProof.Rows L2 He OwnR
def Fr (x y : Addr) (H H' : Hp) : Prop := ∀ a o, a ≠ x → a ≠ y → H a = some o → H' a = some o
theorem Fr.trans {x y : Addr} {H H1 H2 : Hp} (h : Fr x y H H1) (g : Fr x y H1 H2) : Fr x y H H2 := fun a o h1 h2 h3 => g a o h1 h2 (h a o h1 h2 h3)
theorem Fr.of {x y : Addr} {H H' : Hp} (h : Same H H') : Fr x y H H' := fun a o _ _ h3 => h a o h3
theorem if_cont {b : Bool} {ts : TS} {D : Ends} {σ : L2.St} {H : Hp} (G : Hp → Prop) (h1 : b = true → ∀ D' : Ends, (∀ H', G H' → D'.nx σ H') → ts D' σ H) (h2 : b = false → G H) (h : ∀ H', G H' → D.nx σ H') : if b = true then ts D σ H else tNext D σ H := by
  cases b with
  | true => exact ite_t rfl (h1 rfl _ h)
  | false => exact ite_f rfl (h _ (h2 rfl))
theorem putK_same {κ : Type} [DecidableEq κ] : ∀ {kvs : List (κ × V)} {k : κ} {v : V}, (valV kvs k).isSome = true → (putK kvs k v).length = kvs.length := by
  intro kvs k v h
  unfold putK
  split
  · rw [List.length_map]
  · rename_i c
    refine absurd ?_ c
    unfold valV at h
    rw [Option.isSome_map, List.find?_isSome] at h
    exact List.any_eq_true.mpr h
theorem putK_len {κ : Type} [DecidableEq κ] {kvs : List (κ × V)} {k : κ} {v : V} : (putK kvs k v).length ≤ kvs.length + 1 := by
  unfold putK
  split
  · rw [List.length_map]; omega
  · rw [List.length_append]; exact Nat.le_refl _
def lvOf (lk : List (Key × V)) (n : Str) : Int := match valV lk (.inr n) with | some (.int i) => i | _ => 0
theorem lvOf_eq {lk : List (Key × V)} {n : Str} {i : Int} (h : valV lk (.inr n) = some (.int i)) : lvOf lk n = i := by unfold lvOf; rw [h]
section
variable {P : Program} {w : World} {K : PySem.W.Frag} {mg : Str → Option Value} {base : Heap}
theorem seqT_fr {x y t : Addr} {H H' : Hp} {xs : List V} {C dx : Addr} {fs : List (Str × V)} {kvs : List (Key × V)} (h : SqT K H t xs) (g : Fr x y H H') (hx : H x = some (.ins C dx fs)) (hy : H y = some (.dK kvs)) : SqT K H' t xs := by
  rcases h with (h | ⟨o, h⟩) | h
  · exact .inl (.inl (g _ _ (fun e => by rw [e, hx] at h; cases h) (fun e => by rw [e, hy] at h; cases h) h))
  · exact .inl (.inr ⟨o, g _ _ (fun e => by rw [e, hx] at h; cases h) (fun e => by rw [e, hy] at h; cases h) h⟩)
  · exact .inr h
theorem go_no (f : Addr) (fd : FuncData) (ps : List Str) : FnOk P w K mg base CX0 0 f fd ps (fun _ _ _ _ => False) := ⟨fun _ _ _ _ h => h.elim, fun _ _ _ _ _ _ _ _ _ _ _ _ _ h => h.elim⟩
theorem sc_Search_go : FnScope ["self", "chosen", "left", "task", "name"] ["self", "chosen"] (defScope s_Search_go) := ⟨rfl, rfl, rfl, by decide +kernel, rfl, by decide +kernel, by decide +kernel⟩
theorem b_Search_go (E : Env K mg base) : Binds K (fdAt K (ma K (ga K "Search") "go")) ["self", "chosen"] [] := (f_Search_go E).bindsN fun _ _ _ _ _ _ us hl => match us, hl with | [_, _], _ => rfl
def sp_gl (K : PySem.W.Frag) : Sp := fun vs H Q _ => ∃ (H0 : Hp) (c : SrC) (cl : Addr) (c0 : V) (n : Str), vs = [.ref c.x, .ref cl] ∧ SrS K H0 c H ∧ SrB K H0 c ∧ H cl = some (.lst [c0]) ∧ TaskAt K H c0 n 1 ∧ n ∈ c.names ∧ ∀ H', Fr c.x c.lf H H' → SrS K H0 c H' → Q .non H'
theorem ok_go_leaf (E : Env K mg base) : FnOk P w K mg base CX0 8 (ma K (ga K "Search") "go") (fdAt K (ma K (ga K "Search") "go")) ["self", "chosen"] ((sp_gl K)) := by
  refine okD (f_Search_go E) sc_Search_go (fun cdv A outer s H vs Q X hr h => ?_) (fun vs H Q X h => by obtain ⟨_, _, _, _, _, rfl, _⟩ := h; rfl)
  obtain ⟨H0, c, cl, c0, n, rfl, hss, hB, hcl, ht0, hn, q⟩ := h
  obtain ⟨hs, bl, bs, lk, h1, h2, h3, h4, h5, h6⟩ := id hss
  have e3 : sizeLine = 16777216 := sizeLine_eq
  have ok_Search_go := fun (_ : Env K mg base) => go_no (P := P) (w := w) (K := K) (mg := mg) (base := base) (ma K (ga K "Search") "go") (fdAt K (ma K (ga K "Search") "go")) ["self", "chosen"]
  refine ⟨_, (pss_cons (ps_if (pt_cmpR op_gt (pe_callB (lenK K) rfl (n_len E) boot_len (pa_cons (pv 1) pa_nil)) (pe_callB (lenK K) rfl (n_len E) boot_len (pa_cons (pe_fldK K (pv 0)) pa_nil)) (nomark _)) (pss_one (ps_fld (pv 0) (pv 1) rfl)) pss_nil)
      (pss_cons (ps_set (i := 2) sc_Search_go.nd rfl (Or.inl rfl) (pe_callB (sumK K) rfl (n_sum E) boot_sum (pa_cons (pe_lc (own := [("name", 4)]) (g := (gName 4)) rfl sc_Search_go.nd (pi_list (pe_fldK K (pv 0))) (blkOk_by (own := [("name", 4)]) (N := (["self", "chosen", "left", "task", "name"] : List Str)) (sc := defScope s_Search_go) (by decide +kernel)) (fun _ _ _ _ _ => (pg_name (i := 4) sc_Search_go.nd rfl (Or.inl rfl))) (fun _ _ _ _ _ => pts_nil) (fun _ _ _ _ _ => (pe_dget (hu_of hr) (pe_fldK K (pv 0)) (pv 4) (fun _ _ => rfl)))) pa_nil)))
      (pss_one (ps_if (PW.pt (pw_and (pt_cmpR op_gt (pe_op op_add (pe_callB (lenK K) rfl (n_len E) boot_len (pa_cons (pv 1) pa_nil)) (pv 2)) (pe_callB (lenK K) rfl (n_len E) boot_len (pa_cons (pe_fldK K (pv 0)) pa_nil)) (nomark _)) (pw_and1 (pt_not (pt_val (pe_meth0 (pv 0) (c_Search E) (m_Search_is_done E) (ok_Search_is_done E) (hr.mono (by decide)) (b_Search_is_done E) .nil pass0)))))) (pss_one (ps_for PassesOwn.never rfl (pi_list (pe_meth (pv 0) (c_Search E) (m_Search_next_tasks E) (ok_Search_next_tasks E) (hr.mono (by decide)) (b_Search_next_tasks E) .nil pass0 (pa_cons (pv 1) pa_nil))) (pg_name (i := 3) sc_Search_go.nd rfl (Or.inl rfl)) (pss_cons (ps_daug (hu_of hr) (pe_fldK K (pv 0)) (pe_ix (ixT K) (pv 3) pe_int (fun _ _ => rfl)) pe_int in_sub (fun _ _ _ => rfl))
      (pss_cons (ps_expr (pe_meth (pv 0) (c_Search E) (m_Search_go E) (ok_Search_go E) (hr.mono (by decide)) (b_Search_go E) .nil pass0 (pa_cons (pe_lst (StX.pa_star (pv 1) (pa_cons (pv 3) pa_nil))) pa_nil)))
      (pss_one (ps_daug (hu_of hr) (pe_fldK K (pv 0)) (pe_ix (ixT K) (pv 3) pe_int (fun _ _ => rfl)) pe_int in_add (fun _ _ _ => rfl))))))) pss_nil)))), ?_⟩
  refine ⟨_, rfl, cl, [c0], rfl, .inl (SqL.of hcl), _, rfl, c.x, _, c.dx, _, .ref bl, rfl, h1, c_Search E, a_Search_best E, rfl, bl, bs, rfl, .inl (SqL.of h2), _, _, rfl, rfl, _, rfl, ?_⟩
  refine if_cont (fun H' => SrS K H0 c H' ∧ Fr c.x c.lf H H') (fun _ D' hD' => ?_) (fun _ => ⟨hss, Fr.of (Same.refl _)⟩) ?_
  · refine ⟨_, rfl, _, rfl, c.x, _, c.dx, _, rfl, h1, c_Search E, a_Search_best E, (by show 7 < 1000; decide), ?_⟩
    have ncx : cl ≠ c.x := fun e => by rw [e, h1] at hcl; cases hcl
    have nlx : c.lf ≠ c.x := fun e => by rw [e, h1] at h4; cases h4
    exact hD' _ ⟨⟨sMut hs hB.x, cl, [c0], lk, upd_same, by rw [upd_ne ncx]; exact hcl, Nat.le_refl _, by rw [upd_ne nlx]; exact h4, h5, h6⟩, fun a o ha _ h => by rw [upd_ne ha]; exact h⟩
  · rintro H1 ⟨hss1, hf1⟩
    obtain ⟨hs1, bl1, bs1, lk1, i1, i2, i3, i4, i5, i6⟩ := id hss1
    have hcl1 : H1 cl = some (.lst [c0]) := hf1 _ _ (fun e => by rw [e, h1] at hcl; cases hcl) (fun e => by rw [e, h4] at hcl; cases hcl) hcl
    have ht1 : TaskAt K H1 c0 n 1 := by
      obtain ⟨t, rfl, ht⟩ := ht0
      exact ⟨t, rfl, seqT_fr ht hf1 h1 h4⟩
    refine ⟨_, rfl, c.x, _, c.dx, _, .ref c.nl, rfl, i1, c_Search E, a_Search_counted E, rfl, c.nl, rfl, ⟨_, hs1.seq hB.nl⟩, fun D hD => ?_⟩
    refine lc_map (walk_list (K := K) (a := c.nl) (xs := c.names.map V.str)) hD (gv c.names fun n => .int (lvOf lk1 n)) (fun _ => true) (by rw [List.length_map]; have := hB.n4; omega) (fun H s => s.seq (hs1.seq hB.nl)) ?_ ?_
    · rintro k y H2 H3 Nk Ns hk s2 ⟨rfl, hy⟩ k1 k2
      obtain ⟨m, em, rfl⟩ := map_get hy
      obtain ⟨lv, hlv⟩ := i6 m (List.mem_of_getElem? em)
      rw [gv_at em, lvOf_eq hlv] at k1
      refine ⟨rfl, tyes_if ⟨_, rfl, c.x, _, c.dx, _, .ref c.lf, rfl, s2 _ _ i1, c_Search E, a_Search_left E, rfl, _, rfl, c.lf, _, rfl, .inl ⟨lk1, .inr m, .of (s2 _ _ i4), rfl, hlv.symm⟩, ?_⟩⟩
      exact k1 rfl _ (Same.refl _)
    · intro H2 s2 h2'
      rw [filter_true, List.length_map, map_range_get] at h2'
      refine ⟨D, c.names.map (lvOf lk1), rfl, SqL.of (h2'.trans (by rw [List.map_map]; rfl)), ?_⟩
      have f2 := hf1.trans (Fr.of s2)
      refine ⟨_, rfl, cl, [c0], rfl, .inl (SqL.of (s2 _ _ hcl1)), ?_⟩
      have hss2 := hss1.mono s2
      refine ⟨_, rfl, _, _, rfl, rfl, _, rfl, c.x, _, c.dx, _, .ref bl1, rfl, s2 _ _ i1, c_Search E, a_Search_best E, rfl, bl1, bs1, rfl, .inl (SqL.of (s2 _ _ i2)), _, _, rfl, rfl, _, rfl, ?_⟩
      cases (decide (((bs1.length : Nat) : Int) < (([c0] : List V).length : Nat) + (c.names.map (lvOf lk1)).sum)) with
      | false => exact ite_f rfl (ite_f rfl (q _ f2 hss2))
      | true =>
        refine ite_t rfl ⟨_, rfl, c.x, c.dx, _, rfl, s2 _ _ i1, rfl, H0, c, rfl, hss2, hB, fun b => ⟨_, rfl, ?_⟩⟩
        cases b with
        | true => exact ite_f rfl (q _ f2 hss2)
        | false =>
          refine ite_t rfl ⟨_, rfl, c.x, c.dx, _, rfl, s2 _ _ i1, rfl, _, rfl, H0, c, cl, rfl, hss2, hB, .inr ⟨c0, n, SqL.of (s2 _ _ hcl1), ht1.mono (sameI s2), hn, fun a H3 s3 ha => ?_⟩⟩
          refine ⟨a, rfl, ⟨_, ha⟩, ?_⟩
          refine for_it (walk_list (K := K) (a := a) (xs := ([] : List V))) (fun i σ H' => H' = H3 ∧ ∃ v3 v4, σ = [some (.ref c.x), some (.ref cl), some (.int (c.names.map (lvOf lk1)).sum), v3, v4]) ⟨rfl, _, _, rfl⟩ (fun i σ H' _ h => by rw [h.1]; exact ha) ?_ ?_
          · rintro i y σ H4 H5 hi _ _
            exact absurd hi (Nat.not_lt_zero i)
          · rintro σ H4 ⟨rfl, _, _, rfl⟩
            exact q _ (f2.trans (Fr.of s3)) (hss2.mono s3)
def sp_go (K : PySem.W.Frag) : Sp := fun vs H Q _ => ∃ (H0 : Hp) (c : SrC) (cl : Addr), vs = [.ref c.x, .ref cl] ∧ SrS K H0 c H ∧ SrB K H0 c ∧ H cl = some (.lst []) ∧ ∀ H', SrS K H0 c H' → Q .non H'
/-- one name's number changes -/
theorem SrS.put {H0 H : Hp} {c : SrC} {lk : List (Key × V)} {n : Str} {i : Int} (h : SrS K H0 c H) (hB : SrB K H0 c) (hl : H c.lf = some (.dK lk)) (hn : (valV lk (.inr n)).isSome = true) (hk : lk.length ≤ 100) : SrS K H0 c (upd H c.lf (.dK (putK lk (.inr n) (.int i)))) ∧ Fr c.x c.lf H (upd H c.lf (.dK (putK lk (.inr n) (.int i)))) := by
  obtain ⟨hs, bl, bs, lk', h1, h2, h3, h4, h5, h6⟩ := h
  rw [hl] at h4
  cases h4
  have nx : c.x ≠ c.lf := fun e => by rw [e, hl] at h1; cases h1
  have nb : bl ≠ c.lf := fun e => by rw [e, hl] at h2; cases h2
  refine ⟨⟨sMut hs hB.lf, bl, bs, _, by rw [upd_ne nx]; exact h1, by rw [upd_ne nb]; exact h2, h3, upd_same, ?_, fun m hm => ?_⟩, fun a o _ ha h => by rw [upd_ne ha]; exact h⟩
  · rw [putK_same hn]; exact h5
  · rw [valV_put]
    split
    · exact ⟨_, rfl⟩
    · exact h6 m hm
theorem ok_Search_go (E : Env K mg base) : FnOk P w K mg base CX0 9 (ma K (ga K "Search") "go") (fdAt K (ma K (ga K "Search") "go")) ["self", "chosen"] ((sp_go K)) := by
  refine okD (f_Search_go E) sc_Search_go (fun cdv A outer s H vs Q X hr h => ?_) (fun vs H Q X h => by obtain ⟨_, _, _, rfl, _⟩ := h; rfl)
  obtain ⟨H0, c, cl, rfl, hss, hB, hcl, q⟩ := h
  obtain ⟨hs, bl, bs, lk, h1, h2, h3, h4, h5, h6⟩ := id hss
  have e3 : sizeLine = 16777216 := sizeLine_eq
  have ok_Search_go := fun (E : Env K mg base) => ok_go_leaf (P := P) (w := w) E
  refine ⟨_, (pss_cons (ps_if (pt_cmpR op_gt (pe_callB (lenK K) rfl (n_len E) boot_len (pa_cons (pv 1) pa_nil)) (pe_callB (lenK K) rfl (n_len E) boot_len (pa_cons (pe_fldK K (pv 0)) pa_nil)) (nomark _)) (pss_one (ps_fld (pv 0) (pv 1) rfl)) pss_nil)
      (pss_cons (ps_set (i := 2) sc_Search_go.nd rfl (Or.inl rfl) (pe_callB (sumK K) rfl (n_sum E) boot_sum (pa_cons (pe_lc (own := [("name", 4)]) (g := (gName 4)) rfl sc_Search_go.nd (pi_list (pe_fldK K (pv 0))) (blkOk_by (own := [("name", 4)]) (N := (["self", "chosen", "left", "task", "name"] : List Str)) (sc := defScope s_Search_go) (by decide +kernel)) (fun _ _ _ _ _ => (pg_name (i := 4) sc_Search_go.nd rfl (Or.inl rfl))) (fun _ _ _ _ _ => pts_nil) (fun _ _ _ _ _ => (pe_dget (hu_of hr) (pe_fldK K (pv 0)) (pv 4) (fun _ _ => rfl)))) pa_nil)))
      (pss_one (ps_if (PW.pt (pw_and (pt_cmpR op_gt (pe_op op_add (pe_callB (lenK K) rfl (n_len E) boot_len (pa_cons (pv 1) pa_nil)) (pv 2)) (pe_callB (lenK K) rfl (n_len E) boot_len (pa_cons (pe_fldK K (pv 0)) pa_nil)) (nomark _)) (pw_and1 (pt_not (pt_val (pe_meth0 (pv 0) (c_Search E) (m_Search_is_done E) (ok_Search_is_done E) (hr.mono (by decide)) (b_Search_is_done E) .nil pass0)))))) (pss_one (ps_for PassesOwn.never rfl (pi_list (pe_meth (pv 0) (c_Search E) (m_Search_next_tasks E) (ok_Search_next_tasks E) (hr.mono (by decide)) (b_Search_next_tasks E) .nil pass0 (pa_cons (pv 1) pa_nil))) (pg_name (i := 3) sc_Search_go.nd rfl (Or.inl rfl)) (pss_cons (ps_daug (hu_of hr) (pe_fldK K (pv 0)) (pe_ix (ixT K) (pv 3) pe_int (fun _ _ => rfl)) pe_int in_sub (fun _ _ _ => rfl))
      (pss_cons (ps_expr (pe_meth (pv 0) (c_Search E) (m_Search_go E) (ok_Search_go E) (hr.mono (by decide)) (b_Search_go E) .nil pass0 (pa_cons (pe_lst (StX.pa_star (pv 1) (pa_cons (pv 3) pa_nil))) pa_nil)))
      (pss_one (ps_daug (hu_of hr) (pe_fldK K (pv 0)) (pe_ix (ixT K) (pv 3) pe_int (fun _ _ => rfl)) pe_int in_add (fun _ _ _ => rfl))))))) pss_nil)))), ?_⟩
  refine ⟨_, rfl, cl, [], rfl, .inl (SqL.of hcl), _, rfl, c.x, _, c.dx, _, .ref bl, rfl, h1, c_Search E, a_Search_best E, rfl, bl, bs, rfl, .inl (SqL.of h2), _, _, rfl, rfl, _, rfl, ite_f (decide_eq_false (by show ¬ ((bs.length : Nat) : Int) < ((0 : Nat) : Int); omega)) ?_⟩
  refine ⟨_, rfl, c.x, _, c.dx, _, .ref c.nl, rfl, h1, c_Search E, a_Search_counted E, rfl, c.nl, rfl, ⟨_, hs.seq hB.nl⟩, fun D hD => ?_⟩
  refine lc_map (walk_list (K := K) (a := c.nl) (xs := c.names.map V.str)) hD (gv c.names fun n => .int (lvOf lk n)) (fun _ => true) (by rw [List.length_map]; have := hB.n4; omega) (fun H s => s.seq (hs.seq hB.nl)) ?_ ?_
  · rintro k y H2 H3 Nk Ns hk s2 ⟨rfl, hy⟩ k1 k2
    obtain ⟨m, em, rfl⟩ := map_get hy
    obtain ⟨lv, hlv⟩ := h6 m (List.mem_of_getElem? em)
    rw [gv_at em, lvOf_eq hlv] at k1
    refine ⟨rfl, tyes_if ⟨_, rfl, c.x, _, c.dx, _, .ref c.lf, rfl, s2 _ _ h1, c_Search E, a_Search_left E, rfl, _, rfl, c.lf, _, rfl, .inl ⟨lk, .inr m, .of (s2 _ _ h4), rfl, hlv.symm⟩, ?_⟩⟩
    exact k1 rfl _ (Same.refl _)
  · intro H2 s2 h2'
    rw [filter_true, List.length_map, map_range_get] at h2'
    refine ⟨D, c.names.map (lvOf lk), rfl, SqL.of (h2'.trans (by rw [List.map_map]; rfl)), ?_⟩
    refine ⟨_, rfl, cl, [], rfl, .inl (SqL.of (s2 _ _ hcl)), ?_⟩
    have hss2 := hss.mono s2
    refine ⟨_, rfl, _, _, rfl, rfl, _, rfl, c.x, _, c.dx, _, .ref bl, rfl, s2 _ _ h1, c_Search E, a_Search_best E, rfl, bl, bs, rfl, .inl (SqL.of (s2 _ _ h2)), _, _, rfl, rfl, _, rfl, ?_⟩
    cases (decide (((bs.length : Nat) : Int) < (([] : List V).length : Nat) + (c.names.map (lvOf lk)).sum)) with
    | false => exact ite_f rfl (ite_f rfl (q _ hss2))
    | true =>
      refine ite_t rfl ⟨_, rfl, c.x, c.dx, _, rfl, s2 _ _ h1, rfl, H0, c, rfl, hss2, hB, fun b => ⟨_, rfl, ?_⟩⟩
      cases b with
      | true => exact ite_f rfl (q _ hss2)
      | false =>
        refine ite_t rfl ⟨_, rfl, c.x, c.dx, _, rfl, s2 _ _ h1, rfl, _, rfl, H0, c, cl, rfl, hss2, hB, .inl ⟨SqL.of (s2 _ _ hcl), fun a H3 s3 ⟨xs, ha, hxl, hxs⟩ => ?_⟩⟩
        have hss3 := hss2.mono s3
        have s23 := s2.trans s3
        have hcl3 := s23 _ _ hcl
        have hx3 := s23 _ _ h1
        have hl3 := s23 _ _ h4
        refine ⟨a, rfl, ⟨_, SqL.of ha⟩, ?_⟩
        have nox : ∀ {b : Addr} {l : List V}, H3 b = some (.lst l) → b ≠ c.x := fun h e => by rw [e, hx3] at h; cases h
        have nol : ∀ {b : Addr} {l : List V}, H3 b = some (.lst l) → b ≠ c.lf := fun h e => by rw [e, hl3] at h; cases h
        refine for_it (walk_list (K := K) (a := a) (xs := xs)) (fun i σ H' => SrS K H0 c H' ∧ Fr c.x c.lf H3 H' ∧ ∃ v3 v4, σ = [some (.ref c.x), some (.ref cl), some (.int (c.names.map (lvOf lk)).sum), v3, v4]) ⟨hss3, Fr.of (Same.refl _), _, _, rfl⟩ (fun i σ H' _ h => SqL.of (h.2.1 _ _ (nox ha) (nol ha) ha)) ?_ ?_
        · rintro i y σ H4 H5 hi ⟨hss4, f4, v3, v4, rfl⟩ ⟨rfl, hy⟩
          obtain ⟨n, hn, t, rfl, ht⟩ := hxs y (List.mem_of_getElem? hy)
          have ht5 := seqT_fr ht f4 hx3 hl3
          obtain ⟨hs5, bl5, bs5, lk5, j1, j2, j3, j4, j5, j6⟩ := id hss4
          obtain ⟨lv, hlv⟩ := j6 n hn
          obtain ⟨hss6, f6⟩ := hss4.put (n := n) (i := lv - 1) hB j4 (by rw [hlv]; rfl) j5
          refine ⟨_, rfl, c.x, _, c.dx, _, .ref c.lf, rfl, j1, c_Search E, a_Search_left E, rfl, _, rfl, t, _, 0, .str n, rfl, rfl, ht5, rfl, c.lf, .int lv, rfl, .inl ⟨lk5, .inr n, .of j4, rfl, hlv.symm⟩, lv, 1, rfl, rfl, _, .inl ⟨lk5, .inr n, j4, rfl, by omega, rfl⟩, ?_⟩
          have hcl6 := f6 _ _ (nox hcl3) (nol hcl3) (f4 _ _ (nox hcl3) (nol hcl3) hcl3)
          have ht6 := seqT_fr ht5 f6 j1 j4
          obtain ⟨H6, eH6⟩ : ∃ H6, H6 = upd H5 c.lf (.dK (putK lk5 (.inr n) (.int (lv - 1)))) := ⟨_, rfl⟩
          rw [← eH6] at hss6 f6 hcl6 ht6
          have hx6 : ∃ bl6 bs6 lk6, H6 c.x = some (.ins (ga K "Search") c.dx (sfs c.v c.u c.nl c.lf c.far c.most bl6)) ∧ H6 bl6 = some (.lst bs6) ∧ bs6.length ≤ 1 ∧ H6 c.lf = some (.dK lk6) ∧ lk6.length ≤ 100 ∧ ∀ n ∈ c.names, ∃ i : Int, valV lk6 (.inr n) = some (.int i) := hss6.2
          obtain ⟨bl6, bs6, lk6, m1, m2, m3, m4, m5, m6⟩ := hx6
          subst eH6
          refine ⟨_, rfl, c.x, c.dx, _, rfl, m1, rfl, _, rfl, cl, [], rfl, .inr (SqL.of hcl6), _, rfl, by show 0 + 1 ≤ sizeLine; omega, fun p hp => ?_⟩
          have s7 := sNew (o := .lst ([] ++ [V.ref t])) hp
          refine ⟨H0, c, p, .ref t, n, rfl, hss6.mono s7, hB, upd_same, ⟨t, rfl, sT s7 ht6⟩, hn, fun H8 f8 hss8 => ?_⟩
          have ht8 := seqT_fr (sT s7 ht6) f8 (s7 _ _ m1) (s7 _ _ m4)
          obtain ⟨hs8, bl8, bs8, lk8, r1, r2, r3, r4, r5, r6⟩ := id hss8
          obtain ⟨l8, hl8⟩ := r6 n hn
          obtain ⟨hss9, f9⟩ := hss8.put (n := n) (i := l8 + 1) hB r4 (by rw [hl8]; rfl) r5
          refine ⟨_, rfl, c.x, _, c.dx, _, .ref c.lf, rfl, r1, c_Search E, a_Search_left E, rfl, _, rfl, t, _, 0, .str n, rfl, rfl, ht8, rfl, c.lf, .int l8, rfl, .inl ⟨lk8, .inr n, .of r4, rfl, hl8.symm⟩, l8, 1, rfl, rfl, _, .inl ⟨lk8, .inr n, r4, rfl, by omega, rfl⟩, ?_⟩
          exact ⟨hss9, (((f4.trans f6).trans (Fr.of s7)).trans f8).trans f9, _, _, rfl⟩
        · rintro σ H4 ⟨hss4, f4, _, _, rfl⟩
          exact q _ hss4
end
end Own
set_option Elab.async false
set_option linter.all false
set_option maxRecDepth 100000
set_option maxHeartbeats 4000000
/-! factors -/
namespace Own
open PySem PySem.Spec PyProof.Rows L2 He OwnR
section
variable {P : Program} {w : World} {K : PySem.W.Frag} {mg : Str → Option Value} {base : Heap}
theorem same_none {H H' : Hp} {a : Addr} (h : Same H H') (e : H' a = none) : H a = none := by
  cases q : H a with
  | none => rfl
  | some o => have := h _ _ q; rw [e] at this; cases this
theorem pf_any {H : Hp} {z : V} {f : Nat → Bool} {Q : VK} {Ex : XK} (hz : LagAt K H z f) (h : ∀ fv H2, Same H H2 → (fv = .non ∨ ∃ k : Nat, fv = .int (k : Nat)) → Q fv H2) : sp_pf K [z] H Q Ex :=
  ⟨z, f, rfl, hz, fun H' s _ => h _ _ s (.inl rfl), fun k H' s _ _ _ => h _ _ s (.inr ⟨k, rfl⟩)⟩
/-- Search(v, u, names, left), then go([]) -/
theorem mk_search {H0 H : Hp} {Qx : Hp → Prop} {v u : V} {L M : Lin} {kn km names : List Str} {x dx nl lf : Addr} {lk : List (Key × V)} (hOP : OrPair K H0 v u L M kn km) (hnl : SqL K H0 nl (names.map V.str)) (hnd : names.Nodup) (h4 : names.length ≤ 4) (hsub : ∀ n ∈ names, n ∈ kn) (s : Same H0 H) (hl0 : H0 lf = none) (hl : H lf = some (.dK lk)) (hll : lk.length ≤ 100) (hlv : ∀ n ∈ names, ∃ i : Int, valV lk (.inr n) = some (.int i)) (hx : H x = none) (hd : H dx = none) (ne : dx ≠ x)
    (q : ∀ H' c, c.x = x → c.lf = lf → SrS K H0 c H' → SrB K H0 c → Qx H') : sp_sri K [.ref x, v, u, .ref nl, .ref lf] (upd (upd H dx (.own x)) x (.ins (ga K "Search") dx [])) (fun v H3 => v = .non ∧ Qx H3) E0 := by
  have s0 : Same H (upd (upd H dx (.own x)) x (.ins (ga K "Search") dx [])) := (sNew hd).trans (sNew (by rw [upd_ne (Ne.symm ne)]; exact hx))
  refine ⟨x, dx, nl, lf, v, u, L, M, kn, km, names, rfl, upd_same, hOP.mono (sameI (s.trans s0)), (s.trans s0).seq hnl, hnd, h4, hsub, fun H' far most bl hk hx' hfar hm hbl _ => ⟨rfl, ?_⟩⟩
  have k1 : Same H H' := fun a o h => by
    have hc : a ≠ x := fun e => by rw [e, hx] at h; cases h
    exact hk a o hc (s0 _ _ h)
  exact q H' ⟨x, dx, nl, lf, v, u, far, most, L, M, kn, km, names⟩ rfl rfl ⟨s.trans k1, bl, [], lk, hx', hbl, Nat.zero_le _, k1 _ _ hl, hll, hlv⟩ ⟨hOP, hnl, same_none s hx, hl0, hfar, hm, hsub, h4⟩
theorem if_both {b : Bool} {σ : L2.St} {H : Hp} {te1 te2 : TE} {Kont : VK} (G : V → Hp → Prop) (h1 : b = true → ∀ Q : VK, (∀ v H', G v H' → Q v H') → te1 σ H Q) (h2 : b = false → ∀ Q : VK, (∀ v H', G v H' → Q v H') → te2 σ H Q) (h : ∀ v H', G v H' → Kont v H') : if b = true then te1 σ H Kont else te2 σ H Kont := by
  cases b with
  | true => exact ite_t rfl (h1 rfl _ h)
  | false => exact ite_f rfl (h2 rfl _ h)
theorem sc_most_alone : FnScope ["orders", "others", "name", "first", "search"] ["orders", "others", "name"] (defScope s_most_alone) := ⟨rfl, rfl, rfl, by decide +kernel, rfl, by decide +kernel, by decide +kernel⟩
theorem b_most_alone (E : Env K mg base) : Binds K (fdAt K (ga K "most_alone")) ["orders", "others", "name"] [] := (f_most_alone E).bindsN fun _ _ _ _ _ _ us hl => match us, hl with | [_, _, _], _ => rfl
def sp_ma (K : PySem.W.Frag) : Sp := fun vs H Q _ => ∃ (v u : V) (L M : Lin) (kn km : List Str) (n : Str), vs = [v, u, .str n] ∧ OrPair K H v u L M kn km ∧ n ∈ kn ∧ ∀ H' (j : Nat), Same H H' → j ≤ 1 → Q (.int j) H'
theorem ok_most_alone (E : Env K mg base) : FnOk P w K mg base CX0 10 (ga K "most_alone") (fdAt K (ga K "most_alone")) ["orders", "others", "name"] ((sp_ma K)) := by
  refine okD (f_most_alone E) sc_most_alone (fun cdv A outer s H vs Q X hr h => ?_) (fun vs H Q X h => by obtain ⟨_, _, _, _, _, _, _, rfl, _⟩ := h; rfl)
  obtain ⟨v, u, L, M, kn, km, n, rfl, hOP, hn, q⟩ := h
  have e3 : sizeLine = 16777216 := sizeLine_eq
  obtain ⟨h1, h2, hS, hO, hO2⟩ := id hOP
  have hsub2 := ord_sub h1 h2 hS
  obtain ⟨mx, mdx, _, _, _, _, _, _, eu, hmx, _⟩ := id h2
  refine ⟨_, (pss_cons (ps_set (i := 3) sc_most_alone.nd rfl (Or.inl rfl) (pe_prL (pe_meth (pv 1) (c_Orders E) (m_Orders_between E) (ok_Orders_between E) (hr.mono (by decide)) (b_Orders_between E) .nil pass0 (pa_cons (pv 2) (pa_cons (pv 2) pa_nil))) (q_first E) (ok_Lags_first E) (hr.mono (by decide)) (bp_Lags_first E) rfl))
      (pss_cons (ps_set (i := 4) sc_most_alone.nd rfl (Or.inl rfl) (pe_make (k_Search E) (ok_Search_init E) (hr.mono (by decide)) rfl (g_Search E) (b_Search_init E) .nil pass0 (pa_cons (pv 0) (pa_cons (pv 1) (pa_cons (pe_lst (pa_cons (pv 2) pa_nil)) (pa_cons (pe_disp (pps_cons (pv 2) (pe_ifExp (pt_cmpR op_isN (pv 3) pe_non (nomark _)) pe_int (pv 3)) pps_nil) rfl rfl (fun h => nomatch h) (by decide)) pa_nil))))))
      (pss_cons (ps_expr (pe_meth (pv 4) (c_Search E) (m_Search_go E) (ok_Search_go E) (hr.mono (by decide)) (b_Search_go E) .nil pass0 (pa_cons (pe_lst pa_nil) pa_nil)))
      (pss_one (ps_ret (pe_callB (lenK K) rfl (n_len E) boot_len (pa_cons (pe_fldK K (pv 4)) pa_nil))))))), ?_⟩
  refine ⟨_, rfl, mx, mdx, _, eu, hmx, rfl, _, rfl, _, rfl, _, M, km, n, n, rfl, h2, hsub2 n hn, hsub2 n hn, fun z H1 s1 hz => ?_⟩
  obtain ⟨s0, p0, ⟨b, C, dx0, tv, rfl, hC, hb, hF⟩, _⟩ := id hz
  refine ⟨b, C, dx0, _, rfl, hC, hb, pf_any hz fun fv H2 s2 hfv => ?_⟩
  have s12 := s1.trans s2
  refine ⟨_, rfl, _, rfl, _, rfl, by show 1 ≤ sizeLine; omega, fun p1 hp1 => ?_⟩
  have s3 := s12.trans (sNew (o := .lst [.str n]) hp1)
  refine fun p2 hp2 => ?_
  have s4 : Same (upd H2 p1 (.lst [.str n])) (upd (upd H2 p1 (.lst [.str n])) p2 (.dK [])) := sNew hp2
  refine ⟨_, rfl, _, rfl, rfl, _, rfl, if_both (fun z H' => H' = upd (upd H2 p1 (.lst [.str n])) p2 (.dK []) ∧ ∃ i : Int, z = .int i) (fun _ Qx hQ => ?_) (fun cf Qx hQ => ?_) ?_⟩
  · exact hQ _ _ ⟨rfl, _, rfl⟩
  · rcases hfv with e | ⟨k, e⟩
    · rw [e] at cf
      exact absurd rfl (of_decide_eq_false cf)
    · subst e
      exact ⟨_, rfl, hQ _ _ ⟨rfl, _, rfl⟩⟩
  · rintro z H3 ⟨rfl, i, rfl⟩
    refine ⟨upd_same, [(.inr n, .int i)], rfl, by show 1 ≤ 15; decide, ?_⟩
    rw [upd_upd]
    refine fun x dx hx hd ne => ?_
    refine mk_search (hOP.mono (sameI s3)) (SqL.of upd_same) (List.nodup_cons.mpr ⟨List.not_mem_nil, List.nodup_nil⟩) (by show 1 ≤ 4; decide) (fun m hm => by rw [List.mem_singleton.mp hm]; exact hn) (sNew hp2) hp2 upd_same (by show 1 ≤ 100; decide) (fun m hm => by rw [List.mem_singleton.mp hm]; exact ⟨i, valV_pos rfl⟩) hx hd ne (fun H4 c ex el hss hB => ?_)
    subst ex
    obtain ⟨s5, bl, bs, lk, i1, i2, i3, _⟩ := id hss
    refine ⟨_, rfl, c.x, c.dx, _, rfl, i1, rfl, by show 0 ≤ sizeLine; omega, fun p hp => ?_⟩
    have s6 := sNew (o := .lst []) hp
    refine ⟨_, c, p, rfl, hss.mono s6, hB, upd_same, fun H5 hss5 => ?_⟩
    obtain ⟨s7, bl5, bs5, lk5, j1, j2, j3, _⟩ := id hss5
    refine ⟨_, rfl, c.x, _, c.dx, _, .ref bl5, rfl, j1, c_Search E, a_Search_best E, rfl, bl5, bs5, rfl, .inl (SqL.of j2), ?_⟩
    exact q H5 bs5.length (s3.trans s7) j3
theorem sc_most_tasks : FnScope ["orders", "others", "names", "search", "name"] ["orders", "others"] (defScope s_most_tasks) := ⟨rfl, rfl, rfl, by decide +kernel, rfl, by decide +kernel, by decide +kernel⟩
theorem b_most_tasks (E : Env K mg base) : Binds K (fdAt K (ga K "most_tasks")) ["orders", "others"] [] := (f_most_tasks E).bindsN fun _ _ _ _ _ _ us hl => match us, hl with | [_, _], _ => rfl
def sp_mt (K : PySem.W.Frag) : Sp := fun vs H Q _ => ∃ (v u : V) (L M : Lin) (kn km : List Str), vs = [v, u] ∧ OrPair K H v u L M kn km ∧ ∀ H' b bs, Same H H' → H' b = some (.lst bs) → bs.length ≤ 1 → Q (.ref b) H'
theorem ok_most_tasks (E : Env K mg base) : FnOk P w K mg base CX0 11 (ga K "most_tasks") (fdAt K (ga K "most_tasks")) ["orders", "others"] ((sp_mt K)) := by
  refine okD (f_most_tasks E) sc_most_tasks (fun cdv A outer s H vs Q X hr h => ?_) (fun vs H Q X h => by obtain ⟨_, _, _, _, _, _, rfl, _⟩ := h; rfl)
  obtain ⟨v, u, L, M, kn, km, rfl, hOP, q⟩ := h
  have e3 : sizeLine = 16777216 := sizeLine_eq
  obtain ⟨h1, h2, hS, hO, hO2⟩ := id hOP
  refine ⟨_, (pss_cons (ps_set (i := 2) sc_most_tasks.nd rfl (Or.inl rfl) (pe_call (ok_counting E) (hr.mono (by decide)) rfl (g_counting E) (f_counting E).kp (b_counting E) .nil pass0 (pa_cons (pv 0) pa_nil)))
      (pss_cons (ps_set (i := 3) sc_most_tasks.nd rfl (Or.inl rfl) (pe_make (k_Search E) (ok_Search_init E) (hr.mono (by decide)) rfl (g_Search E) (b_Search_init E) .nil pass0 (pa_cons (pv 0) (pa_cons (pv 1) (pa_cons (pv 2) (pa_cons (pe_dc (own := [("name", 4)]) (g := (gName 4)) rfl sc_most_tasks.nd (pi_list (pv 2)) (blkOk_by (own := [("name", 4)]) (N := (["orders", "others", "names", "search", "name"] : List Str)) (sc := defScope s_most_tasks) (by decide +kernel)) (fun _ _ _ _ _ => (pg_name (i := 4) sc_most_tasks.nd rfl (Or.inl rfl))) (fun _ _ _ _ _ => pts_nil) (fun _ _ _ _ _ => (pv 4)) (fun _ _ _ _ _ => (pe_call (ok_most_alone E) (hr.mono (by decide)) rfl (g_most_alone E) (f_most_alone E).kp (b_most_alone E) .nil pass0 (pa_cons (pv 0) (pa_cons (pv 1) (pa_cons (pv 4) pa_nil)))))) pa_nil))))))
      (pss_cons (ps_expr (pe_meth (pv 3) (c_Search E) (m_Search_go E) (ok_Search_go E) (hr.mono (by decide)) (b_Search_go E) .nil pass0 (pa_cons (pe_lst pa_nil) pa_nil)))
      (pss_one (ps_ret (pe_fldK K (pv 3))))))), ?_⟩
  refine ⟨_, rfl, v, L, kn, rfl, h1, ord_len h1 hO, ord_nd h1 hO, fun N H1 cs s1 hN hcs hnd h4 => ?_⟩
  refine ⟨_, rfl, _, rfl, _, rfl, ?_⟩
  refine ⟨_, rfl, N, rfl, ⟨_, SqL.of hN⟩, fun D hD => ?_⟩
  refine dc_it (walk_list (K := K) (a := N) (xs := cs.map V.str)) (fun i H' => Same H1 H' ∧ ∃ kvs, H' D = some (.dK kvs) ∧ kvs.length ≤ i ∧ ∀ j m, j < i → cs[j]? = some m → ∃ z : Int, valV kvs (.inr m) = some (.int z))
    ⟨sNew hD, [], upd_same, Nat.le_refl _, fun j m h => by omega⟩ (fun i H' _ h => SqL.of (h.1 _ _ hN)) ?_ ?_
  · rintro i y H2 H3 hi ⟨s2, kvs, hk, hl, hv⟩ ⟨rfl, hy⟩
    obtain ⟨n, en, rfl⟩ := map_get hy
    have hi4 : i < 4 := by rw [List.length_map] at hi; omega
    refine ⟨rfl, tyes_if ⟨_, rfl, _, rfl, _, rfl, _, rfl, v, u, L, M, kn, km, n, rfl, hOP.mono (sameI (s1.trans s2)), hcs n (List.mem_of_getElem? en), fun H4 j s4 hj => ?_⟩⟩
    refine ⟨kvs, .inr n, rfl, s4 _ _ hk, by omega, sMut (s2.trans s4) hD, _, upd_same, ?_, fun j' m hj' hm => ?_⟩
    · have := putK_len (kvs := kvs) (k := Sum.inr n) (v := V.int (j : Nat)); omega
    · rw [valV_put]
      split
      · exact ⟨_, rfl⟩
      · rename_i hne
        by_cases c : j' < i
        · exact hv j' m c hm
        · have : j' = i := by omega
          subst this
          rw [en] at hm
          cases hm
          exact absurd rfl hne
  · rintro H2 ⟨s2, kvs, hk, hl, hv⟩
    rw [List.length_map] at hl hv
    refine fun x dx hx hd ne => ?_
    refine mk_search (hOP.mono (sameI s1)) (SqL.of hN) hnd h4 hcs s2 hD hk (by omega) (fun m hm => by
      obtain ⟨j, hj, e⟩ := List.mem_iff_getElem.mp hm
      exact hv j m hj (by rw [List.getElem?_eq_getElem hj, e])) hx hd ne (fun H4 c ex el hss hB => ?_)
    subst ex
    obtain ⟨s5, bl, bs, lk, i1, i2, i3, _⟩ := id hss
    refine ⟨_, rfl, c.x, c.dx, _, rfl, i1, rfl, by show 0 ≤ sizeLine; omega, fun p hp => ?_⟩
    have s6 := sNew (o := .lst []) hp
    refine ⟨_, c, p, rfl, hss.mono s6, hB, upd_same, fun H5 hss5 => ?_⟩
    obtain ⟨s7, bl5, bs5, lk5, j1, j2, j3, _⟩ := id hss5
    exact ⟨_, rfl, c.x, _, c.dx, _, .ref bl5, rfl, j1, c_Search E, a_Search_best E, rfl, q H5 bl5 bs5 (s1.trans s7) j2 j3⟩
theorem sc_factor : FnScope ["one", "other", "orders", "others"] ["one", "other"] (defScope s_factor) := ⟨rfl, rfl, rfl, by decide +kernel, rfl, by decide +kernel, by decide +kernel⟩
theorem b_factor (E : Env K mg base) : Binds K (fdAt K (ga K "factor")) ["one", "other"] [] := (f_factor E).bindsN fun _ _ _ _ _ _ us hl => match us, hl with | [_, _], _ => rfl
def sp_fc (K : PySem.W.Frag) : Sp := fun vs H Q _ => ∃ (v u : V) (L M : Lin), vs = [v, u] ∧ LineAt K H v L ∧ LineAt K H u M ∧ Sub L M ∧ L.Ok ∧ M.Ok ∧ Acyc L ∧ Acyc M ∧ ∀ H' (j : Nat), Same H H' → j ≤ 1 → Q (.int (j : Nat)) H'
theorem ok_factor (E : Env K mg base) : FnOk P w K mg base CX0 15 (ga K "factor") (fdAt K (ga K "factor")) ["one", "other"] ((sp_fc K)) := by
  refine okD (f_factor E) sc_factor (fun cdv A outer s H vs Q X hr h => ?_) (fun vs H Q X h => by obtain ⟨_, _, _, _, rfl, _⟩ := h; rfl)
  obtain ⟨v, u, L, M, rfl, hL, hM, hS, hO, hO2, hA, hA2, q⟩ := h
  have e3 : sizeLine = 16777216 := sizeLine_eq
  refine ⟨_, (pss_cons (ps_expr (pe_call (ok_check_pair E) (hr.mono (by decide)) rfl (g_check_pair E) (f_check_pair E).kp (b_check_pair E) .nil pass0 (pa_cons (pv 0) (pa_cons (pv 1) pa_nil))))
      (pss_cons (ps_expr (pe_callR (E := E0) (ok_check_free E) (hr.mono (by decide)) (f_check_free E).kp rfl (g_check_free E) pass0 (pa_cons (pv 0) (pa_cons (pv 1) pa_nil))))
      (pss_cons (ps_par (i := 2) (j := 3) rfl sc_factor.nd rfl rfl (by decide) rfl rfl (pa_cons (pe_make (k_Orders E) (ok_Orders_init E) (hr.mono (by decide)) rfl (g_Orders E) (b_Orders_init E) .nil pass0 (pa_cons (pv 0) pa_nil)) (pa_cons (pe_make (k_Orders E) (ok_Orders_init E) (hr.mono (by decide)) rfl (g_Orders E) (b_Orders_init E) .nil pass0 (pa_cons (pv 1) pa_nil)) pa_nil)) (by rfl))
      (pss_cons (ps_if (PW.pt (pw_or (pt_cmpR op_notN (pe_call (ok_lost_station E) (hr.mono (by decide)) rfl (g_lost_station E) (f_lost_station E).kp (b_lost_station E) .nil pass0 (pa_cons (pv 2) (pa_cons (pv 3) pa_nil))) pe_non (nomark _)) (pw_or1 (pt_cmpR op_notN (pe_call (ok_free_station E) (hr.mono (by decide)) rfl (g_free_station E) (f_free_station E).kp (b_free_station E) .nil pass0 (pa_cons (pv 2) (pa_cons (pv 3) pa_nil))) pe_non (nomark _))))) (pss_one (ps_ret pe_non)) pss_nil)
      (pss_one (ps_ret (pe_callB (lenK K) rfl (n_len E) boot_len (pa_cons (pe_call (ok_most_tasks E) (hr.mono (by decide)) rfl (g_most_tasks E) (f_most_tasks E).kp (b_most_tasks E) .nil pass0 (pa_cons (pv 2) (pa_cons (pv 3) pa_nil))) pa_nil)))))))), ?_⟩
  refine ⟨_, rfl, _, rfl, v, u, L, M, rfl, hL, hM, ?_⟩
  refine ⟨_, rfl, _, rfl, [], [v, u], rfl, rfl, by show 2 ≤ sizeLine; omega, fun p hp => ⟨p, [v, u], [L, M], rfl, SqT.of upd_same, .cons ⟨hL.mono (sameI (sNew hp)), hO, hA⟩ (.cons ⟨hM.mono (sameI (sNew hp)), hO2, hA2⟩ .nil), fun H3 s3 => ?_⟩⟩
  have s03 := (sNew hp).trans s3
  refine ⟨_, rfl, fun o1 d1 q1 q2 q3 => mk_orders (hL.mono (sameI s03)) hO hA q1 q2 q3 fun H4 kn s4 h1 => ?_⟩
  have s04 := s03.trans s4
  refine ⟨_, rfl, fun o2 d2 q1 q2 q3 => mk_orders (hM.mono (sameI s04)) hO2 hA2 q1 q2 q3 fun H5 km s5 h2 => ⟨_, _, rfl, ?_⟩⟩
  have s05 := s04.trans s5
  have hOP : OrPair K H5 (.ref o1) (.ref o2) L M kn km := ⟨h1.mono (sameI s5), h2, hS, hO, hO2⟩
  refine ⟨_, rfl, _, rfl, _, _, L, M, kn, km, rfl, hOP, fun H6 s6 => ⟨rfl, _, rfl, ite_f (b := !decide (V.non = V.non)) rfl ?_⟩⟩
  refine ⟨_, rfl, _, rfl, _, _, L, M, kn, km, rfl, hOP.mono (sameI s6), fun H7 s7 => ⟨rfl, _, rfl, ite_f (b := !decide (V.non = V.non)) rfl ?_⟩⟩
  refine ⟨_, rfl, _, rfl, _, _, L, M, kn, km, rfl, hOP.mono (sameI (s6.trans s7)), fun H8 b bs s8 hb hbl => ⟨b, bs, rfl, .inl (SqL.of hb), q H8 _ (((s05.trans s6).trans s7).trans s8) hbl⟩⟩
end
end Own
set_option Elab.async false
set_option linter.all false
set_option maxRecDepth 100000
set_option maxHeartbeats 4000000
/-! head starts -/
namespace Own
open PySem PySem.Spec PyProof.Rows L2 He OwnR
section
variable {P : Program} {w : World} {K : PySem.W.Frag} {mg : Str → Option Value} {base : Heap}
theorem sc_are_never_bad : FnScope ["orders", "others", "name", "mate"] ["orders", "others"] (defScope s_are_never_bad) := ⟨rfl, rfl, rfl, by decide +kernel, rfl, by decide +kernel, by decide +kernel⟩
theorem b_are_never_bad (E : Env K mg base) : Binds K (fdAt K (ga K "are_never_bad")) ["orders", "others"] [] := (f_are_never_bad E).bindsN fun _ _ _ _ _ _ us hl => match us, hl with | [_, _], _ => rfl
def sp_anb (K : PySem.W.Frag) : Sp := fun vs H Q _ => ∃ (v u : V) (L M : Lin) (kn km : List Str), vs = [v, u] ∧ OrPair K H v u L M kn km ∧ ∀ H', Same H H' → Q (.bl true) H'
theorem ok_are_never_bad (E : Env K mg base) : FnOk P w K mg base CX0 6 (ga K "are_never_bad") (fdAt K (ga K "are_never_bad")) ["orders", "others"] ((sp_anb K)) := by
  refine okD (f_are_never_bad E) sc_are_never_bad (fun cdv A outer s H vs Q X hr h => ?_) (fun vs H Q X h => by obtain ⟨_, _, _, _, _, _, rfl, _⟩ := h; rfl)
  obtain ⟨v, u, L, M, kn, km, rfl, hOP, q⟩ := h
  obtain ⟨h1, h2, hS, hO, hO2⟩ := id hOP
  obtain ⟨x, dx, t, _, _, _, _, _, ev, hx, hkn, _⟩ := id h1
  refine ⟨_, (pss_cons (ps_for PassesOwn.never rfl (pi_tup (pe_fldK K (pv 0))) (pg_name (i := 2) sc_are_never_bad.nd rfl (Or.inl rfl)) (pss_one (ps_for PassesOwn.never rfl (pi_list (pe_call (ok_counting E) (hr.mono (by decide)) rfl (g_counting E) (f_counting E).kp (b_counting E) .nil pass0 (pa_cons (pv 0) pa_nil))) (pg_name (i := 3) sc_are_never_bad.nd rfl (Or.inl rfl)) (pss_one (ps_if (pt_cmpR op_notN (pe_prL (pe_call (ok_bad_lags E) (hr.mono (by decide)) rfl (g_bad_lags E) (f_bad_lags E).kp (b_bad_lags E) .nil pass0 (pa_cons (pv 0) (pa_cons (pv 1) (pa_cons (pv 2) (pa_cons (pv 3) pa_nil))))) (q_first E) (ok_Lags_first E) (hr.mono (by decide)) (bp_Lags_first E) rfl) pe_non (nomark _)) (pss_one (ps_ret pe_bl)) pss_nil)))))
      (pss_one (ps_ret pe_bl))), ?_⟩
  refine ⟨_, rfl, x, _, dx, _, .ref t, ev, hx, c_Orders E, a_Orders_known E, rfl, t, rfl, ⟨_, hkn⟩, ?_⟩
  refine for_it (walk_tup (K := K) (a := t) (xs := kn.map V.str)) (fun i σ H' => Same H H' ∧ ∃ v2 v3, σ = [some v, some u, v2, v3]) ⟨Same.refl _, _, _, rfl⟩ (fun i σ H' _ h => sT h.1 hkn) ?_ ?_
  · rintro i y σ H1 H2 hi ⟨s1, v2, v3, rfl⟩ ⟨rfl, hy⟩
    obtain ⟨n, en, rfl⟩ := map_get hy
    have hn := List.mem_of_getElem? en
    refine ⟨_, rfl, v, L, kn, rfl, h1.mono (sameI s1), ord_len h1 hO, ord_nd h1 hO, fun N H3 cs s3 hN hcs hnd h4 => ?_⟩
    refine ⟨N, rfl, ⟨_, SqL.of hN⟩, ?_⟩
    refine for_it (walk_list (K := K) (a := N) (xs := cs.map V.str)) (fun i σ H' => Same H3 H' ∧ ∃ v3, σ = [some v, some u, some (.str n), v3]) ⟨Same.refl _, _, rfl⟩ (fun i σ H' _ h => SqL.of (h.1 _ _ hN)) ?_ ?_
    · rintro j y σ H4 H5 hj ⟨s4, v3, rfl⟩ ⟨rfl, hy⟩
      obtain ⟨m, em, rfl⟩ := map_get hy
      have s14 := (s1.trans s3).trans s4
      refine ⟨_, rfl, _, rfl, _, rfl, _, rfl, v, u, L, M, kn, km, n, m, rfl, hOP.mono (sameI s14), hn, hcs m (List.mem_of_getElem? em), fun z g H6 s6 hz hg => ?_⟩
      obtain ⟨s0, p0, ⟨b, C, dx0, tv, rfl, hC, hb, hF⟩, _⟩ := id hz
      refine ⟨b, C, dx0, _, rfl, hC, hb, .ref b, g, rfl, hz, fun H7 s7 _ => ?_, fun k H7 _ hk => ?_⟩
      · exact ⟨rfl, _, rfl, ite_f (b := !decide (V.non = V.non)) rfl ⟨(s4.trans s6).trans s7, _, rfl⟩⟩
      · rw [hg k] at hk
        cases hk
    · rintro σ H4 ⟨s4, v3, rfl⟩
      exact ⟨(s1.trans s3).trans s4, _, _, rfl⟩
  · rintro σ H1 ⟨s1, v2, v3, rfl⟩
    exact q H1 s1
theorem formAt_per {H : Hp} {v : V} {f : Nat → Bool} {s p : Nat} (h : FormAt K H v f s p) : 0 < p ∧ Per f s p := by
  obtain ⟨_, _, _, _, _, _, r⟩ := h
  exact ⟨r.pos, r.per⟩
theorem sc_later_by : FnScope ["lags", "start", "member"] ["lags", "start"] (defScope s_later_by) := ⟨rfl, rfl, rfl, by decide +kernel, rfl, by decide +kernel, by decide +kernel⟩
theorem b_later_by (E : Env K mg base) : Binds K (fdAt K (ga K "later_by")) ["lags", "start"] [] := (f_later_by E).bindsN fun _ _ _ _ _ _ us hl => match us, hl with | [_, _], _ => rfl
def sp_lby (K : PySem.W.Frag) : Sp := fun vs H Q _ => ∃ (v : V) (f : Nat → Bool), vs = [v, .int 0] ∧ LagAt K H v f ∧ ∀ x H', Same H H' → LagAt K H' x f → Q x H'
theorem ok_later_by (E : Env K mg base) : FnOk P w K mg base CX0 5 (ga K "later_by") (fdAt K (ga K "later_by")) ["lags", "start"] ((sp_lby K)) := by
  refine okD (f_later_by E) sc_later_by (fun cdv A outer s H vs Q X hr h => ?_) (fun vs H Q X h => by obtain ⟨_, _, rfl, _⟩ := h; rfl)
  obtain ⟨v, f, rfl, hv, q⟩ := h
  obtain ⟨s, p, hL, l1, d1⟩ := id hv
  obtain ⟨b, C, dx0, tv, rfl, hC, hb, hF⟩ := id hL
  have hp : p ≤ 27720 := Nat.le_of_dvd (by decide) d1
  refine ⟨_, (pss_one (ps_ret (pe_call (ok_lags_of E) (hr.mono (by decide)) rfl (g_lags_of E) (f_lags_of E).kp (b_lags_of E) .nil pass0 (pa_cons (pe_lc (own := [("member", 2)]) (g := (gName 2)) rfl sc_later_by.nd (pi_tup (pe_prL (pv 0) (q_members E) (ok_Lags_members E) (hr.mono (by decide)) (bp_Lags_members E) rfl)) (blkOk_by (own := [("member", 2)]) (N := (["lags", "start", "member"] : List Str)) (sc := defScope s_later_by) (by decide +kernel)) (fun _ _ _ _ _ => (pg_name (i := 2) sc_later_by.nd rfl (Or.inl rfl))) (fun _ _ _ _ _ => pts_nil) (fun _ _ _ _ _ => (pe_op op_add (pv 2) (pv 1)))) (pa_cons (pe_op op_add (pe_prL (pv 0) (q_start E) (ok_Lags_start E) (hr.mono (by decide)) (bp_Lags_start E) rfl) (pv 1)) (pa_cons (pe_prL (pv 0) (q_period E) (ok_Lags_period E) (hr.mono (by decide)) (bp_Lags_period E) rfl) pa_nil)))))), ?_⟩
  refine ⟨_, rfl, b, C, dx0, _, rfl, hC, hb, .ref b, f, s, p, rfl, hL, by omega, fun a H1 s1 ha => ?_⟩
  have hnl : ((List.range (s + p)).filter f).length ≤ 1000000 := Nat.le_trans (List.length_filter_le _ _) (by rw [List.length_range]; omega)
  refine ⟨a, rfl, ⟨_, ha⟩, fun D hD => ?_⟩
  refine lc_map (walk_tup (K := K) (a := a) (xs := ((List.range (s + p)).filter f).map fun k => V.int (k : Nat))) hD (gv ((List.range (s + p)).filter f) fun n => .int (n : Nat)) (fun _ => true) (by rw [List.length_map]; exact hnl) (fun H s => sT s ha) ?_ ?_
  · rintro k y H2 H3 Nk Ns hk s2 ⟨rfl, hy⟩ k1 k2
    obtain ⟨m, em, rfl⟩ := map_get hy
    rw [gv_at em] at k1
    refine ⟨rfl, tyes_if ⟨_, rfl, _, rfl, _, _, rfl, rfl, ?_⟩⟩
    have := k1 rfl _ (Same.refl _)
    rw [← Int.add_zero ((m : Nat) : Int)] at this
    exact this
  · intro H2 s2 h2
    rw [filter_true, List.length_map, map_range_get] at h2
    have s12 := s1.trans s2
    refine ⟨_, rfl, b, C, dx0, _, rfl, hC, s12 _ _ hb, .ref b, f, s, p, rfl, hL.mono (sameI s12), _, rfl, _, _, rfl, rfl, ?_⟩
    refine ⟨_, rfl, b, C, dx0, _, rfl, hC, s12 _ _ hb, .ref b, f, s, p, rfl, hL.mono (sameI s12), ?_⟩
    obtain ⟨hpos, hper⟩ := formAt_per hF
    refine ⟨D, (List.range (s + p)).filter f, f, s, p, congrArg (fun z : Int => [V.ref D, V.int z, V.int (p : Nat)]) (Int.add_zero ((s : Nat) : Int)), SqL.of h2, fun n hn => List.mem_range.mp (List.mem_filter.mp hn).1, by omega, hpos, fun k hk => ?_, hper, fun x s' q' H3 s3 hx l3 d3 _ => q x H3 (s12.trans s3) ⟨s', q', hx, by omega, Nat.dvd_trans d3 d1⟩⟩
    exact bool_iff ⟨fun h => decide_eq_true (List.mem_filter.mpr ⟨List.mem_range.mpr hk, h⟩), fun h => (List.mem_filter.mp (of_decide_eq_true h)).2⟩
theorem sc_suits : FnScope ["orders", "others", "start", "name"] ["orders", "others", "start"] (defScope s_suits) := ⟨rfl, rfl, rfl, by decide +kernel, rfl, by decide +kernel, by decide +kernel⟩
theorem b_suits (E : Env K mg base) : Binds K (fdAt K (ga K "suits")) ["orders", "others", "start"] [] := (f_suits E).bindsN fun _ _ _ _ _ _ us hl => match us, hl with | [_, _, _], _ => rfl
def sp_su (K : PySem.W.Frag) : Sp := fun vs H Q _ => ∃ (v u : V) (L M : Lin) (kn km : List Str), vs = [v, u, .int 0] ∧ OrPair K H v u L M kn km ∧ ∀ H', Same H H' → Q (.bl true) H'
theorem ok_suits (E : Env K mg base) : FnOk P w K mg base CX0 7 (ga K "suits") (fdAt K (ga K "suits")) ["orders", "others", "start"] ((sp_su K)) := by
  refine okD (f_suits E) sc_suits (fun cdv A outer s H vs Q X hr h => ?_) (fun vs H Q X h => by obtain ⟨_, _, _, _, _, _, rfl, _⟩ := h; rfl)
  obtain ⟨v, u, L, M, kn, km, rfl, hOP, q⟩ := h
  obtain ⟨h1, h2, hS, hO, hO2⟩ := id hOP
  have hsub := ord_sub h1 h2 hS
  obtain ⟨ox, odx, _, _, _, _, _, _, ev, hox, _⟩ := id h1
  obtain ⟨mx, mdx, _, _, _, _, _, _, eu, hmx, _⟩ := id h2
  refine ⟨_, (pss_one (ps_ret (pe_callB (allK K) rfl (n_all E) boot_all (pa_cons (pe_lc (own := [("name", 3)]) (g := (gName 3)) rfl sc_suits.nd (pi_list (pe_call (ok_counting E) (hr.mono (by decide)) rfl (g_counting E) (f_counting E).kp (b_counting E) .nil pass0 (pa_cons (pv 0) pa_nil))) (blkOk_by (own := [("name", 3)]) (N := (["orders", "others", "start", "name"] : List Str)) (sc := defScope s_suits) (by decide +kernel)) (fun _ _ _ _ _ => (pg_name (i := 3) sc_suits.nd rfl (Or.inl rfl))) (fun _ _ _ _ _ => pts_nil) (fun _ _ _ _ _ => (pe_mtL (pe_call (ok_later_by E) (hr.mono (by decide)) rfl (g_later_by E) (f_later_by E).kp (b_later_by E) .nil pass0 (pa_cons (pe_meth (pv 0) (c_Orders E) (m_Orders_to_outlet E) (ok_Orders_to_outlet E) (hr.mono (by decide)) (b_Orders_to_outlet E) .nil pass0 (pa_cons (pv 3) pa_nil)) (pa_cons (pv 2) pa_nil))) (q_within E) (ok_Lags_within E) (hr.mono (by decide)) (b_Lags_within E) (pa_cons (pe_meth (pv 1) (c_Orders E) (m_Orders_to_outlet E) (ok_Orders_to_outlet E) (hr.mono (by decide)) (b_Orders_to_outlet E) .nil pass0 (pa_cons (pv 3) pa_nil)) pa_nil)))) pa_nil)))), ?_⟩
  refine ⟨_, rfl, v, L, kn, rfl, h1, ord_len h1 hO, ord_nd h1 hO, fun N H1 cs s1 hN hcs hnd h4 => ?_⟩
  refine ⟨N, rfl, ⟨_, SqL.of hN⟩, fun D hD => ?_⟩
  refine lc_map (walk_list (K := K) (a := N) (xs := cs.map V.str)) hD (fun _ => .bl true) (fun _ => true) (by rw [List.length_map]; omega) (fun H s => SqL.of (s _ _ hN)) ?_ ?_
  · rintro k y H2 H3 Nk Ns hk s2 ⟨rfl, hy⟩ k1 k2
    obtain ⟨n, en, rfl⟩ := map_get hy
    have hn := hcs n (List.mem_of_getElem? en)
    have s12 := s1.trans s2
    refine ⟨rfl, tyes_if ?_⟩
    refine ⟨_, rfl, ox, odx, _, ev, s12 _ _ hox, rfl, _, rfl, _, L, kn, n, rfl, h1.mono (sameI s12), hn, fun z hz => ?_⟩
    refine ⟨_, rfl, z, _, rfl, hz, fun z2 H4 s4 hz2 => ?_⟩
    obtain ⟨s0, p0, ⟨b, C, dx0, tv, rfl, hC, hb, hF⟩, _⟩ := id hz2
    refine ⟨b, C, dx0, _, rfl, hC, hb, rfl, ?_⟩
    refine ⟨_, rfl, mx, mdx, _, eu, (s12.trans s4) _ _ hmx, rfl, _, rfl, _, M, km, n, rfl, h2.mono (sameI (s12.trans s4)), hsub n hn, fun z3 hz3 => ?_⟩
    refine ⟨.ref b, z3, _, _, rfl, hz2, hz3, fun k h => by rw [← hS.out]; exact hS.lag n false L.out k h, fun H5 s5 => k1 rfl _ (s4.trans s5)⟩
  · intro H2 s2 h2
    refine ⟨D, ((List.range (cs.map V.str).length).filter fun _ => true).map fun _ => true, rfl, SqL.of (h2.trans (by rw [List.map_map]; rfl)), ?_⟩
    have e : (((List.range (cs.map V.str).length).filter fun _ => true).map fun _ => true).all id = true := by
      rw [List.all_eq_true]
      intro b hb
      obtain ⟨_, _, rfl⟩ := List.mem_map.mp hb
      rfl
    rw [e]
    exact q H2 (s1.trans s2)
theorem sc_head_start : FnScope ["one", "other", "orders", "others", "far", "start", "name"] ["one", "other"] (defScope s_head_start) := ⟨rfl, rfl, rfl, by decide +kernel, rfl, by decide +kernel, by decide +kernel⟩
theorem b_head_start (E : Env K mg base) : Binds K (fdAt K (ga K "head_start")) ["one", "other"] [] := (f_head_start E).bindsN fun _ _ _ _ _ _ us hl => match us, hl with | [_, _], _ => rfl
def sp_hs (K : PySem.W.Frag) : Sp := fun vs H Q _ => ∃ (v u : V) (L M : Lin), vs = [v, u] ∧ LineAt K H v L ∧ LineAt K H u M ∧ Sub L M ∧ L.Ok ∧ M.Ok ∧ Acyc L ∧ Acyc M ∧ ∀ H', Same H H' → Q (.int 0) H'
theorem ok_head_start (E : Env K mg base) : FnOk P w K mg base CX0 15 (ga K "head_start") (fdAt K (ga K "head_start")) ["one", "other"] ((sp_hs K)) := by
  refine okD (f_head_start E) sc_head_start (fun cdv A outer s H vs Q X hr h => ?_) (fun vs H Q X h => by obtain ⟨_, _, _, _, rfl, _⟩ := h; rfl)
  obtain ⟨v, u, L, M, rfl, hL, hM, hS, hO, hO2, hA, hA2, q⟩ := h
  have e3 : sizeLine = 16777216 := sizeLine_eq
  refine ⟨_, (pss_cons (ps_expr (pe_call (ok_check_pair E) (hr.mono (by decide)) rfl (g_check_pair E) (f_check_pair E).kp (b_check_pair E) .nil pass0 (pa_cons (pv 0) (pa_cons (pv 1) pa_nil))))
      (pss_cons (ps_expr (pe_callR (E := E0) (ok_check_free E) (hr.mono (by decide)) (f_check_free E).kp rfl (g_check_free E) pass0 (pa_cons (pv 0) (pa_cons (pv 1) pa_nil))))
      (pss_cons (ps_asg (pe_tup (pa_cons (pe_make (k_Orders E) (ok_Orders_init E) (hr.mono (by decide)) rfl (g_Orders E) (b_Orders_init E) .nil pass0 (pa_cons (pv 0) pa_nil)) (pa_cons (pe_make (k_Orders E) (ok_Orders_init E) (hr.mono (by decide)) rfl (g_Orders E) (b_Orders_init E) .nil pass0 (pa_cons (pv 1) pa_nil)) pa_nil))) (pg_tup rfl (pgs_cons (pg_name (i := 2) sc_head_start.nd rfl (Or.inl rfl)) (pgs_cons (pg_name (i := 3) sc_head_start.nd rfl (Or.inr rfl)) pgs_nil))))
      (pss_cons (ps_if (pt_not (pt_val (pe_call (ok_are_never_bad E) (hr.mono (by decide)) rfl (g_are_never_bad E) (f_are_never_bad E).kp (b_are_never_bad E) .nil pass0 (pa_cons (pv 2) (pa_cons (pv 3) pa_nil))))) (pss_one (ps_ret pe_non)) pss_nil)
      (pss_cons (ps_set (i := 4) sc_head_start.nd rfl (Or.inl rfl) (pe_call (ok_far_of E) (hr.mono (by decide)) rfl (g_far_of E) (f_far_of E).kp (b_far_of E) .nil pass0 (pa_cons (pe_lst (pa_cons (pe_make0 (k_Lags E) (ok_Lags_init E) (hr.mono (by decide)) rfl (g_Lags E) (bL0 E).choose_spec.2 (bL0 E).choose_spec.1 pass0) (StX.pa_star (pe_lc (own := [("name", 6)]) (g := (gName 6)) rfl sc_head_start.nd (pi_tup (pe_fldK K (pv 2))) (blkOk_by (own := [("name", 6)]) (N := (["one", "other", "orders", "others", "far", "start", "name"] : List Str)) (sc := defScope s_head_start) (by decide +kernel)) (fun _ _ _ _ _ => (pg_name (i := 6) sc_head_start.nd rfl (Or.inl rfl))) (fun _ _ _ _ _ => pts_nil) (fun _ _ _ _ _ => (pe_meth (pv 3) (c_Orders E) (m_Orders_to_outlet E) (ok_Orders_to_outlet E) (hr.mono (by decide)) (b_Orders_to_outlet E) .nil pass0 (pa_cons (pv 6) pa_nil)))) pa_nil))) pa_nil)))
      (pss_cons (ps_for PassesOwn.never rfl (pi_range1 rfl (n_range E) (pa_cons (pe_op op_add (pv 4) pe_int) pa_nil)) (pg_name (i := 5) sc_head_start.nd rfl (Or.inl rfl)) (pss_one (ps_if (pt_val (pe_call (ok_suits E) (hr.mono (by decide)) rfl (g_suits E) (f_suits E).kp (b_suits E) .nil pass0 (pa_cons (pv 2) (pa_cons (pv 3) (pa_cons (pv 5) pa_nil))))) (pss_one (ps_ret (pv 5))) pss_nil)))
      (pss_one (ps_ret pe_non)))))))), ?_⟩
  refine ⟨_, rfl, _, rfl, v, u, L, M, rfl, hL, hM, ?_⟩
  refine ⟨_, rfl, _, rfl, [], [v, u], rfl, rfl, by show 2 ≤ sizeLine; omega, fun p hp => ⟨p, [v, u], [L, M], rfl, SqT.of upd_same, .cons ⟨hL.mono (sameI (sNew hp)), hO, hA⟩ (.cons ⟨hM.mono (sameI (sNew hp)), hO2, hA2⟩ .nil), fun H3 s3 => ?_⟩⟩
  have s03 := (sNew hp).trans s3
  refine ⟨_, rfl, fun o1 d1 q1 q2 q3 => mk_orders (hL.mono (sameI s03)) hO hA q1 q2 q3 fun H4 kn s4 h1 => ?_⟩
  have s04 := s03.trans s4
  refine ⟨_, rfl, fun o2 d2 q1 q2 q3 => mk_orders (hM.mono (sameI s04)) hO2 hA2 q1 q2 q3 fun H5 km s5 h2 => ?_⟩
  have s05 := s04.trans s5
  have hOP : OrPair K H5 (.ref o1) (.ref o2) L M kn km := ⟨h1.mono (sameI s5), h2, hS, hO, hO2⟩
  refine ⟨by show 2 ≤ sizeLine; omega, fun p2 hp2 => ⟨p2, _, rfl, SqT.of upd_same, rfl, _, _, rfl, _, _, rfl, rfl, ?_⟩⟩
  have s6 : Same H5 (upd H5 p2 (.tup [.ref o1, .ref o2])) := sNew hp2
  refine ⟨_, rfl, _, rfl, _, _, L, M, kn, km, rfl, hOP.mono (sameI s6), fun H7 s7 => ⟨_, rfl, ite_f rfl ?_⟩⟩
  have s57 := s6.trans s7
  have h17 := h1.mono (sameI (s5.trans s57))
  have h27 := h2.mono (sameI s57)
  dsimp only [tNext, tSeq, tAsg, tCall, tLst, tCons]
  refine mk_lags0 E fun lv H8 s8 hlv => ?_
  have h18 := h17.mono (sameI s8)
  have h28 := h27.mono (sameI s8)
  have hsub := ord_sub h18 h28 hS
  have hk4 := ord_len h18 hO
  obtain ⟨x1, dx, t, _, _, _, _, _, ev, hx, hkn, _⟩ := id h18
  obtain ⟨x2, mdx, _, _, _, _, _, _, eu, hmx, _⟩ := id h28
  cases ev
  cases eu
  refine ⟨_, rfl, o1, _, dx, _, .ref t, rfl, hx, c_Orders E, a_Orders_known E, rfl, t, rfl, ⟨_, hkn⟩, fun D hD => ?_⟩
  refine lc_gen (walk_tup (K := K) (a := t) (xs := kn.map V.str)) hD (fun i z H => ∃ f, LagAt K H z f) (fun _ => true) (by rw [List.length_map]; omega) (fun i z H H' ⟨f, h⟩ g => ⟨f, h.mono g⟩) (fun H s => sT s hkn) ?_ ?_
  · rintro k y H9 H10 Nk Ns hk s9 ⟨rfl, hy⟩ k1 k2
    obtain ⟨n, en, rfl⟩ := map_get hy
    refine ⟨rfl, tyes_if ?_⟩
    exact ⟨_, rfl, o2, mdx, _, rfl, s9 _ _ hmx, rfl, _, rfl, _, M, km, n, rfl, h28.mono (sameI s9), hsub n (List.mem_of_getElem? en), fun z hz => k1 rfl z _ (Same.refl _) ⟨_, hz⟩⟩
  · intro H9 us s9 hus hpd
    rw [filter_true] at hpd
    have hul := Paired.length hpd
    rw [List.length_range, List.length_map] at hul
    have hul2 : (lv :: (us ++ [])).length = us.length + 1 := by rw [List.append_nil, List.length_cons]
    refine ⟨D, us, rfl, .inr (SqL.of hus), by rw [hul2]; omega, fun p3 hp3 => ?_⟩
    have s10 : Same H9 (upd H9 p3 (.lst (lv :: (us ++ [])))) := sNew hp3
    refine ⟨p3, rfl, ⟨lv :: (us ++ []), SqL.of upd_same, by rw [hul2]; omega, fun z hz => ?_⟩, fun far H11 s11 hfar => ?_⟩
    · rcases List.mem_cons.mp hz with e | hz
      · rw [e]
        exact ⟨_, hlv.mono (sameI (s9.trans s10))⟩
      · rw [List.append_nil] at hz
        obtain ⟨i, hi, e⟩ := List.mem_iff_getElem.mp hz
        obtain ⟨j, _, f, h⟩ := pget hpd (by rw [List.getElem?_eq_getElem hi, e])
        exact ⟨f, h.mono (sameI s10)⟩
    · have s811 := ((s8.trans s9).trans s10).trans s11
      refine ⟨_, rfl, _, _, rfl, rfl, (far : Int) + 1, rfl, by omega, by omega, ?_⟩
      refine for_range (lo := 0) (n := ((far : Int) + 1).toNat) (fun i σ H' => i = 0 ∧ H' = H11 ∧ σ = [some v, some u, some (.ref o1), some (.ref o2), some (.int (far : Nat)), none, none])
        ⟨rfl, rfl, rfl⟩ ?_ ?_
      · rintro i σ H12 hi ⟨rfl, rfl, rfl⟩
        have hOP12 : OrPair K H12 (.ref o1) (.ref o2) L M kn km := hOP.mono (sameI (s57.trans s811))
        exact ⟨_, rfl, _, rfl, _, rfl, _, _, L, M, kn, km, rfl, hOP12, fun H13 s13 => ⟨_, rfl, ite_t rfl ⟨_, rfl, q H13 (((s05.trans s57).trans s811).trans s13)⟩⟩⟩
      · rintro σ H12 ⟨h0, _⟩
        omega
end
end Own
set_option Elab.async false
set_option linter.all false
set_option maxRecDepth 100000
set_option maxHeartbeats 4000000
/-! the law's purls and digs -/
namespace Own
open PySem PySem.Spec PyProof.Rows L2 He OwnR
/-- all but one place stays -/
def PF (p : Addr) (H H' : Hp) : Prop := ∀ a o, a ≠ p → H a = some o → H' a = some o
theorem PF.refl {p : Addr} {H : Hp} : PF p H H := fun _ _ _ h => h
theorem PF.trans {p : Addr} {H H1 H2 : Hp} (h : PF p H H1) (g : PF p H1 H2) : PF p H H2 := fun a o n e => g a o n (h a o n e)
theorem PF.of {p : Addr} {H H' : Hp} (h : Same H H') : PF p H H' := fun a o _ e => h a o e
theorem PF.upd {p : Addr} {H : Hp} {o : HO} : PF p H (upd H p o) := fun a _ n e => by rw [upd_ne n]; exact e
/-- a purl -/
def PurlAt (H : Hp) (p : Addr) : Prop := ∃ a b : Int, H p = some (.lst [.int a, .int b])
section
variable {P : Program} {w : World} {K : PySem.W.Frag} {mg : Str → Option Value} {base : Heap}
theorem sc_law_dig : FnScope ["_law_purl_here", "_law_many", "_law_digit"] ["_law_purl_here", "_law_many"] (defScope s_law_dig) := ⟨rfl, rfl, rfl, by decide +kernel, rfl, by decide +kernel, by decide +kernel⟩
theorem b_law_dig (E : Env K mg base) : Binds K (fdAt K (ga K "_law_dig")) ["_law_purl_here", "_law_many"] [] := (f_law_dig E).bindsN fun _ _ _ _ _ _ us hl => match us, hl with | [_, _], _ => rfl
def sp_dig (K : PySem.W.Frag) : Sp := fun vs H Q _ => ∃ (p : Addr) (m : Nat), vs = [.ref p, .int (m : Nat)] ∧ PurlAt H p ∧ 0 < m ∧ m ≤ 1000000 ∧ ∀ (d : Nat) H', d < m → PF p H H' → PurlAt H' p → Q (.int (d : Nat)) H'
theorem ok_law_dig (E : Env K mg base) : FnOk P w K mg base CX0 1 (ga K "_law_dig") (fdAt K (ga K "_law_dig")) ["_law_purl_here", "_law_many"] ((sp_dig K)) := by
  refine okD (f_law_dig E) sc_law_dig (fun cdv A outer s H vs Q X hr h => ?_) (fun vs H Q X h => by obtain ⟨_, _, rfl, _⟩ := h; rfl)
  obtain ⟨p, m, rfl, ⟨a, b, hp⟩, hm, hm2, q⟩ := h
  have e3 : sizeLine = 16777216 := sizeLine_eq
  refine ⟨_, (pss_cons (ps_if (pt_cmpR op_gt (pe_ix (ixL K) (pv 0) pe_int (fun _ _ => rfl)) pe_int (nomark _)) (pss_cons (ps_asg (pe_callB call_divmod rfl (n_divmod E) boot_divmod (pa_cons (pe_ix (ixL K) (pv 0) pe_int (fun _ _ => rfl)) (pa_cons (pv 1) pa_nil))) (pg_tup rfl (pgs_cons (pg_sub (pv 0) pe_int set_list) (pgs_cons (pg_name (i := 2) sc_law_dig.nd rfl (Or.inl rfl)) pgs_nil))))
      (pss_one (ps_ret (pv 2)))) pss_nil)
      (pss_cons (ps_asg (pe_op op_mod (pe_callTy call_int1 rfl (n_int E) boot_int (pa_cons (pe_op op_add (pe_op op_mul (pe_ix (ixL K) (pv 0) pe_int (fun _ _ => rfl)) pe_int) pe_int) pa_nil)) pe_int) (pg_sub (pv 0) pe_int set_list))
      (pss_one (ps_ret (pe_op op_mod (pe_callTy call_int1 rfl (n_int E) boot_int (pa_cons (pe_op op_fdivN (pe_ix (ixL K) (pv 0) pe_int (fun _ _ => rfl)) pe_int) pa_nil)) (pv 1)))))), ?_⟩
  refine ⟨_, rfl, p, _, 1, .int b, rfl, rfl, SqL.of hp, rfl, _, _, rfl, rfl, _, rfl, ?_⟩
  by_cases c : 0 < b
  · refine ite_t (decide_eq_true c) ?_
    refine ⟨_, rfl, p, _, 1, .int b, rfl, rfl, SqL.of hp, rfl, _, rfl, b, (m : Nat), rfl, ⟨by omega, by omega⟩, fun t ht => ?_⟩
    have npt : p ≠ t := fun e => by rw [← e, hp] at ht; cases ht
    refine ⟨t, _, rfl, SqT.of upd_same, rfl, _, _, rfl, _, rfl, p, [.int a, .int b], 1, 1, rfl, rfl, by rw [upd_ne npt]; exact hp, rfl, _, _, rfl, rfl, ?_⟩
    have hd : b % (m : Int) = ((b % (m : Int)).toNat : Int) := (Int.toNat_of_nonneg (Int.emod_nonneg _ (by omega))).symm
    refine ⟨_, rfl, ?_⟩
    have := q (b % (m : Int)).toNat (upd (upd H t (.tup [.int (b / (m : Int)), .int (b % (m : Int))])) p (.lst [.int a, .int (b / (m : Int))])) (by have := Int.emod_lt_of_pos b (show (0 : Int) < m by omega); omega) ((PF.of (sNew ht)).trans PF.upd) ⟨_, _, upd_same⟩
    rw [← hd] at this
    exact this
  · refine ite_f (decide_eq_false c) ?_
    refine ⟨_, rfl, p, _, 0, .int a, rfl, rfl, SqL.of hp, rfl, ?_⟩
    refine ⟨_, _, rfl, rfl, .inr ⟨by decide, by decide⟩, _, _, rfl, rfl, .inl ⟨_, rfl, _, _, rfl, rfl, (by show (0 : Int) < 2147483629; decide), _, rfl, p, [.int a, .int b], 0, 0, rfl, rfl, hp, rfl, ?_⟩⟩
    obtain ⟨a2, ea2⟩ : ∃ a2, a2 = (a * 69621 + 17) % 2147483629 := ⟨_, rfl⟩
    refine ⟨_, rfl, p, [.int a2, .int b], 0, .int a2, rfl, rfl, SqL.of (upd_same.trans (by rw [ea2]; rfl)), rfl, _, _, rfl, rfl, ⟨by decide, by decide⟩, .inl ⟨_, rfl, _, rfl, _, _, rfl, rfl, (by omega), ?_⟩⟩
    have hd : a2.fdiv 512 % (m : Int) = ((a2.fdiv 512 % (m : Int)).toNat : Int) := (Int.toNat_of_nonneg (Int.emod_nonneg _ (by omega))).symm
    have := q (a2.fdiv 512 % (m : Int)).toNat (upd H p (.lst [.int a2, .int b])) (by have := Int.emod_lt_of_pos (a2.fdiv 512) (show (0 : Int) < m by omega); omega) PF.upd ⟨_, _, upd_same⟩
    rw [← hd, ea2] at this
    rw [ea2]
    exact this
theorem cut_ints (cs : List Int) (lo hi : Option Int) : ∃ ds : List Int, cutV (cs.map V.int) lo hi = ds.map V.int ∧ ds.length ≤ cs.length := by
  refine ⟨(cs.drop (HT.sIx (cs.map V.int).length 0 lo)).take (HT.sIx (cs.map V.int).length (cs.map V.int).length hi - HT.sIx (cs.map V.int).length 0 lo), ?_, ?_⟩
  · unfold cutV
    rw [← List.map_drop, ← List.map_take]
  · rw [List.length_take, List.length_drop]
    omega
theorem atI_ints {cs : List Int} {n : Nat} (h : n < cs.length) : atI (cs.map V.int) (n : Nat) = some (.int cs[n]) := atI_nat (by rw [List.getElem?_map, List.getElem?_eq_getElem h]; rfl)
theorem sc_law_purl : FnScope ["_law_script", "_law_spot", "_law_mixed", "_law_cell", "_law_own"] ["_law_script", "_law_spot"] (defScope s_law_purl) := ⟨rfl, rfl, rfl, by decide +kernel, rfl, by decide +kernel, by decide +kernel⟩
theorem b_law_purl (E : Env K mg base) : Binds K (fdAt K (ga K "_law_purl")) ["_law_script", "_law_spot"] [] := (f_law_purl E).bindsN fun _ _ _ _ _ _ us hl => match us, hl with | [_, _], _ => rfl
def sp_purl (K : PySem.W.Frag) : Sp := fun vs H Q _ => ∃ (l : Addr) (cs : List Int) (n : Nat), vs = [.ref l, .int (n : Nat)] ∧ SqL K H l (cs.map V.int) ∧ cs.length ≤ 1000 ∧ n ≤ 100 ∧ ∀ p H', Same H H' → H p = none → PurlAt H' p → Q (.ref p) H'
theorem ok_law_purl (E : Env K mg base) : FnOk P w K mg base CX0 1 (ga K "_law_purl") (fdAt K (ga K "_law_purl")) ["_law_script", "_law_spot"] ((sp_purl K)) := by
  refine okD (f_law_purl E) sc_law_purl (fun cdv A outer s H vs Q X hr h => ?_) (fun vs H Q X h => by obtain ⟨_, _, _, rfl, _⟩ := h; rfl)
  obtain ⟨l, cs, n, rfl, hl, hcl, hn, q⟩ := h
  have e3 : sizeLine = 16777216 := sizeLine_eq
  refine ⟨_, (pss_cons (ps_set (i := 2) sc_law_purl.nd rfl (Or.inl rfl) (pe_op op_add pe_int (pe_op op_mul pe_int (pv 1))))
      (pss_cons (ps_for PassesOwn.never rfl (pi_list (pe_op op_cat (pe_slice (slL K) (pv 0) po_none (po_some pe_int)) (pe_slice (slL K) (pv 0) (po_some (pv 1)) (po_some (pe_op op_add (pv 1) pe_int))))) (pg_name (i := 3) sc_law_purl.nd rfl (Or.inl rfl)) (pss_one (ps_set (i := 2) sc_law_purl.nd rfl (Or.inl rfl) (pe_op op_mod (pe_callTy call_int1 rfl (n_int E) boot_int (pa_cons (pe_op op_add (pe_op op_add (pe_op op_mul (pv 2) pe_int) (pv 3)) pe_int) pa_nil)) pe_int))))
      (pss_cons (ps_set (i := 4) sc_law_purl.nd rfl (Or.inl rfl) (pe_ifExp (pt_cmpR op_lt (pv 1) (pe_callB (lenK K) rfl (n_len E) boot_len (pa_cons (pv 0) pa_nil)) (nomark _)) (pe_ix (ixL K) (pv 0) (pv 1) (fun _ _ => rfl)) pe_int))
      (pss_one (ps_ret (pe_lst (pa_cons (pv 2) (pa_cons (pe_ifExp (pt_cmpR op_ge (pe_callB call_abs rfl (n_abs E) boot_abs (pa_cons (pv 4) pa_nil)) (pe_op op_pow pe_int pe_int) (nomark _)) (pe_callB call_abs rfl (n_abs E) boot_abs (pa_cons (pv 4) pa_nil)) pe_int) pa_nil)))))))), ?_⟩
  refine ⟨_, rfl, _, _, rfl, rfl, .inl ⟨by decide, by decide⟩, _, _, rfl, rfl, ?_⟩
  refine ⟨_, rfl, _, rfl, l, _, rfl, hl, fun p1 hp1 => ?_⟩
  have s1 := sNew (o := .lst (cutV (cs.map V.int) none (some 3))) hp1
  refine ⟨_, rfl, _, rfl, _, rfl, _, rfl, _, _, rfl, rfl, _, rfl, l, _, rfl, s1.seq hl, fun p2 hp2 => ?_⟩
  have s2 := sNew (o := .lst (cutV (cs.map V.int) (some (n : Nat)) (some ((n : Nat) + 1)))) hp2
  obtain ⟨c1, e1, z1⟩ := cut_ints cs none (some 3)
  obtain ⟨c2, e2, z2⟩ := cut_ints cs (some (n : Nat)) (some ((n : Nat) + 1))
  refine ⟨p1, p2, _, _, rfl, rfl, s2 _ _ upd_same, upd_same, by rw [e1, e2, List.length_map, List.length_map]; omega, fun p3 hp3 => ?_⟩
  have s3 := sNew (o := .lst (cutV (cs.map V.int) none (some 3) ++ cutV (cs.map V.int) (some (n : Nat)) (some ((n : Nat) + 1)))) hp3
  have s03 := (s1.trans s2).trans s3
  refine ⟨p3, rfl, ⟨_, SqL.of upd_same⟩, ?_⟩
  obtain ⟨H3, eH3⟩ : ∃ H3, H3 = upd (upd (upd H p1 (.lst (cutV (cs.map V.int) none (some 3)))) p2 (.lst (cutV (cs.map V.int) (some (n : Nat)) (some ((n : Nat) + 1))))) p3 (.lst (cutV (cs.map V.int) none (some 3) ++ cutV (cs.map V.int) (some (n : Nat)) (some ((n : Nat) + 1)))) := ⟨_, rfl⟩
  have hp33 : H3 p3 = some (.lst ((c1 ++ c2).map V.int)) := by rw [eH3, upd_same, e1, e2, List.map_append]
  refine for_it (walk_list (K := K) (a := p3) (xs := (c1 ++ c2).map V.int)) (fun i σ H' => H' = H3 ∧ ∃ (a : Int) (v3 v4 : Option V), σ = [some (.ref l), some (.int (n : Nat)), some (.int a), v3, v4]) ⟨eH3.symm, _, _, _, rfl⟩ (fun i σ H' _ h => by rw [h.1]; exact SqL.of hp33) ?_ ?_
  · rintro i y σ H4 H5 hi ⟨rfl, a, v3, v4, rfl⟩ ⟨rfl, hy⟩
    obtain ⟨z, ez, rfl⟩ := map_get hy
    refine ⟨_, rfl, _, _, rfl, rfl, .inr ⟨by decide, by decide⟩, _, rfl, _, _, rfl, rfl, _, _, rfl, rfl, .inl ⟨_, rfl, _, _, rfl, rfl, (by show (0 : Int) < 2147483629; decide), ?_⟩⟩
    exact ⟨rfl, _, _, _, rfl⟩
  · rintro σ H4 ⟨rfl, a, v3, v4, rfl⟩
    subst eH3
    refine ⟨_, rfl, _, rfl, l, _, rfl, .inl (s03.seq hl), _, _, rfl, rfl, _, rfl, if_both (fun z H' => Same H H' ∧ ∃ k : Int, z = .int k) (fun c Qx hQ => ?_) (fun _ Qx hQ => hQ _ _ ⟨s03, _, rfl⟩) ?_⟩
    · have c' : n < cs.length := by
        have := of_decide_eq_true c
        rw [List.length_map] at this
        omega
      exact ⟨_, rfl, _, rfl, l, _, (n : Nat), .int cs[n], rfl, rfl, s03.seq hl, atI_ints c', hQ _ _ ⟨s03, _, rfl⟩⟩
    · rintro z H5 ⟨s5, k, rfl⟩
      refine ⟨_, rfl, _, rfl, k, rfl, _, _, rfl, rfl, ⟨by decide, by decide, by decide⟩, _, _, rfl, rfl, _, rfl, if_both (fun z H' => H' = H5 ∧ ∃ j : Int, z = .int j) (fun _ Qx hQ => ⟨_, rfl, _, rfl, hQ _ _ ⟨rfl, _, rfl⟩⟩) (fun _ Qx hQ => hQ _ _ ⟨rfl, _, rfl⟩) ?_⟩
      rintro z H6 ⟨rfl, j, rfl⟩
      exact ⟨by show 2 ≤ sizeLine; omega, fun p hp => q p _ (s5.trans (sNew hp)) (same_none s5 hp) ⟨_, _, upd_same⟩⟩
end
end Own
set_option Elab.async false
set_option linter.all false
set_option maxRecDepth 100000
set_option maxHeartbeats 4000000
/-! the law's words -/
namespace Own
open PySem PySem.Spec PyProof.Rows L2 He OwnR
def menuL : List Str := ["a", "b", "cut", "weld", "z9", "link", "no", "k1", "x", "station", "any", "aa"]
def wordsL (b s m : Nat) : List Str := (List.range m).map fun k => menuL.getD ((b + s * k) % 12) ""
theorem wordsL_nd : ∀ b, b < 12 → ∀ s ∈ [1, 5, 7, 11], ∀ m, m < 5 → (wordsL b s m).Nodup := by decide +kernel
theorem PurlAt.mono {H H' : Hp} {p : Addr} (h : PurlAt H p) (g : Same H H') : PurlAt H' p := by
  obtain ⟨a, b, h⟩ := h
  exact ⟨a, b, g _ _ h⟩
theorem pf_none {H H' : Hp} {p D : Addr} (g : PF p H H') (hp : PurlAt H' p) (h : H' D = none) : H D = none := by
  cases e : H D with
  | none => rfl
  | some o =>
    by_cases c : D = p
    · obtain ⟨_, _, hp⟩ := hp
      rw [c, hp] at h
      cases h
    · have := g D o c e
      rw [h] at this
      cases this
theorem steps_at : ∀ s : Nat, s < 4 → ∃ st : Nat, st ∈ [1, 5, 7, 11] ∧ atI [V.int 1, V.int 5, V.int 7, V.int 11] (s : Nat) = some (.int (st : Nat))
  | 0, _ => ⟨1, by decide, rfl⟩
  | 1, _ => ⟨5, by decide, rfl⟩
  | 2, _ => ⟨7, by decide, rfl⟩
  | 3, _ => ⟨11, by decide, rfl⟩
  | _ + 4, h => by omega
section
variable {P : Program} {w : World} {K : PySem.W.Frag} {mg : Str → Option Value} {base : Heap}
theorem sc_law_words : FnScope ["_law_purl_here", "_law_many", "_law_menu", "_law_begin", "_law_step", "_law_k"] ["_law_purl_here", "_law_many"] (defScope s_law_words) := ⟨rfl, rfl, rfl, by decide +kernel, rfl, by decide +kernel, by decide +kernel⟩
theorem b_law_words (E : Env K mg base) : Binds K (fdAt K (ga K "_law_words")) ["_law_purl_here", "_law_many"] [] := (f_law_words E).bindsN fun _ _ _ _ _ _ us hl => match us, hl with | [_, _], _ => rfl
def sp_words (K : PySem.W.Frag) : Sp := fun vs H Q _ => ∃ (p : Addr) (m : Nat), vs = [.ref p, .int (m : Nat)] ∧ PurlAt H p ∧ m ≤ 4 ∧ ∀ D H' (ws : List Str), PF p H H' → PurlAt H' p → H D = none → H' D = some (.lst (ws.map V.str)) → ws.length = m → ws.Nodup → (∀ x ∈ ws, x ∈ menuL) → Q (.ref D) H'
theorem ok_law_words (E : Env K mg base) : FnOk P w K mg base CX0 2 (ga K "_law_words") (fdAt K (ga K "_law_words")) ["_law_purl_here", "_law_many"] ((sp_words K)) := by
  refine okD (f_law_words E) sc_law_words (fun cdv A outer s H vs Q X hr h => ?_) (fun vs H Q X h => by obtain ⟨_, _, rfl, _⟩ := h; rfl)
  obtain ⟨p, m, rfl, hp, hm, q⟩ := h
  have e3 : sizeLine = 16777216 := sizeLine_eq
  refine ⟨_, (pss_cons (ps_set (i := 2) sc_law_words.nd rfl (Or.inr rfl) (pe_lst (pa_cons pe_str (pa_cons pe_str (pa_cons pe_str (pa_cons pe_str (pa_cons pe_str (pa_cons pe_str (pa_cons pe_str (pa_cons pe_str (pa_cons pe_str (pa_cons pe_str (pa_cons pe_str (pa_cons pe_str pa_nil))))))))))))))
      (pss_cons (ps_asg (pe_tup (pa_cons (pe_call (ok_law_dig E) (hr.mono (by decide)) rfl (g_law_dig E) (f_law_dig E).kp (b_law_dig E) .nil pass0 (pa_cons (pv 0) (pa_cons pe_int pa_nil))) (pa_cons (pe_ix (ixL K) (pe_lst (pa_cons pe_int (pa_cons pe_int (pa_cons pe_int (pa_cons pe_int pa_nil))))) (pe_call (ok_law_dig E) (hr.mono (by decide)) rfl (g_law_dig E) (f_law_dig E).kp (b_law_dig E) .nil pass0 (pa_cons (pv 0) (pa_cons pe_int pa_nil))) (fun _ _ => rfl)) pa_nil))) (pg_tup rfl (pgs_cons (pg_name (i := 3) sc_law_words.nd rfl (Or.inr rfl)) (pgs_cons (pg_name (i := 4) sc_law_words.nd rfl (Or.inr rfl)) pgs_nil))))
      (pss_one (ps_ret (pe_lc (own := [("_law_k", 5)]) (g := (gName 5)) rfl sc_law_words.nd (pi_range1 rfl (n_range E) (pa_cons (pv 1) pa_nil)) (blkOk_by (own := [("_law_k", 5)]) (N := (["_law_purl_here", "_law_many", "_law_menu", "_law_begin", "_law_step", "_law_k"] : List Str)) (sc := defScope s_law_words) (by decide +kernel)) (fun _ _ _ _ _ => (pg_name (i := 5) sc_law_words.nd rfl (Or.inl rfl))) (fun _ _ _ _ _ => pts_nil) (fun _ _ _ _ _ => (pe_ix (ixL K) (pv 2) (pe_op op_mod (pe_callTy call_int1 rfl (n_int E) boot_int (pa_cons (pe_op op_add (pv 3) (pe_op op_mul (pv 4) (pv 5))) pa_nil)) pe_int) (fun _ _ => rfl)))))))), ?_⟩
  refine ⟨by show 12 ≤ sizeLine; omega, fun p1 hp1 => ?_⟩
  have s1 := sNew (o := .lst (menuL.map V.str)) hp1
  refine ⟨_, rfl, p, 12, rfl, hp.mono s1, by decide, by decide, fun b H2 hb f2 hp2 => ?_⟩
  refine ⟨by show 4 ≤ sizeLine; omega, fun p2 hp2' => ?_⟩
  have s3 := sNew (o := .lst [.int 1, .int 5, .int 7, .int 11]) hp2'
  refine ⟨_, rfl, p, 4, rfl, hp2.mono s3, by decide, by decide, fun s H4 hs f4 hp4 => ?_⟩
  obtain ⟨st, hst, est⟩ := steps_at s hs
  have np2 : p2 ≠ p := fun e => by obtain ⟨_, _, h⟩ := hp2; rw [e, h] at hp2'; cases hp2'
  refine ⟨p2, _, (s : Nat), .int (st : Nat), rfl, rfl, SqL.of (f4 _ _ np2 upd_same), est, ?_⟩
  refine ⟨by show 2 ≤ sizeLine; omega, fun t ht => ⟨t, _, rfl, SqT.of upd_same, rfl, _, _, rfl, _, _, rfl, rfl, ?_⟩⟩
  have s5 := sNew (o := .tup [.int (b : Nat), .int (st : Nat)]) ht
  have np1 : p1 ≠ p := fun e => by obtain ⟨_, _, h⟩ := hp; rw [e, h] at hp1; cases hp1
  have hmenu := s5 _ _ (f4 _ _ np1 (s3 _ _ (f2 _ _ np1 upd_same)))
  refine ⟨_, rfl, (m : Nat), rfl, by omega, by omega, fun D hD => ?_⟩
  have emn : ((m : Nat) : Int).toNat = m := rfl
  refine lc_map (walk_range (lo := 0) (n := ((m : Nat) : Int).toNat)) hD (fun k => .str (menuL.getD ((b + st * k) % 12) "")) (fun _ => true) (by omega) (fun _ _ => trivial) ?_ ?_
  · rintro k y H5 H6 Nk Ns hk s6 ⟨rfl, rfl⟩ k1 k2
    refine ⟨rfl, tyes_if ?_⟩
    have e : ((b : Nat) + (st : Nat) * (0 + (k : Nat)) : Int) % 12 = (((b + st * k) % 12 : Nat) : Int) := by
      rw [Int.zero_add]; rfl
    have hlt : (b + st * k) % 12 < menuL.length := Nat.mod_lt _ (by decide)
    refine ⟨_, rfl, _, rfl, _, rfl, _, rfl, _, _, rfl, rfl, .inr ⟨?_, ?_⟩, _, _, rfl, rfl, .inl ⟨_, rfl, _, _, rfl, rfl, (by show (0 : Int) < 12; decide), p1, _, _, _, rfl, congrArg V.int e, SqL.of (s6 _ _ hmenu), atI_nat (v := V.str (menuL.getD ((b + st * k) % 12) "")) ?_, k1 rfl _ (Same.refl _)⟩⟩
    · show -(2 ^ 64 : Int) < 0 + (k : Nat); omega
    · show 0 + ((k : Nat) : Int) < 2 ^ 64; omega
    · show (menuL.map V.str)[(b + st * k) % 12]? = _
      rw [List.getElem?_map, List.getElem?_eq_getElem hlt, List.getD_eq_getElem?_getD, List.getElem?_eq_getElem hlt]; rfl
  · intro H5 s6 h5
    rw [filter_true] at h5
    have fr : PF p H H5 := ((((PF.of s1).trans f2).trans (PF.of s3)).trans f4).trans ((PF.of s5).trans (PF.of s6))
    refine q D H5 (wordsL b st m) fr (hp4.mono (s5.trans s6)) ?_ ?_ (by rw [wordsL, List.length_map, List.length_range]) (wordsL_nd b hb st hst m (by omega)) (fun x hx => ?_)
    · have g := (((PF.of s1).trans f2).trans (PF.of s3)).trans (f4.trans (PF.of s5))
      exact pf_none g (hp4.mono s5) hD
    · rw [wordsL, List.map_map]; exact h5
    · obtain ⟨k, _, rfl⟩ := List.mem_map.mp hx
      have hlt : (b + st * k) % 12 < menuL.length := Nat.mod_lt _ (by decide)
      rw [List.getD_eq_getElem?_getD, List.getElem?_eq_getElem hlt]
      exact List.getElem_mem hlt
end
end Own
set_option Elab.async false
set_option linter.all false
set_option maxRecDepth 100000
set_option maxHeartbeats 4000000
/-! the law's posts and ties -/
namespace Own
open PySem PySem.Spec PyProof.Rows L2 He OwnR
def manyV : Option Nat → V
  | none => .non
  | some n => .int (n : Nat)
def ManyOk (m : Option Nat) : Prop := ∀ n, m = some n → 1 ≤ n ∧ n ≤ 3
theorem many_at : ∀ s : Nat, s < 7 → ∃ m : Option Nat, ManyOk m ∧ atI [V.int 1, V.int 1, V.int 1, V.int 2, V.int 2, V.int 3, V.non] (s : Nat) = some (manyV m)
  | 0, _ => ⟨some 1, fun n h => by cases h; decide, rfl⟩
  | 1, _ => ⟨some 1, fun n h => by cases h; decide, rfl⟩
  | 2, _ => ⟨some 1, fun n h => by cases h; decide, rfl⟩
  | 3, _ => ⟨some 2, fun n h => by cases h; decide, rfl⟩
  | 4, _ => ⟨some 2, fun n h => by cases h; decide, rfl⟩
  | 5, _ => ⟨some 3, fun n h => by cases h; decide, rfl⟩
  | 6, _ => ⟨none, (fun n h => by cases h), rfl⟩
  | _ + 7, h => by omega
section
variable {P : Program} {w : World} {K : PySem.W.Frag} {mg : Str → Option Value} {base : Heap}
theorem sc_law_post : FnScope ["_law_purl_here", "_law_word", "_law_many"] ["_law_purl_here", "_law_word"] (defScope s_law_post) := ⟨rfl, rfl, rfl, by decide +kernel, rfl, by decide +kernel, by decide +kernel⟩
theorem b_law_post (E : Env K mg base) : Binds K (fdAt K (ga K "_law_post")) ["_law_purl_here", "_law_word"] [] := (f_law_post E).bindsN fun _ _ _ _ _ _ us hl => match us, hl with | [_, _], _ => rfl
def sp_post (K : PySem.W.Frag) : Sp := fun vs H Q _ => ∃ (p : Addr) (n : Str), vs = [.ref p, .str n] ∧ PurlAt H p ∧ ∀ t H' (m : Option Nat) (c : Bool), PF p H H' → PurlAt H' p → H t = none → H' t = some (.tup [.str n, manyV m, .bl c]) → ManyOk m → Q (.ref t) H'
theorem ok_law_post (E : Env K mg base) : FnOk P w K mg base CX0 2 (ga K "_law_post") (fdAt K (ga K "_law_post")) ["_law_purl_here", "_law_word"] ((sp_post K)) := by
  refine okD (f_law_post E) sc_law_post (fun cdv A outer s H vs Q X hr h => ?_) (fun vs H Q X h => by obtain ⟨_, _, rfl, _⟩ := h; rfl)
  obtain ⟨p, n, rfl, hp, q⟩ := h
  have e3 : sizeLine = 16777216 := sizeLine_eq
  refine ⟨_, (pss_cons (ps_set (i := 2) sc_law_post.nd rfl (Or.inl rfl) (pe_ix (ixL K) (pe_lst (pa_cons pe_int (pa_cons pe_int (pa_cons pe_int (pa_cons pe_int (pa_cons pe_int (pa_cons pe_int (pa_cons pe_non pa_nil)))))))) (pe_call (ok_law_dig E) (hr.mono (by decide)) rfl (g_law_dig E) (f_law_dig E).kp (b_law_dig E) .nil pass0 (pa_cons (pv 0) (pa_cons pe_int pa_nil))) (fun _ _ => rfl)))
      (pss_one (ps_ret (pe_tup (pa_cons (pv 1) (pa_cons (pv 2) (pa_cons (pe_cmpR op_gt (pe_call (ok_law_dig E) (hr.mono (by decide)) rfl (g_law_dig E) (f_law_dig E).kp (b_law_dig E) .nil pass0 (pa_cons (pv 0) (pa_cons pe_int pa_nil))) pe_int (nomark _)) pa_nil))))))), ?_⟩
  refine ⟨by show 7 ≤ sizeLine; omega, fun p1 hp1 => ?_⟩
  have s1 := sNew (o := .lst [V.int 1, V.int 1, V.int 1, V.int 2, V.int 2, V.int 3, V.non]) hp1
  have np1 : p1 ≠ p := fun e => by obtain ⟨_, _, h⟩ := hp; rw [e, h] at hp1; cases hp1
  refine ⟨_, rfl, p, 7, rfl, hp.mono s1, by decide, by decide, fun d H2 hd f2 hp2 => ?_⟩
  obtain ⟨m, hm, em⟩ := many_at d hd
  refine ⟨p1, _, (d : Nat), manyV m, rfl, rfl, SqL.of (f2 _ _ np1 upd_same), em, ?_⟩
  refine ⟨_, rfl, _, rfl, _, rfl, p, 6, rfl, hp2, by decide, by decide, fun d2 H3 hd2 f3 hp3 => ?_⟩
  refine ⟨_, _, rfl, rfl, by show 3 ≤ sizeLine; omega, fun t ht => ?_⟩
  exact q t _ m _ ((((PF.of s1).trans f2).trans f3).trans (PF.of (sNew ht))) (hp3.mono (sNew ht)) (pf_none (((PF.of s1).trans f2).trans f3) hp3 ht) upd_same hm
theorem sc_law_tie : FnScope ["_law_purl_here", "_law_words_here", "_law_at", "_law_to", "_law_held"] ["_law_purl_here", "_law_words_here"] (defScope s_law_tie) := ⟨rfl, rfl, rfl, by decide +kernel, rfl, by decide +kernel, by decide +kernel⟩
theorem b_law_tie (E : Env K mg base) : Binds K (fdAt K (ga K "_law_tie")) ["_law_purl_here", "_law_words_here"] [] := (f_law_tie E).bindsN fun _ _ _ _ _ _ us hl => match us, hl with | [_, _], _ => rfl
def sp_tie (K : PySem.W.Frag) : Sp := fun vs H Q _ => ∃ (p l : Addr) (ws : List Str), vs = [.ref p, .ref l] ∧ PurlAt H p ∧ l ≠ p ∧ H l = some (.lst (ws.map V.str)) ∧ 0 < ws.length ∧ ws.length ≤ 4 ∧
  ∀ t H' (i j h : Nat) (a b : Str) (e : Bool), PF p H H' → PurlAt H' p → H t = none → ws[i]? = some a → ws[j]? = some b → H' t = some (.tup [.str a, .str b, .int (h : Nat), .bl e]) → h ≤ 3 → (h = 0 → i < j) → Q (.ref t) H'
theorem ok_law_tie (E : Env K mg base) : FnOk P w K mg base CX0 2 (ga K "_law_tie") (fdAt K (ga K "_law_tie")) ["_law_purl_here", "_law_words_here"] ((sp_tie K)) := by
  refine okD (f_law_tie E) sc_law_tie (fun cdv A outer s H vs Q X hr h => ?_) (fun vs H Q X h => by obtain ⟨_, _, _, rfl, _⟩ := h; rfl)
  obtain ⟨p, l, ws, rfl, hp, nlp, hl, h0, h4, q⟩ := h
  have e3 : sizeLine = 16777216 := sizeLine_eq
  have el : ((ws.map V.str).length : Nat) = ws.length := List.length_map _
  refine ⟨_, (pss_cons (ps_par (i := 2) (j := 3) rfl sc_law_tie.nd rfl rfl (by decide) rfl rfl (pa_cons (pe_call (ok_law_dig E) (hr.mono (by decide)) rfl (g_law_dig E) (f_law_dig E).kp (b_law_dig E) .nil pass0 (pa_cons (pv 0) (pa_cons (pe_callB (lenK K) rfl (n_len E) boot_len (pa_cons (pv 1) pa_nil)) pa_nil))) (pa_cons (pe_call (ok_law_dig E) (hr.mono (by decide)) rfl (g_law_dig E) (f_law_dig E).kp (b_law_dig E) .nil pass0 (pa_cons (pv 0) (pa_cons (pe_callB (lenK K) rfl (n_len E) boot_len (pa_cons (pv 1) pa_nil)) pa_nil))) pa_nil)) (by rfl))
      (pss_cons (ps_set (i := 4) sc_law_tie.nd rfl (Or.inl rfl) (pe_ifExp (pt_cmpR op_lt (pv 2) (pv 3) (nomark _)) (pe_call (ok_law_dig E) (hr.mono (by decide)) rfl (g_law_dig E) (f_law_dig E).kp (b_law_dig E) .nil pass0 (pa_cons (pv 0) (pa_cons pe_int pa_nil))) (pe_op op_add pe_int (pe_call (ok_law_dig E) (hr.mono (by decide)) rfl (g_law_dig E) (f_law_dig E).kp (b_law_dig E) .nil pass0 (pa_cons (pv 0) (pa_cons pe_int pa_nil))))))
      (pss_one (ps_ret (pe_tup (pa_cons (pe_ix (ixL K) (pv 1) (pv 2) (fun _ _ => rfl)) (pa_cons (pe_ix (ixL K) (pv 1) (pv 3) (fun _ _ => rfl)) (pa_cons (pv 4) (pa_cons (pe_cmpR op_eq (pe_call (ok_law_dig E) (hr.mono (by decide)) rfl (g_law_dig E) (f_law_dig E).kp (b_law_dig E) .nil pass0 (pa_cons (pv 0) (pa_cons pe_int pa_nil))) pe_int (nomark _)) pa_nil))))))))), ?_⟩
  refine ⟨_, rfl, _, rfl, l, _, rfl, .inl (SqL.of hl), p, (ws.map V.str).length, rfl, hp, by omega, by omega, fun i H2 hi f2 hp2 => ?_⟩
  refine ⟨_, rfl, _, rfl, l, _, rfl, .inl (SqL.of (f2 _ _ nlp hl)), p, (ws.map V.str).length, rfl, hp2, by omega, by omega, fun j H3 hj f3 hp3 => ?_⟩
  refine ⟨_, _, rfl, ?_⟩
  refine ⟨_, rfl, _, rfl, _, _, rfl, rfl, _, rfl, if_both (fun z H' => ∃ h : Nat, z = .int (h : Nat) ∧ PF p H3 H' ∧ PurlAt H' p ∧ h ≤ 3 ∧ (h = 0 → i < j)) (fun c Qx hQ => ?_) (fun c Qx hQ => ?_) ?_⟩
  · have c' := of_decide_eq_true c
    exact ⟨_, rfl, p, 4, rfl, hp3, by decide, by decide, fun d H4 hd f4 hp4 => hQ _ _ ⟨d, rfl, f4, hp4, by omega, fun _ => by omega⟩⟩
  · refine ⟨_, rfl, p, 3, rfl, hp3, by decide, by decide, fun d H4 hd f4 hp4 => ⟨_, _, rfl, rfl, hQ _ _ ⟨1 + d, congrArg V.int (by omega), f4, hp4, by omega, fun _ => by omega⟩⟩⟩
  · rintro z H4 ⟨h, rfl, f4, hp4, hh, hh0⟩
    have f04 := (f2.trans f3).trans f4
    have hl4 := f04 _ _ nlp hl
    have hi' : i < ws.length := by omega
    have hj' : j < ws.length := by omega
    refine ⟨_, rfl, _, rfl, l, _, (i : Nat), .str ws[i], rfl, rfl, SqL.of hl4, atI_nat (by rw [List.getElem?_map, List.getElem?_eq_getElem hi']; rfl), ?_⟩
    refine ⟨_, rfl, _, rfl, l, _, (j : Nat), .str ws[j], rfl, rfl, SqL.of hl4, atI_nat (by rw [List.getElem?_map, List.getElem?_eq_getElem hj']; rfl), ?_⟩
    refine ⟨_, rfl, _, rfl, p, 4, rfl, hp4, by decide, by decide, fun d H5 hd f5 hp5 => ?_⟩
    refine ⟨rfl, by show 4 ≤ sizeLine; omega, fun t ht => ?_⟩
    have f05 := f04.trans f5
    exact q t _ i j h ws[i] ws[j] _ (f05.trans (PF.of (sNew ht))) (hp5.mono (sNew ht)) (pf_none f05 hp5 ht) (List.getElem?_eq_getElem hi') (List.getElem?_eq_getElem hj') upd_same hh hh0
end
end Own
set_option Elab.async false
set_option linter.all false
set_option maxRecDepth 100000
set_option maxHeartbeats 4000000
/-! the law's plans -/
namespace Own
open PySem PySem.Spec PyProof.Rows L2 He OwnR
/-- a post: its name, how many hands, whether timed -/
structure Post where
  name : Str
  many : Option Nat
  clock : Bool
/-- a tie -/
structure Tie where
  at_ : Str
  to : Str
  held : Nat
  soon : Bool
def PostAt (H : Hp) (v : V) (x : Post) : Prop := ∃ t, v = .ref t ∧ H t = some (.tup [.str x.name, manyV x.many, .bl x.clock])
def TieAt (H : Hp) (v : V) (x : Tie) : Prop := ∃ t, v = .ref t ∧ H t = some (.tup [.str x.at_, .str x.to, .int (x.held : Nat), .bl x.soon])
theorem PostAt.pf {H H' : Hp} {v : V} {x : Post} {p : Addr} (h : PostAt H v x) (g : PF p H H') (hp : PurlAt H p) : PostAt H' v x := by
  obtain ⟨t, rfl, h⟩ := h
  exact ⟨t, rfl, g _ _ (fun e => by obtain ⟨_, _, q⟩ := hp; rw [e, q] at h; cases h) h⟩
theorem TieAt.pf {H H' : Hp} {v : V} {x : Tie} {p : Addr} (h : TieAt H v x) (g : PF p H H') (hp : PurlAt H p) : TieAt H' v x := by
  obtain ⟨t, rfl, h⟩ := h
  exact ⟨t, rfl, g _ _ (fun e => by obtain ⟨_, _, q⟩ := hp; rw [e, q] at h; cases h) h⟩
theorem PostAt.mono {H H' : Hp} {v : V} {x : Post} (h : PostAt H v x) (g : Same H H') : PostAt H' v x := by
  obtain ⟨t, rfl, h⟩ := h
  exact ⟨t, rfl, g _ _ h⟩
theorem TieAt.mono {H H' : Hp} {v : V} {x : Tie} (h : TieAt H v x) (g : Same H H') : TieAt H' v x := by
  obtain ⟨t, rfl, h⟩ := h
  exact ⟨t, rfl, g _ _ h⟩
def TieOk (ws : List Str) (x : Tie) : Prop := ∃ i j : Nat, ws[i]? = some x.at_ ∧ ws[j]? = some x.to ∧ x.held ≤ 3 ∧ (x.held = 0 → i < j)
/-- a value that is a good tie -/
def TieV (H : Hp) (ws : List Str) (v : V) : Prop := ∃ x, TieAt H v x ∧ TieOk ws x
section
variable {P : Program} {w : World} {K : PySem.W.Frag} {mg : Str → Option Value} {base : Heap}
theorem sc_law_chained : FnScope ["_law_words_here", "_law_k"] ["_law_words_here"] (defScope s_law_chained) := ⟨rfl, rfl, rfl, by decide +kernel, rfl, by decide +kernel, by decide +kernel⟩
theorem b_law_chained (E : Env K mg base) : Binds K (fdAt K (ga K "_law_chained")) ["_law_words_here"] [] := (f_law_chained E).bindsN fun _ _ _ _ _ _ us hl => match us, hl with | [_], _ => rfl
def sp_chn (K : PySem.W.Frag) : Sp := fun vs H Q _ => ∃ (l : Addr) (ws : List Str), vs = [.ref l] ∧ H l = some (.lst (ws.map V.str)) ∧ 0 < ws.length ∧ ws.length ≤ 4 ∧ ∀ D H' us, Same H H' → H D = none → H' D = some (.lst us) → us.length ≤ 3 → (∀ v ∈ us, TieV H' ws v) → Q (.ref D) H'
theorem ok_law_chained (E : Env K mg base) : FnOk P w K mg base CX0 1 (ga K "_law_chained") (fdAt K (ga K "_law_chained")) ["_law_words_here"] ((sp_chn K)) := by
  refine okD (f_law_chained E) sc_law_chained (fun cdv A outer s H vs Q X hr h => ?_) (fun vs H Q X h => by obtain ⟨_, _, rfl, _⟩ := h; rfl)
  obtain ⟨l, ws, rfl, hl, h0, h4, q⟩ := h
  have e3 : sizeLine = 16777216 := sizeLine_eq
  refine ⟨_, (pss_one (ps_ret (pe_lc (own := [("_law_k", 1)]) (g := (gName 1)) rfl sc_law_chained.nd (pi_range1 rfl (n_range E) (pa_cons (pe_op op_sub (pe_callB (lenK K) rfl (n_len E) boot_len (pa_cons (pv 0) pa_nil)) pe_int) pa_nil)) (blkOk_by (own := [("_law_k", 1)]) (N := (["_law_words_here", "_law_k"] : List Str)) (sc := defScope s_law_chained) (by decide +kernel)) (fun _ _ _ _ _ => (pg_name (i := 1) sc_law_chained.nd rfl (Or.inl rfl))) (fun _ _ _ _ _ => pts_nil) (fun _ _ _ _ _ => (pe_tup (pa_cons (pe_ix (ixL K) (pv 0) (pv 1) (fun _ _ => rfl)) (pa_cons (pe_ix (ixL K) (pv 0) (pe_op op_add (pv 1) pe_int) (fun _ _ => rfl)) (pa_cons pe_int (pa_cons pe_bl pa_nil))))))))), ?_⟩
  refine ⟨_, rfl, l, _, rfl, .inl (SqL.of hl), _, _, rfl, rfl, _, rfl, ?_, ?_, fun D hD => ?_⟩
  · show -(2 ^ 62 : Int) ≤ ((ws.map V.str).length : Nat) - 1; omega
  · show (((ws.map V.str).length : Nat) : Int) - 1 < 2 ^ 62; rw [List.length_map]; omega
  · refine lc_gen (walk_range (lo := 0) (n := ((((ws.map V.str).length : Nat) : Int) - 1).toNat)) hD (fun i v H => TieV H ws v) (fun _ => true) (by rw [List.length_map]; omega) (fun i v H H' ⟨x, ⟨t, e, h⟩, ok⟩ g => ⟨x, ⟨t, e, g _ _ h rfl⟩, ok⟩) (fun _ _ => trivial) ?_ ?_
    · rintro k y H2 H3 Nk Ns hk s2 ⟨rfl, rfl⟩ k1 k2
      rw [List.length_map] at hk
      have hk1 : k + 1 < ws.length := by omega
      refine ⟨rfl, tyes_if ?_⟩
      refine ⟨_, rfl, _, rfl, l, _, _, .str ws[k], rfl, congrArg V.int (Int.zero_add (k : Nat)), SqL.of (s2 _ _ hl), atI_nat (by rw [List.getElem?_map, List.getElem?_eq_getElem (by omega)]; rfl), ?_⟩
      refine ⟨_, rfl, _, rfl, _, _, rfl, rfl, l, _, _, .str ws[k + 1], rfl, congrArg V.int (show (0 + (k : Nat) + 1 : Int) = ((k + 1 : Nat) : Int) by omega), SqL.of (s2 _ _ hl), atI_nat (by rw [List.getElem?_map, List.getElem?_eq_getElem hk1]; rfl), ?_⟩
      refine ⟨by show 4 ≤ sizeLine; omega, fun t ht => ?_⟩
      exact k1 rfl _ _ (sNew ht) ⟨⟨ws[k], ws[k + 1], 0, false⟩, ⟨t, rfl, upd_same⟩, k, k + 1, List.getElem?_eq_getElem (by omega), List.getElem?_eq_getElem hk1, Nat.zero_le 3, fun _ => by omega⟩
    · intro H2 us s2 hus hpd
      rw [filter_true] at hpd
      have hul := Paired.length hpd
      rw [List.length_range, List.length_map] at hul
      refine q D H2 us s2 hD hus (by omega) fun v hv => ?_
      obtain ⟨i, hi, e⟩ := List.mem_iff_getElem.mp hv
      obtain ⟨j, _, h⟩ := pget hpd (by rw [List.getElem?_eq_getElem hi, e])
      exact h
end
end Own
set_option Elab.async false
set_option linter.all false
set_option maxRecDepth 100000
set_option maxHeartbeats 4000000
/-! the law's plans: their maker -/
namespace Own
open PySem PySem.Spec PyProof.Rows L2 He OwnR
structure Plan where
  posts : List Post
  ties : List Tie
  goal : Str
  words : List Str
def PlanAt (H : Hp) (a : Addr) (q : Plan) : Prop := ∃ lp lt lw us vs, H a = some (.lst [.ref lp, .ref lt, .str q.goal, .ref lw]) ∧ H lp = some (.lst us) ∧ H lt = some (.lst vs) ∧ H lw = some (.lst (q.words.map V.str)) ∧ Paired (fun x v => PostAt H v x) q.posts us ∧ Paired (fun x v => TieAt H v x) q.ties vs
structure PlanOk (q : Plan) : Prop where
  nd : q.words.Nodup
  w0 : 0 < q.words.length
  w4 : q.words.length ≤ 4
  menu : ∀ x ∈ q.words, x ∈ menuL
  perm : (q.posts.map Post.name).Perm q.words
  many : ∀ x ∈ q.posts, ManyOk x.many
  ties : ∀ x ∈ q.ties, TieOk q.words x
  t6 : q.ties.length ≤ 6
  goal : q.goal ∈ q.words
theorem paired_imp {α β : Type} {F G : α → β → Prop} : ∀ {l : List α} {m : List β}, Paired F l m → (∀ a b, F a b → G a b) → Paired G l m
  | _, _, .nil, _ => .nil
  | _, _, .cons r t, h => .cons (h _ _ r) (paired_imp t h)
theorem PlanAt.mono {H H' : Hp} {a : Addr} {q : Plan} (h : PlanAt H a q) (g : Same H H') : PlanAt H' a q := by
  obtain ⟨lp, lt, lw, us, vs, h1, h2, h3, h4, h5, h6⟩ := h
  exact ⟨lp, lt, lw, us, vs, g _ _ h1, g _ _ h2, g _ _ h3, g _ _ h4, paired_imp h5 fun x v h => h.mono g, paired_imp h6 fun x v h => h.mono g⟩
theorem ne_purl {H : Hp} {p a : Addr} {us : List V} (hp : PurlAt H p) (h : H a = some (.lst us)) (hu : ∀ v ∈ us, ∀ i, v ≠ .int i) : a ≠ p := by
  rintro rfl
  obtain ⟨x, y, hp⟩ := hp
  rw [hp] at h
  cases h
  exact hu (.int x) List.mem_cons_self x rfl
theorem PlanAt.pf {H H' : Hp} {a p : Addr} {q : Plan} (h : PlanAt H a q) (g : PF p H H') (hp : PurlAt H p) : PlanAt H' a q := by
  obtain ⟨lp, lt, lw, us, vs, h1, h2, h3, h4, h5, h6⟩ := h
  refine ⟨lp, lt, lw, us, vs, g _ _ (ne_purl hp h1 ?_) h1, g _ _ (ne_purl hp h2 ?_) h2, g _ _ (ne_purl hp h3 ?_) h3, g _ _ (ne_purl hp h4 ?_) h4, paired_imp h5 fun x v h => h.pf g hp, paired_imp h6 fun x v h => h.pf g hp⟩
  · intro v hv i e
    subst e
    simp at hv
  · intro v hv i e
    subst e
    obtain ⟨j, hj, e⟩ := List.mem_iff_getElem.mp hv
    obtain ⟨x, _, t, e2, _⟩ := pget h5 (by rw [List.getElem?_eq_getElem hj, e])
    cases e2
  · intro v hv i e
    subst e
    obtain ⟨j, hj, e⟩ := List.mem_iff_getElem.mp hv
    obtain ⟨x, _, t, e2, _⟩ := pget h6 (by rw [List.getElem?_eq_getElem hj, e])
    cases e2
  · intro v hv i e
    subst e
    obtain ⟨x, _, e2⟩ := List.mem_map.mp hv
    cases e2
end Own
set_option Elab.async false
set_option linter.all false
set_option maxRecDepth 100000
set_option maxHeartbeats 4000000
/-! plans and their lines; one plan below another -/
namespace Own
open PySem PySem.Spec PyProof.Rows L2 He OwnR
def Post.sta (x : Post) : Sta := ⟨x.name, x.many, x.clock⟩
def Tie.lnk (x : Tie) : Lnk := ⟨x.at_, x.to, x.held, x.soon⟩
def lineOf (q : Plan) : Lin := ⟨q.posts.map Post.sta, q.ties.map Tie.lnk, q.goal⟩
theorem lineOf_names (q : Plan) : (lineOf q).names = q.posts.map Post.name := by
  show (q.posts.map Post.sta).map Sta.name = _
  rw [List.map_map]; rfl
theorem menu_ok : ∀ z ∈ menuL, okName z = true := by decide +kernel
theorem getElem?_mem' {α : Type} {l : List α} {i : Nat} {a : α} (h : l[i]? = some a) : a ∈ l := List.mem_of_getElem? h
theorem PlanOk.names {q : Plan} (h : PlanOk q) {z : Str} : z ∈ (lineOf q).names ↔ z ∈ q.words := by
  rw [lineOf_names]; exact h.perm.mem_iff
theorem PlanOk.ok {q : Plan} (h : PlanOk q) : (lineOf q).Ok := by
  have hl : q.posts.length = q.words.length := by have := h.perm.length_eq; rwa [List.length_map] at this
  have hw0 := h.w0
  have hw4 := h.w4
  refine ⟨?_, ?_, ?_, ?_, ?_, ?_, ?_, ?_, ?_, ?_⟩
  · rw [lineOf_names]; exact h.perm.nodup_iff.mpr h.nd
  · intro e
    have : (q.posts.map Post.sta).length = 0 := by rw [show q.posts.map Post.sta = [] from e]; rfl
    rw [List.length_map] at this
    omega
  · show (q.posts.map Post.sta).length ≤ 4
    rw [List.length_map]; omega
  · intro s hs
    obtain ⟨x, hx, rfl⟩ := List.mem_map.mp hs
    exact menu_ok _ (h.menu _ (h.perm.mem_iff.mp (List.mem_map.mpr ⟨x, hx, rfl⟩)))
  · intro s hs n hn
    obtain ⟨x, hx, rfl⟩ := List.mem_map.mp hs
    exact h.many x hx n hn
  · show (q.ties.map Tie.lnk).length ≤ 6
    rw [List.length_map]; exact h.t6
  · intro l hl
    obtain ⟨x, hx, rfl⟩ := List.mem_map.mp hl
    obtain ⟨i, j, h1, h2, _⟩ := h.ties x hx
    exact h.names.mpr (getElem?_mem' h1)
  · intro l hl
    obtain ⟨x, hx, rfl⟩ := List.mem_map.mp hl
    obtain ⟨i, j, h1, h2, _⟩ := h.ties x hx
    exact h.names.mpr (getElem?_mem' h2)
  · intro l hl
    obtain ⟨x, hx, rfl⟩ := List.mem_map.mp hl
    obtain ⟨i, j, h1, h2, h3, _⟩ := h.ties x hx
    exact h3
  · exact h.names.mpr h.goal
/-- where a word stands -/
def rkW (ws : List Str) (z : Str) : Nat := ws.idxOf z
theorem rkW_at {ws : List Str} (nd : ws.Nodup) {i : Nat} {z : Str} (h : ws[i]? = some z) : rkW ws z = i := by
  obtain ⟨hi, e⟩ := List.getElem?_eq_some_iff.mp h
  have hlt : ws.idxOf z < ws.length := List.idxOf_lt_length_of_mem (List.mem_of_getElem? h)
  have e2 : ws[ws.idxOf z] = z := List.getElem_idxOf hlt
  exact (List.getElem?_inj (i := ws.idxOf z) (j := i) hlt nd).mp (by rw [List.getElem?_eq_getElem hlt, e2, h])
theorem TieOk.up {q : Plan} (h : PlanOk q) {x : Tie} (hx : x ∈ q.ties) (h0 : x.held = 0) : rkW q.words x.at_ < rkW q.words x.to := by
  obtain ⟨i, j, h1, h2, _, h3⟩ := h.ties x hx
  rw [rkW_at h.nd h1, rkW_at h.nd h2]
  exact h3 h0
theorem PlanOk.acyc {q : Plan} (h : PlanOk q) : Acyc (lineOf q) := by
  refine ⟨rkW q.words, fun l hl e => ?_⟩
  obtain ⟨x, hx, rfl⟩ := List.mem_map.mp hl
  exact TieOk.up h hx e
/-- one post below another -/
structure PostB (x y : Post) : Prop where
  name : x.name = y.name
  many : x.many = none ∨ x.many = y.many
  clock : x.clock = true → y.clock = true
structure TieB (t u : Tie) : Prop where
  at_ : t.at_ = u.at_
  to : t.to = u.to
  held : t.held = u.held
  soon : u.soon = true → t.soon = true
theorem PostB.refl (x : Post) : PostB x x := ⟨rfl, .inr rfl, id⟩
theorem TieB.refl (x : Tie) : TieB x x := ⟨rfl, rfl, rfl, id⟩
theorem PostB.trans {x y z : Post} (a : PostB x y) (b : PostB y z) : PostB x z := ⟨a.name.trans b.name, by
  rcases a.many with h | h
  · exact .inl h
  · rcases b.many with g | g
    · exact .inl (h.trans g)
    · exact .inr (h.trans g), fun h => b.clock (a.clock h)⟩
theorem TieB.trans {x y z : Tie} (a : TieB x y) (b : TieB y z) : TieB x z := ⟨a.at_.trans b.at_, a.to.trans b.to, a.held.trans b.held, fun h => a.soon (b.soon h)⟩
structure Below (q m : Plan) : Prop where
  goal : q.goal = m.goal
  words : q.words = m.words
  posts : ∀ x ∈ q.posts, ∃ y ∈ m.posts, PostB x y
  ties : ∀ t ∈ q.ties, ∃ u ∈ m.ties, TieB t u
theorem Below.refl (q : Plan) : Below q q := ⟨rfl, rfl, fun x h => ⟨x, h, .refl x⟩, fun x h => ⟨x, h, .refl x⟩⟩
theorem Below.trans {a b c : Plan} (h : Below a b) (g : Below b c) : Below a c := ⟨h.goal.trans g.goal, h.words.trans g.words, fun x hx => by
  obtain ⟨y, hy, e⟩ := h.posts x hx
  obtain ⟨z, hz, e2⟩ := g.posts y hy
  exact ⟨z, hz, e.trans e2⟩, fun x hx => by
  obtain ⟨y, hy, e⟩ := h.ties x hx
  obtain ⟨z, hz, e2⟩ := g.ties y hy
  exact ⟨z, hz, e.trans e2⟩⟩
theorem Below.ent {q m : Plan} (h : Below q m) {n z : Str} {lag : Nat} {p : Bool} (e : Ent (lineOf q) n lag z p) : ∃ p', Ent (lineOf m) n lag z p' ∧ (p = false → p' = false) := by
  cases e with
  | @hands s hh hs hn =>
    obtain ⟨x, hx, rfl⟩ := List.mem_map.mp hs
    obtain ⟨y, hy, b⟩ := h.posts x hx
    have hm : y.many = some lag := by
      rcases b.many with e | e
      · rw [show x.many = some lag from hn] at e; cases e
      · rw [← e]; exact hn
    have : Ent (lineOf m) y.sta.name lag y.sta.name false := .hands (List.mem_map.mpr ⟨y, hy, rfl⟩) hm
    have en : y.sta.name = x.sta.name := b.name.symm
    rw [en] at this
    exact ⟨false, this, fun _ => rfl⟩
  | @tie l hl =>
    obtain ⟨x, hx, rfl⟩ := List.mem_map.mp hl
    obtain ⟨y, hy, b⟩ := h.ties x hx
    have : Ent (lineOf m) y.lnk.tgt y.lnk.stock y.lnk.src y.lnk.early := .tie (List.mem_map.mpr ⟨y, hy, rfl⟩)
    have e1 : y.lnk.tgt = x.lnk.tgt := b.to.symm
    have e2 : y.lnk.stock = x.lnk.stock := b.held.symm
    have e3 : y.lnk.src = x.lnk.src := b.at_.symm
    rw [e1, e2, e3] at this
    refine ⟨_, this, fun h => ?_⟩
    cases c : y.soon with
    | false => exact c
    | true => have := b.soon c; rw [show x.soon = false from h] at this; cases this
theorem Below.bg {q m : Plan} (h : Below q m) {z n : Str} {k : Nat} (e : Bg (lineOf q) z k n) : Bg (lineOf m) z k n := by
  induction e with
  | first e =>
    obtain ⟨p, e1, e2⟩ := h.ent e
    rw [e2 rfl] at e1
    exact .first e1
  | next _ e ih =>
    obtain ⟨p, e1, _⟩ := h.ent e
    exact .next ih e1
theorem Below.sub {q m : Plan} (h : Below q m) (hq : PlanOk q) (hm : PlanOk m) : Sub (lineOf q) (lineOf m) := by
  refine ⟨fun n hn => ?_, fun z n k e => h.bg e, h.goal, fun n hn => ?_⟩
  · obtain ⟨s, hs, rfl⟩ := List.mem_map.mp hn
    obtain ⟨h1, h2⟩ := List.mem_filter.mp hs
    obtain ⟨x, hx, rfl⟩ := List.mem_map.mp h1
    obtain ⟨y, hy, b⟩ := h.posts x hx
    exact List.mem_map.mpr ⟨y.sta, List.mem_filter.mpr ⟨List.mem_map.mpr ⟨y, hy, rfl⟩, b.clock h2⟩, b.name.symm⟩
  · rw [hm.names, ← h.words]; exact hq.names.mp hn
/-! ### loosened -/
theorem set_names {l : List Post} {i : Nat} {x y : Post} (h : l[i]? = some x) (e : y.name = x.name) : (l.take i ++ [y] ++ l.drop (i + 1)).map Post.name = l.map Post.name := by
  have hi := (List.getElem?_eq_some_iff.mp h).1
  have e2 : l = l.take i ++ [x] ++ l.drop (i + 1) := by
    have := List.take_append_drop i l
    rw [List.append_assoc]
    have e3 : l.drop i = [x] ++ l.drop (i + 1) := by
      rw [List.drop_eq_getElem_cons hi, (List.getElem?_eq_some_iff.mp h).2]; rfl
    rw [← e3, this]
  conv => rhs; rw [e2]
  rw [List.map_append, List.map_append, List.map_append, List.map_append, List.map_cons, List.map_cons, e]
theorem mem_set {α : Type} {l : List α} {i : Nat} {y z : α} (h : z ∈ l.take i ++ [y] ++ l.drop (i + 1)) : z ∈ l ∨ z = y := by
  rcases List.mem_append.mp h with h | h
  · rcases List.mem_append.mp h with h | h
    · exact .inl (List.mem_of_mem_take h)
    · exact .inr (List.mem_singleton.mp h)
  · exact .inl (List.mem_of_mem_drop h)
theorem loosen_post {q : Plan} (hq : PlanOk q) {i : Nat} {x y : Post} (h : q.posts[i]? = some x) (b : PostB y x) : PlanOk { q with posts := q.posts.take i ++ [y] ++ q.posts.drop (i + 1) } ∧ Below { q with posts := q.posts.take i ++ [y] ++ q.posts.drop (i + 1) } q := by
  have hx := List.mem_of_getElem? h
  refine ⟨⟨hq.nd, hq.w0, hq.w4, hq.menu, ?_, ?_, hq.ties, hq.t6, hq.goal⟩, rfl, rfl, ?_, fun t ht => ⟨t, ht, .refl t⟩⟩
  · show (List.map Post.name (q.posts.take i ++ [y] ++ q.posts.drop (i + 1))).Perm q.words
    rw [set_names h b.name]; exact hq.perm
  · intro z hz
    rcases mem_set hz with hz | rfl
    · exact hq.many z hz
    · intro n hn
      rcases b.many with e | e
      · rw [hn] at e; cases e
      · exact hq.many x hx n (e ▸ hn)
  · intro z hz
    rcases mem_set hz with hz | rfl
    · exact ⟨z, hz, .refl z⟩
    · exact ⟨x, hx, b⟩
theorem loosen_tie {q : Plan} (hq : PlanOk q) {i : Nat} {fr : List Tie} {x : Tie} (h : q.ties[i]? = some x) (h1 : fr.length ≤ 1) (hb : ∀ y ∈ fr, TieB y x) : PlanOk { q with ties := q.ties.take i ++ fr ++ q.ties.drop (i + 1) } ∧ Below { q with ties := q.ties.take i ++ fr ++ q.ties.drop (i + 1) } q := by
  have hx := List.mem_of_getElem? h
  have hi := (List.getElem?_eq_some_iff.mp h).1
  have hm : ∀ z ∈ q.ties.take i ++ fr ++ q.ties.drop (i + 1), z ∈ q.ties ∨ z ∈ fr := fun z hz => by
    rcases List.mem_append.mp hz with hz | hz
    · rcases List.mem_append.mp hz with hz | hz
      · exact .inl (List.mem_of_mem_take hz)
      · exact .inr hz
    · exact .inl (List.mem_of_mem_drop hz)
  refine ⟨⟨hq.nd, hq.w0, hq.w4, hq.menu, hq.perm, hq.many, ?_, ?_, hq.goal⟩, rfl, rfl, fun t ht => ⟨t, ht, .refl t⟩, ?_⟩
  · intro z hz
    rcases hm z hz with hz | hz
    · exact hq.ties z hz
    · obtain ⟨a, b, h1, h2, h3, h4⟩ := hq.ties x hx
      have e := hb z hz
      exact ⟨a, b, h1.trans (by rw [e.at_]), h2.trans (by rw [e.to]), by rw [e.held]; exact h3, fun h0 => h4 (by rw [← e.held]; exact h0)⟩
  · show (q.ties.take i ++ fr ++ q.ties.drop (i + 1)).length ≤ 6
    have := hq.t6
    rw [List.length_append, List.length_append, List.length_take, List.length_drop]
    omega
  · intro z hz
    rcases hm z hz with hz | hz
    · exact ⟨z, hz, .refl z⟩
    · exact ⟨x, hx, hb z hz⟩
end Own
set_option Elab.async false
set_option linter.all false
set_option maxRecDepth 100000
set_option maxHeartbeats 4000000
/-! the law's own play, in plain Lean -/
namespace Own
open PySem PySem.Spec PyProof.Rows L2 He OwnR
/-- begin and end of what is known -/
abbrev Kn := Str → Nat → Option (Int × Int)
def Tie.sel (t : Tie) (p : Int × Int) : Int := if t.soon then p.1 else p.2
/-- what bears on a work's begin -/
def TieC (q : Plan) (F : Kn) (z : Str) (k : Nat) (t : Tie) (c : Int) : Prop := t.to = z ∧ t.held < k ∧ ∃ p, F t.at_ (k - t.held) = some p ∧ c = t.sel p
def PostC (F : Kn) (z : Str) (k : Nat) (x : Post) (c : Int) : Prop := x.name = z ∧ ∃ n, x.many = some n ∧ n < k ∧ ∃ p, F z (k - n) = some p ∧ c = p.2
structure IsOn (q : Plan) (F : Kn) (z : Str) (k : Nat) (o : Int) : Prop where
  pos : 0 ≤ o
  tie : ∀ t ∈ q.ties, t.to = z → t.held < k → ∃ c, TieC q F z k t c ∧ c ≤ o
  post : ∀ x ∈ q.posts, ∀ c, PostC F z k x c → c ≤ o
  from_ : o = 0 ∨ (∃ t ∈ q.ties, TieC q F z k t o) ∨ ∃ x ∈ q.posts, PostC F z k x o
/-- all of the one is in the other -/
def KnLe (F G : Kn) : Prop := ∀ z k p, F z k = some p → G z k = some p
/-- the station has a clock -/
def Clk (q : Plan) (z : Str) : Prop := ∃ x ∈ q.posts, x.name = z ∧ x.clock = true
/-- what is known is as it is to be, the works that are told of below N and at N -/
structure RecK (q : Plan) (T : Str → Nat → Nat) (F : Kn) : Prop where
  dom : ∀ z k p, F z k = some p → z ∈ q.words ∧ 1 ≤ k
  back : ∀ z k p, F z k = some p → ∀ j, 1 ≤ j → j < k → ∃ p', F z j = some p'
  on : ∀ z k a b, F z k = some (a, b) → IsOn q F z k a ∧ ∃ d : Nat, b = a + (d : Int) ∧ (Clk q z → d = T z k) ∧ (¬ Clk q z → d = 0)
theorem RecK.le {q : Plan} {T : Str → Nat → Nat} {F : Kn} (h : RecK q T F) {z : Str} {k : Nat} {p : Int × Int} (e : F z k = some p) : p.1 ≤ p.2 := by
  obtain ⟨a, b⟩ := p
  obtain ⟨_, d, e2, _⟩ := h.on z k a b e
  show a ≤ b
  omega
theorem low {q m : Plan} {T : Str → Nat → Nat} {F G : Kn} (hq : PlanOk q) (hm : PlanOk m) (hb : Below q m) (hF : RecK q T F) (hG : RecK m T G) (full : ∀ z k, (F z k).isSome = true → (G z k).isSome = true) :
    ∀ n z k p g, k * 8 + rkW q.words z < n → F z k = some p → G z k = some g → p.1 ≤ g.1 ∧ p.2 ≤ g.2 := by
  intro n
  induction n with
  | zero => intro z k p g h; omega
  | succ n ih =>
    rintro z k ⟨a, b⟩ ⟨a', b'⟩ hn hf hg
    obtain ⟨i1, d, ed, d1, d2⟩ := hF.on z k a b hf
    obtain ⟨j1, d', ed', d1', d2'⟩ := hG.on z k a' b' hg
    have rk4 : ∀ w ∈ q.words, rkW q.words w < 4 := fun w hw => by
      have := List.idxOf_lt_length_of_mem hw
      have h4 := hq.w4
      show q.words.idxOf w < 4
      omega
    have ha : a ≤ a' := by
      rcases i1.from_ with e | ⟨t, ht, h1, h2, p, h3, h4⟩ | ⟨x, hx, h1, nn, h2, h3, p, h4, h5⟩
      · rw [e]; exact j1.pos
      · obtain ⟨u, hu, tb⟩ := hb.ties t ht
        obtain ⟨c, ⟨_, _, g, hgu, ec⟩, hc⟩ := j1.tie u hu (by rw [← tb.to]; exact h1) (by rw [← tb.held]; exact h2)
        rw [← tb.at_, ← tb.held] at hgu
        have hlt : (k - t.held) * 8 + rkW q.words t.at_ < n := by
          have r1 := rk4 _ (hF.dom _ _ _ h3).1
          by_cases h0 : t.held = 0
          · have := TieOk.up hq ht h0
            rw [h1] at this
            rw [h0]
            omega
          · have : (k - t.held) * 8 + 8 ≤ k * 8 := by omega
            omega
        have := ih t.at_ (k - t.held) p g hlt h3 hgu
        have gl := hG.le hgu
        have pl := hF.le h3
        refine Int.le_trans ?_ hc
        rw [h4, ec]
        unfold Tie.sel
        by_cases s : u.soon = true
        · rw [if_pos s, if_pos (tb.soon s)]; exact this.1
        · rw [if_neg s]
          split
          · exact Int.le_trans this.1 gl
          · exact this.2
      · obtain ⟨y, hy, pb⟩ := hb.posts x hx
        have hym : y.many = some nn := by
          rcases pb.many with e | e
          · rw [h2] at e; cases e
          · rw [← e]; exact h2
        have hn1 := (hq.many x hx nn h2).1
        obtain ⟨g, hgu⟩ : ∃ g, G z (k - nn) = some g := Option.isSome_iff_exists.mp (full z (k - nn) (by rw [h4]; rfl))
        have := ih z (k - nn) p g (by omega) h4 hgu
        have hc := j1.post y hy g.2 ⟨by rw [← pb.name]; exact h1, nn, hym, h3, g, hgu, rfl⟩
        rw [h5]
        exact Int.le_trans this.2 hc
    have hd : d ≤ d' := by
      by_cases c : Clk q z
      · obtain ⟨x, hx, e1, e2⟩ := id c
        obtain ⟨y, hy, pb⟩ := hb.posts x hx
        have c' : Clk m z := ⟨y, hy, pb.name ▸ e1, pb.clock e2⟩
        rw [d1 c, d1' c']
        exact Nat.le_refl _
      · rw [d2 c]; exact Nat.zero_le _
    exact ⟨ha, by show b ≤ b'; omega⟩
/-- the works up to N are known, and no others -/
def FullK (q : Plan) (F : Kn) (N : Nat) : Prop := ∀ z k, (F z k).isSome = true ↔ (z ∈ q.words ∧ 1 ≤ k ∧ k ≤ N)
/-- what the law takes as an end -/
def EndV (q : Plan) (F : Kn) (N : Nat) : Bool → Int → Prop
  | false, e => ∃ a, F q.goal N = some (a, e)
  | true, e => (∃ z k a, F z k = some (a, e)) ∧ ∀ z k p, F z k = some p → p.2 ≤ e
theorem ends_low {q m : Plan} {T : Str → Nat → Nat} {F G : Kn} {N : Nat} {wide : Bool} {e e' : Int} (hq : PlanOk q) (hm : PlanOk m) (hb : Below q m) (hF : RecK q T F) (hG : RecK m T G) (fF : FullK q F N) (fG : FullK m G N) (h : EndV q F N wide e) (g : EndV m G N wide e') : e ≤ e' := by
  have full : ∀ z k, (F z k).isSome = true → (G z k).isSome = true := fun z k h => by
    have := (fF z k).mp h
    exact (fG z k).mpr (by rw [← hb.words]; exact this)
  have L := low hq hm hb hF hG full
  cases wide with
  | false =>
    obtain ⟨a, h⟩ := h
    obtain ⟨a', g⟩ := g
    rw [← hb.goal] at g
    exact (L _ _ _ _ _ (Nat.lt_succ_self _) h g).2
  | true =>
    obtain ⟨⟨z, k, a, h⟩, _⟩ := h
    obtain ⟨_, g2⟩ := g
    obtain ⟨r, hr⟩ := Option.isSome_iff_exists.mp (full z k (by rw [h]; rfl))
    exact Int.le_trans (L _ _ _ _ _ (Nat.lt_succ_self _) h hr).2 (g2 z k r hr)
theorem IsOn.mono {q : Plan} {F G : Kn} {z : Str} {k : Nat} {o : Int} (h : IsOn q F z k o) (g : KnLe F G) (hb : ∀ x ∈ q.posts, x.name = z → ∀ n, x.many = some n → n < k → ∃ p, F z (k - n) = some p) : IsOn q G z k o := by
  refine ⟨h.pos, fun t ht e1 e2 => ?_, fun x hx c hc => ?_, ?_⟩
  · obtain ⟨c, ⟨a1, a2, p, a3, a4⟩, a5⟩ := h.tie t ht e1 e2
    exact ⟨c, ⟨a1, a2, p, g _ _ _ a3, a4⟩, a5⟩
  · obtain ⟨e1, n, e2, e3, p, e4, e5⟩ := hc
    obtain ⟨r, h'⟩ := hb x hx e1 n e2 e3
    have := g _ _ _ h'
    rw [this] at e4
    cases e4
    exact h.post x hx c ⟨e1, n, e2, e3, _, h', e5⟩
  · rcases h.from_ with e | ⟨t, ht, a1, a2, p, a3, a4⟩ | ⟨x, hx, e1, n, e2, e3, p, e4, e5⟩
    · exact .inl e
    · exact .inr (.inl ⟨t, ht, a1, a2, p, g _ _ _ a3, a4⟩)
    · exact .inr (.inr ⟨x, hx, e1, n, e2, e3, p, g _ _ _ e4, e5⟩)
/-- one more is known -/
def putKn (F : Kn) (z : Str) (k : Nat) (p : Int × Int) : Kn := fun w j => if w = z ∧ j = k then some p else F w j
theorem putKn_same {F : Kn} {z : Str} {k : Nat} {p : Int × Int} : putKn F z k p z k = some p := if_pos ⟨rfl, rfl⟩
theorem putKn_ne {F : Kn} {z w : Str} {k j : Nat} {p : Int × Int} (h : ¬ (w = z ∧ j = k)) : putKn F z k p w j = F w j := if_neg h
theorem putKn_le {F : Kn} {z : Str} {k : Nat} {p : Int × Int} (h : F z k = none) : KnLe F (putKn F z k p) := fun w j r e => by
  rw [putKn_ne]
  · exact e
  · rintro ⟨rfl, rfl⟩
    rw [h] at e; cases e
theorem RecK.put {q : Plan} {T : Str → Nat → Nat} {F : Kn} (hq : PlanOk q) (h : RecK q T F) {z : Str} {k : Nat} {a : Int} {d : Nat} (hz : z ∈ q.words) (hk : 1 ≤ k) (hn : F z k = none) (hb : ∀ j, 1 ≤ j → j < k → ∃ p', F z j = some p') (on : IsOn q F z k a) (d1 : Clk q z → d = T z k) (d2 : ¬ Clk q z → d = 0) : RecK q T (putKn F z k (a, a + (d : Int))) := by
  have le := putKn_le (p := (a, a + (d : Int))) hn
  refine ⟨fun w j p e => ?_, fun w j p e i hi hij => ?_, fun w j x y e => ?_⟩
  · by_cases c : w = z ∧ j = k
    · obtain ⟨rfl, rfl⟩ := c
      exact ⟨hz, hk⟩
    · rw [putKn_ne c] at e
      exact h.dom _ _ _ e
  · by_cases c : w = z ∧ j = k
    · obtain ⟨rfl, rfl⟩ := c
      obtain ⟨p', e'⟩ := hb i hi hij
      exact ⟨p', le _ _ _ e'⟩
    · rw [putKn_ne c] at e
      obtain ⟨p', e'⟩ := h.back _ _ _ e i hi hij
      exact ⟨p', le _ _ _ e'⟩
  · by_cases c : w = z ∧ j = k
    · obtain ⟨rfl, rfl⟩ := c
      rw [putKn_same] at e
      cases e
      refine ⟨on.mono le fun x hx e1 n e2 e3 => ?_, d, rfl, d1, d2⟩
      have := (hq.many x hx n e2).1
      exact hb (j - n) (by omega) (by omega)
    · rw [putKn_ne c] at e
      obtain ⟨o1, o2⟩ := h.on _ _ _ _ e
      refine ⟨o1.mono le fun x hx e1 n e2 e3 => ?_, o2⟩
      have := (hq.many x hx n e2).1
      exact h.back _ _ _ e (j - n) (by omega) (by omega)
end Own
set_option Elab.async false
set_option linter.all false
set_option maxRecDepth 100000
set_option maxHeartbeats 4000000
/-! the law's plans: the maker's walk -/
namespace Own
open PySem PySem.Spec PyProof.Rows L2 He OwnR
theorem pf_si {p : Addr} {H H' : Hp} (f : PF p H H') (hp : PurlAt H p) : SameI H H' := fun a o e z => by
  by_cases c : a = p
  · obtain ⟨_, _, h⟩ := hp
    rw [c, h] at e
    cases e
    cases z
  · exact f a o c e
theorem pf_new {p D : Addr} {H : Hp} {o : HO} (h : H D = none) : PF p H (upd H D o) := PF.of (sNew h)
theorem pf_mut {p D : Addr} {H H' : Hp} {o : HO} (f : PF p H H') (h : H D = none) : PF p H (upd H' D o) := fun a u n e => by
  rw [upd_ne (ne_of_none e h)]
  exact f a u n e
theorem purl_ne {p D : Addr} {H : Hp} (hp : PurlAt H p) (h : H D = none) : D ≠ p := by
  rintro rfl
  obtain ⟨_, _, e⟩ := hp
  rw [h] at e
  cases e
theorem PurlAt.upd {p D : Addr} {H : Hp} {o : HO} (hp : PurlAt H p) (h : D ≠ p) : PurlAt (upd H D o) p := by
  obtain ⟨a, b, e⟩ := hp
  exact ⟨a, b, by rw [upd_ne (Ne.symm h)]; exact e⟩
section
variable {J : It} {n : Nat} {G : Hp → Prop} {Y : Nat → Hp → V → Hp → Prop}
/-- a comprehension in which a purl changes -/
theorem lc_pf (w : Walk J n G Y) {g : TG} {tt : L2.TT} {te : TE} {vs : List Nat} {σ : L2.St} {H1 : Hp} {D : Addr} {Qd : Hp → Prop} (p : Addr) (hp : PurlAt H1 p) (hD : H1 D = none) (P : Nat → V → Hp → Prop) (hn : n ≤ 1000000)
    (mono : ∀ i v H H', P i v H → SameI H H' → P i v H') (hG : ∀ H, PF p H1 H → G H)
    (hs : ∀ i x H H' (Nk : VK) (Ns : Hp → Prop), i < n → PF p H1 H → PurlAt H p → Y i H x H' → (∀ v H4, PF p H H4 → PurlAt H4 p → P i v H4 → Nk v H4) →
      g x (wipe σ vs) H' fun σ2 H2 => wipe σ2 vs = wipe σ vs ∧ tt σ2 H2 fun b H3 => if b = true then te σ2 H3 Nk else Ns H3)
    (hd : ∀ H us, PF p H1 H → PurlAt H p → H D = some (.lst us) → Paired (fun i v => P i v H) (List.range n) us → Qd H) :
    ∃ W : Nat → Nat → Hp → Prop, (∃ m, W 0 m (L2.upd H1 D (.lst []))) ∧ ∀ i m H, W i m H →
      (J.stop i H ∧ Qd H) ∨ (J.go i H ∧ ∃ Nx : Hp → Prop, (∀ H', Nx H' → ∃ m', m' < m ∧ W (i + 1) m' H') ∧ ∀ x H', J.yld i H x H' → g x (wipe σ vs) H' fun σ2 H2 => wipe σ2 vs = wipe σ vs ∧ tt σ2 H2 fun b H3 =>
        if b = true then te σ2 H3 fun y H4 => ∃ acc, H4 D = some (.lst acc) ∧ acc.length < sizeLine ∧ Nx (L2.upd H4 D (.lst (acc ++ [y]))) else Nx H3) := by
  have nD := purl_ne hp hD
  refine lc_it w (fun i H => i ≤ n ∧ PF p H1 H ∧ PurlAt H p ∧ ∃ acc, H D = some (.lst acc) ∧ Paired (fun i v => P i v H) (List.range i) acc) ⟨Nat.zero_le _, pf_new hD, hp.upd nD, [], upd_same, .nil⟩ (fun i H _ h => hG H h.2.1) ?_ (fun H h => ?_)
  · rintro i x H H' hi ⟨_, hS, hp2, acc, hA, hP⟩ hY
    have hl : acc.length < sizeLine := by
      have e := Paired.length hP
      rw [List.length_range] at e
      have e3 : sizeLine = 16777216 := sizeLine_eq
      omega
    refine hs i x H H' _ _ hi hS hp2 hY (fun v H4 f4 hp4 hv => ?_)
    have hA4 := f4 _ _ nD hA
    have si : SameI H4 (L2.upd H4 D (.lst (acc ++ [v]))) := SameI.lst hA4
    refine ⟨acc, hA4, hl, by omega, pf_mut (hS.trans f4) hD, hp4.upd nD, _, upd_same, ?_⟩
    rw [List.range_succ]
    exact OwnR.Paired.snoc (L2.Paired.mapP hP fun j u z => mono j u _ _ (mono j u _ _ z (pf_si f4 hp2)) si) (mono i v _ _ hv si)
  · obtain ⟨_, hS, hp2, acc, hA, hP⟩ := h
    exact hd H acc hS hp2 hA hP
end
/-- a statement in two ways -/
theorem st_both {b : Bool} {σ : L2.St} {H : Hp} {t1 t2 : TS} {D : Ends} (G : L2.St → Hp → Prop) (h1 : b = true → ∀ N : L2.St → Hp → Prop, (∀ σ H, G σ H → N σ H) → t1 { D with nx := N } σ H) (h2 : b = false → ∀ N : L2.St → Hp → Prop, (∀ σ H, G σ H → N σ H) → t2 { D with nx := N } σ H) (h : ∀ σ H, G σ H → D.nx σ H) : if b = true then t1 D σ H else t2 D σ H := by
  cases b with
  | true => exact ite_t rfl (h1 rfl _ h)
  | false => exact ite_f rfl (h2 rfl _ h)
theorem paired_choose {α β γ : Type} {F : α → γ → β → Prop} : ∀ {l : List α} {m : List β}, Paired (fun a b => ∃ x, F a x b) l m → ∃ xs : List γ, Paired (fun x b => ∃ a ∈ l, F a x b) xs m ∧ Paired (fun a x => ∃ b, F a x b) l xs
  | _, _, .nil => ⟨[], .nil, .nil⟩
  | _, _, .cons ⟨x, r⟩ t => by
    obtain ⟨xs, h1, h2⟩ := paired_choose t
    exact ⟨x :: xs, .cons ⟨_, List.mem_cons_self, r⟩ (paired_imp h1 fun a b ⟨z, hz, h⟩ => ⟨z, List.mem_cons_of_mem _ hz, h⟩), .cons ⟨_, r⟩ h2⟩
theorem paired_append {α β : Type} {F : α → β → Prop} : ∀ {l l' : List α} {m m' : List β}, Paired F l m → Paired F l' m' → Paired F (l ++ l') (m ++ m')
  | _, _, _, _, .nil, h => h
  | _, _, _, _, .cons r t, h => .cons r (paired_append t h)
theorem paired_all {γ β : Type} {F : γ → β → Prop} : ∀ {m : List β}, (∀ v ∈ m, ∃ x, F x v) → ∃ xs : List γ, Paired F xs m
  | [], _ => ⟨[], .nil⟩
  | v :: m, h => by
    obtain ⟨x, hx⟩ := h v List.mem_cons_self
    obtain ⟨xs, h2⟩ := paired_all (m := m) fun u hu => h u (List.mem_cons_of_mem _ hu)
    exact ⟨x :: xs, .cons hx h2⟩
theorem cut_drop (xs : List V) (t : Nat) (h : t ≤ xs.length) : cutV xs (some (t : Nat)) none = xs.drop t := by
  unfold cutV
  rw [HT.sIx_nat, HT.sIx_none, Nat.min_eq_left h]
  apply List.take_of_length_le
  rw [List.length_drop]
  exact Nat.le_refl _
theorem cut_take (xs : List V) (t : Nat) (h : t ≤ xs.length) : cutV xs none (some (t : Nat)) = xs.take t := by
  unfold cutV
  rw [HT.sIx_nat, HT.sIx_none, Nat.min_eq_left h]
  rfl
section
variable {P : Program} {w : World} {K : PySem.W.Frag} {mg : Str → Option Value} {base : Heap}
theorem sc_law_plan : FnScope ["_law_purl_here", "_law_most", "_law_ties", "_law_words_here", "_law_posts", "_law_found", "_law_turn", "_law_goal", "_law_word", "_law_k"] ["_law_purl_here", "_law_most", "_law_ties"] (defScope s_law_plan) := ⟨rfl, rfl, rfl, by decide +kernel, rfl, by decide +kernel, by decide +kernel⟩
theorem b_law_plan (E : Env K mg base) : Binds K (fdAt K (ga K "_law_plan")) ["_law_purl_here", "_law_most", "_law_ties"] [] := (f_law_plan E).bindsN fun _ _ _ _ _ _ us hl => match us, hl with | [_, _, _], _ => rfl
def sp_plan (K : PySem.W.Frag) : Sp := fun vs H Q _ => ∃ (p : Addr), vs = [.ref p, .int 4, .int 3] ∧ PurlAt H p ∧ ∀ a H' (pl : Plan), PF p H H' → PurlAt H' p → H a = none → PlanAt H' a pl → PlanOk pl → Q (.ref a) H'
theorem ok_law_plan (E : Env K mg base) : FnOk P w K mg base CX0 3 (ga K "_law_plan") (fdAt K (ga K "_law_plan")) ["_law_purl_here", "_law_most", "_law_ties"] ((sp_plan K)) := by
  refine okD (f_law_plan E) sc_law_plan (fun cdv A outer s H vs Q X hr h => ?_) (fun vs H Q X h => by obtain ⟨_, rfl, _⟩ := h; rfl)
  obtain ⟨p, rfl, hp, q⟩ := h
  have e3 : sizeLine = 16777216 := sizeLine_eq
  refine ⟨_, (pss_cons (ps_set (i := 3) sc_law_plan.nd rfl (Or.inr rfl) (pe_call (ok_law_words E) (hr.mono (by decide)) rfl (g_law_words E) (f_law_words E).kp (b_law_words E) .nil pass0 (pa_cons (pv 0) (pa_cons (pe_op op_add pe_int (pe_call (ok_law_dig E) (hr.mono (by decide)) rfl (g_law_dig E) (f_law_dig E).kp (b_law_dig E) .nil pass0 (pa_cons (pv 0) (pa_cons (pv 1) pa_nil)))) pa_nil))))
      (pss_cons (ps_setLc (i := 4) (own := [("_law_word", 8)]) (g := (gName 8)) rfl sc_law_plan.nd rfl rfl (sw_true rfl rfl rfl (by decide +kernel)) (pi_list (pv 3)) (blkOk_by (own := [("_law_word", 8)]) (N := (["_law_purl_here", "_law_most", "_law_ties", "_law_words_here", "_law_posts", "_law_found", "_law_turn", "_law_goal", "_law_word", "_law_k"] : List Str)) (sc := defScope s_law_plan) (by decide +kernel)) (fun _ _ _ _ _ => (pg_name (i := 8) sc_law_plan.nd rfl (Or.inl rfl))) (fun _ _ _ _ _ => pts_nil) (fun _ _ _ _ _ => (pe_call (ok_law_post E) (hr.mono (by decide)) rfl (g_law_post E) (f_law_post E).kp (b_law_post E) .nil pass0 (pa_cons (pv 0) (pa_cons (pv 8) pa_nil)))))
      (pss_cons (ps_setLc (i := 5) (own := [("_law_k", 9)]) (g := (gName 9)) rfl sc_law_plan.nd rfl rfl (sw_true rfl rfl rfl (by decide +kernel)) (pi_range1 rfl (n_range E) (pa_cons (pe_call (ok_law_dig E) (hr.mono (by decide)) rfl (g_law_dig E) (f_law_dig E).kp (b_law_dig E) .nil pass0 (pa_cons (pv 0) (pa_cons (pe_op op_add (pv 2) pe_int) pa_nil))) pa_nil)) (blkOk_by (own := [("_law_k", 9)]) (N := (["_law_purl_here", "_law_most", "_law_ties", "_law_words_here", "_law_posts", "_law_found", "_law_turn", "_law_goal", "_law_word", "_law_k"] : List Str)) (sc := defScope s_law_plan) (by decide +kernel)) (fun _ _ _ _ _ => (pg_name (i := 9) sc_law_plan.nd rfl (Or.inl rfl))) (fun _ _ _ _ _ => pts_nil) (fun _ _ _ _ _ => (pe_call (ok_law_tie E) (hr.mono (by decide)) rfl (g_law_tie E) (f_law_tie E).kp (b_law_tie E) .nil pass0 (pa_cons (pv 0) (pa_cons (pv 3) pa_nil)))))
      (pss_cons (ps_if (pt_cmpR op_gt (pe_call (ok_law_dig E) (hr.mono (by decide)) rfl (g_law_dig E) (f_law_dig E).kp (b_law_dig E) .nil pass0 (pa_cons (pv 0) (pa_cons pe_int pa_nil))) pe_int (nomark _)) (pss_one (ps_set (i := 5) sc_law_plan.nd rfl (Or.inl rfl) (pe_op op_cat (pe_call (ok_law_chained E) (hr.mono (by decide)) rfl (g_law_chained E) (f_law_chained E).kp (b_law_chained E) .nil pass0 (pa_cons (pv 3) pa_nil)) (pv 5)))) pss_nil)
      (pss_cons (ps_par (i := 6) (j := 7) rfl sc_law_plan.nd rfl rfl (by decide) rfl rfl (pa_cons (pe_call (ok_law_dig E) (hr.mono (by decide)) rfl (g_law_dig E) (f_law_dig E).kp (b_law_dig E) .nil pass0 (pa_cons (pv 0) (pa_cons (pe_callB (lenK K) rfl (n_len E) boot_len (pa_cons (pv 3) pa_nil)) pa_nil))) (pa_cons (pe_ix (ixL K) (pv 3) (pe_op op_sub (pe_callB (lenK K) rfl (n_len E) boot_len (pa_cons (pv 3) pa_nil)) pe_int) (fun _ _ => rfl)) pa_nil)) (by rfl))
      (pss_cons (ps_if (pt_cmpR op_eq (pe_call (ok_law_dig E) (hr.mono (by decide)) rfl (g_law_dig E) (f_law_dig E).kp (b_law_dig E) .nil pass0 (pa_cons (pv 0) (pa_cons pe_int pa_nil))) pe_int (nomark _)) (pss_one (ps_set (i := 7) sc_law_plan.nd rfl (Or.inl rfl) (pe_ix (ixL K) (pv 3) (pe_call (ok_law_dig E) (hr.mono (by decide)) rfl (g_law_dig E) (f_law_dig E).kp (b_law_dig E) .nil pass0 (pa_cons (pv 0) (pa_cons (pe_callB (lenK K) rfl (n_len E) boot_len (pa_cons (pv 3) pa_nil)) pa_nil))) (fun _ _ => rfl)))) pss_nil)
      (pss_one (ps_ret (pe_lst (pa_cons (pe_op op_cat (pe_slice (slL K) (pv 4) (po_some (pv 6)) po_none) (pe_slice (slL K) (pv 4) po_none (po_some (pv 6)))) (pa_cons (pv 5) (pa_cons (pv 7) (pa_cons (pv 3) pa_nil))))))))))))), ?_⟩
  refine ⟨_, rfl, _, rfl, _, rfl, p, 4, rfl, hp, by decide, by decide, fun d H1 hd f1 hp1 => ⟨_, _, rfl, rfl, p, 1 + d, ?_, hp1, by omega, fun lw H2 ws f2 hp2 hlw0 hlw hwl hnd hmenu => ?_⟩⟩
  · exact congrArg (fun z => [V.ref p, V.int z]) (show (1 : Int) + (d : Nat) = ((1 + d : Nat) : Int) by omega)
  have f02 := f1.trans f2
  have nlw : lw ≠ p := fun e => by obtain ⟨_, _, h⟩ := hp1; rw [e, h] at hlw0; cases hlw0
  refine ⟨_, rfl, lw, rfl, ⟨_, SqL.of hlw⟩, fun lp hlp => ?_⟩
  refine lc_pf (walk_list (K := K) (a := lw) (xs := ws.map V.str)) p hp2 hlp (fun i v H => ∃ x : Post, (ws[i]? = some x.name ∧ ManyOk x.many) ∧ PostAt H v x) (by rw [List.length_map]; omega) (fun i v H H' ⟨x, e, ⟨t, ev, h⟩⟩ g => ⟨x, e, ⟨t, ev, g _ _ h rfl⟩⟩) (fun H f => SqL.of (f _ _ nlw hlw)) ?_ ?_
  · rintro i y H3 H4 Nk Ns hi f3 hp3 ⟨rfl, hy⟩ k1
    obtain ⟨z, ez, rfl⟩ := map_get hy
    refine ⟨rfl, tyes_if ?_⟩
    exact ⟨_, rfl, _, rfl, p, z, rfl, hp3, fun t H5 m c f5 hp5 ht hH5 hm => k1 _ _ f5 hp5 ⟨⟨z, m, c⟩, ⟨ez, hm⟩, ⟨t, rfl, hH5⟩⟩⟩
  intro H3 us f3 hp3 hlp3 hus
  rw [List.length_map] at hus
  have f03 := f02.trans f3
  have hlw3 := f3 _ _ nlw hlw
  have nlp := purl_ne hp2 hlp
  refine ⟨_, rfl, _, rfl, _, _, rfl, rfl, p, 4, rfl, hp3, by decide, by decide, fun n4 H4 hn4 f4 hp4 => ?_⟩
  refine ⟨(n4 : Nat), rfl, by omega, by omega, fun lt hlt => ?_⟩
  refine lc_pf (walk_range (lo := 0) (n := ((n4 : Nat) : Int).toNat)) p hp4 hlt (fun i v H => TieV H ws v) (by show n4 ≤ 1000000; omega) (fun i v H H' ⟨x, ⟨t, e, h⟩, ok⟩ g => ⟨x, ⟨t, e, g _ _ h rfl⟩, ok⟩) (fun _ _ => trivial) ?_ ?_
  · rintro i y H5 H6 Nk Ns hi f5 hp5 ⟨rfl, rfl⟩ k1
    refine ⟨rfl, tyes_if ?_⟩
    exact ⟨_, rfl, _, rfl, p, lw, ws, rfl, hp5, nlw, (f4.trans f5) _ _ nlw hlw3, by omega, by omega, fun t H7 i j h a b e f7 hp7 ht ha hb hH7 hh hh0 => k1 _ _ f7 hp7 ⟨⟨a, b, h, e⟩, ⟨t, rfl, hH7⟩, i, j, ha, hb, hh, hh0⟩⟩
  intro H5 vs f5 hp5 hlt5 hvs
  have hvl := Paired.length hvs
  rw [List.length_range] at hvl
  have hvl' : vs.length ≤ 3 := by rw [← hvl]; show n4 ≤ 3; omega
  have hvt : ∀ v ∈ vs, TieV H5 ws v := fun v hv => by
    obtain ⟨i, hi, e⟩ := List.mem_iff_getElem.mp hv
    obtain ⟨j, _, h⟩ := pget hvs (by rw [List.getElem?_eq_getElem hi, e])
    exact h
  have nlt := purl_ne hp4 hlt
  have f05 := f03.trans (f4.trans f5)
  have hlw5 := (f4.trans f5) _ _ nlw hlw3
  have hlp5 := (f4.trans f5) _ _ nlp hlp3
  obtain ⟨xs, hx1, hx2⟩ := paired_choose hus
  have hxn : xs.map Post.name = ws := by
    apply List.ext_getElem?
    intro i
    rcases Nat.lt_or_ge i ws.length with c | c
    · have hl2 := Paired.length hx2
      rw [List.length_range] at hl2
      obtain ⟨j, e, v, ⟨h, _⟩, _⟩ := pget hx2 (i := i) (v := xs[i]) (List.getElem?_eq_getElem (by omega))
      rw [List.getElem?_range (by omega)] at e
      obtain rfl := Option.some.inj e
      rw [List.getElem?_map, List.getElem?_eq_getElem (by omega), h]; rfl
    · have hl2 := Paired.length hx2
      rw [List.length_range] at hl2
      rw [List.getElem?_eq_none c, List.getElem?_eq_none (by rw [List.length_map]; omega)]
  have hxm : ∀ x ∈ xs, ManyOk x.many := fun x hx => by
    obtain ⟨i, hi, e⟩ := List.mem_iff_getElem.mp hx
    obtain ⟨j, _, v, ⟨_, h⟩, _⟩ := pget hx2 (i := i) (v := x) (by rw [List.getElem?_eq_getElem hi, e])
    exact h
  have hx3 : Paired (fun x v => PostAt H3 v x) xs us := paired_imp hx1 fun x v ⟨_, _, _, h⟩ => h
  have hxu := Paired.length hx3
  have hxw : xs.length = ws.length := by rw [← hxn, List.length_map]
  have hxx : Paired (fun x v => PostAt H5 v x) xs us := paired_imp hx3 fun x v h => h.pf (f4.trans f5) hp3
  refine ⟨_, rfl, p, 3, rfl, hp5, by decide, by decide, fun d6 H6 hd6 f6 hp6 => ⟨_, _, rfl, rfl, _, rfl, ?_⟩⟩
  have hlw6 := f6 _ _ nlw hlw5
  have hlp6 := f6 _ _ nlp hlp5
  have hlt6 := f6 _ _ nlt hlt5
  have hvt6 : ∀ v ∈ vs, TieV H6 ws v := fun v hv => by
    obtain ⟨x, h, ok⟩ := hvt v hv
    exact ⟨x, h.pf f6 hp5, ok⟩
  have hxx6 : Paired (fun x v => PostAt H6 v x) xs us := paired_imp hxx fun x v h => h.pf f6 hp5
  refine st_both (fun σ H' => ∃ lf vs', σ = [some (.ref p), some (.int 4), some (.int 3), some (.ref lw), some (.ref lp), some (.ref lf), none, none, none, none] ∧ Same H6 H' ∧ H' lf = some (.lst vs') ∧ vs'.length ≤ 6 ∧ (∀ v ∈ vs', TieV H' ws v) ∧ lf ≠ p) (fun c N hN => ?_) (fun c N hN => ?_) ?_
  · refine ⟨_, rfl, lw, ws, rfl, hlw6, by omega, by omega, fun D H7 us7 s7 hD0 hD hul hut => ?_⟩
    refine ⟨_, rfl, D, lt, _, _, rfl, rfl, hD, s7 _ _ hlt6, by omega, fun p3 hp3' => ?_⟩
    have s8 := s7.trans (sNew (o := .lst (us7 ++ vs)) hp3')
    refine hN _ _ ⟨p3, us7 ++ vs, rfl, s8, upd_same, by rw [List.length_append]; omega, fun v hv => ?_, purl_ne (hp6.mono s7) hp3'⟩
    rcases List.mem_append.mp hv with hv | hv
    · obtain ⟨x, h, ok⟩ := hut v hv
      exact ⟨x, h.mono (sNew hp3'), ok⟩
    · obtain ⟨x, h, ok⟩ := hvt6 v hv
      exact ⟨x, h.mono s8, ok⟩
  · exact hN _ _ ⟨lt, vs, rfl, Same.refl _, hlt6, by omega, hvt6, nlt⟩
  rintro σ H7 ⟨lf, vs', rfl, s7, hlf, hvl6, hvt7, nlf⟩
  have hp7 := hp6.mono s7
  have hlw7 := s7 _ _ hlw6
  have hwm : (ws.map V.str).length = 1 + d := by rw [List.length_map, hwl]
  refine ⟨_, rfl, _, rfl, lw, _, rfl, .inl (SqL.of hlw7), p, (ws.map V.str).length, rfl, hp7, by omega, by omega, fun tn H8 htn f8 hp8 => ?_⟩
  have hlw8 := f8 _ _ nlw hlw7
  have hdw : d < ws.length := by omega
  refine ⟨_, rfl, _, rfl, lw, _, rfl, .inl (SqL.of hlw8), _, _, rfl, rfl, lw, _, (d : Nat), .str ws[d], rfl, congrArg V.int (by omega), SqL.of hlw8, atI_nat (by rw [List.getElem?_map, List.getElem?_eq_getElem hdw]; rfl), ?_⟩
  refine ⟨_, _, rfl, ?_⟩
  refine ⟨_, rfl, p, 3, rfl, hp8, by decide, by decide, fun d9 H9 hd9 f9 hp9 => ⟨rfl, _, rfl, ?_⟩⟩
  have f79 := f8.trans f9
  have hlw9 := f9 _ _ nlw hlw8
  refine st_both (fun σ H' => ∃ gl, σ = [some (.ref p), some (.int 4), some (.int 3), some (.ref lw), some (.ref lp), some (.ref lf), some (.int (tn : Nat)), some (.str gl), none, none] ∧ PF p H7 H' ∧ PurlAt H' p ∧ gl ∈ ws) (fun c N hN => ?_) (fun c N hN => ?_) ?_
  · refine ⟨_, rfl, _, rfl, _, rfl, lw, _, rfl, .inl (SqL.of hlw9), p, (ws.map V.str).length, rfl, hp9, by omega, by omega, fun e H10 he f10 hp10 => ?_⟩
    have he' : e < ws.length := by omega
    refine ⟨lw, _, (e : Nat), .str ws[e], rfl, rfl, SqL.of (f10 _ _ nlw hlw9), atI_nat (by rw [List.getElem?_map, List.getElem?_eq_getElem he']; rfl), ?_⟩
    exact hN _ _ ⟨ws[e], rfl, f79.trans f10, hp10, List.getElem_mem he'⟩
  · exact hN _ _ ⟨ws[d], rfl, f79, hp9, List.getElem_mem hdw⟩
  rintro σ H10 ⟨gl, rfl, f10, hp10, hgl⟩
  have f6a := (PF.of s7).trans f10
  have hlp10 := f6a _ _ nlp hlp6
  have hlw10 := f6a _ _ nlw hlw6
  have hlf10 := f10 _ _ nlf hlf
  have htn' : tn ≤ us.length := by omega
  refine ⟨_, rfl, _, rfl, _, rfl, lp, us, rfl, SqL.of hlp10, fun p1 hp1' => ?_⟩
  have s1 := sNew (o := .lst (cutV us (some (tn : Nat)) none)) hp1'
  refine ⟨_, rfl, _, rfl, _, rfl, lp, us, rfl, SqL.of (s1 _ _ hlp10), fun p2 hp2' => ?_⟩
  have s2 := sNew (o := .lst (cutV us none (some (tn : Nat)))) hp2'
  have c1 := cutV_length us (some (tn : Nat)) none
  have c2 := cutV_length us none (some (tn : Nat))
  refine ⟨p1, p2, _, _, rfl, rfl, s2 _ _ upd_same, upd_same, by omega, fun p3 hp3' => ?_⟩
  have s3 := sNew (o := .lst (cutV us (some (tn : Nat)) none ++ cutV us none (some (tn : Nat)))) hp3'
  refine ⟨_, rfl, _, rfl, _, rfl, by show 4 ≤ sizeLine; omega, fun a ha => ?_⟩
  have s4 := sNew (o := .lst [.ref p3, .ref lf, .str gl, .ref lw]) ha
  have s14 := ((s1.trans s2).trans s3).trans s4
  have f0a := ((((f05.trans f6).trans f6a).trans (PF.of s14)))
  have hn : H a = none := pf_none ((f05.trans f6).trans (f6a.trans (PF.of ((s1.trans s2).trans s3)))) (hp10.mono ((s1.trans s2).trans s3)) ha
  obtain ⟨ts, ht⟩ := paired_all (F := fun x v => TieAt H10 v x ∧ TieOk ws x) (m := vs') fun v hv => by
    obtain ⟨x, h, ok⟩ := hvt7 v hv
    exact ⟨x, h.pf f10 hp7, ok⟩
  have htl := Paired.length ht
  rw [cut_drop _ _ htn', cut_take _ _ htn'] at *
  refine q a _ ⟨xs.drop tn ++ xs.take tn, ts, gl, ws⟩ f0a (hp10.mono s14) hn ?_ ?_
  · refine ⟨p3, lf, lw, _, vs', upd_same, s4 _ _ upd_same, s14 _ _ hlf10, s14 _ _ hlw10, ?_, paired_imp ht fun x v h => h.1.mono s14⟩
    refine paired_imp (paired_append (paired_drop tn hxx6) (paired_take tn hxx6)) fun x v h => (h.pf f6a hp6).mono s14
  · refine ⟨hnd, by show 0 < ws.length; omega, by show ws.length ≤ 4; omega, hmenu, ?_, fun x hx => ?_, fun x hx => ?_, by show ts.length ≤ 6; omega, hgl⟩
    · show ((xs.drop tn ++ xs.take tn).map Post.name).Perm ws
      rw [← hxn]
      refine List.Perm.map _ ?_
      refine List.perm_append_comm.trans ?_
      rw [List.take_append_drop]
    · rcases List.mem_append.mp hx with hx | hx
      · exact hxm x (List.mem_of_mem_drop hx)
      · exact hxm x (List.mem_of_mem_take hx)
    · obtain ⟨i, hi, e⟩ := List.mem_iff_getElem.mp hx
      have hi1 : i < ts.length := hi
      have hi2 : i < vs'.length := by omega
      obtain ⟨y, ey, h⟩ := pget ht (i := i) (v := vs'[i]) (List.getElem?_eq_getElem hi2)
      rw [List.getElem?_eq_getElem hi, e] at ey
      obtain rfl := Option.some.inj ey
      exact h.2
end
end Own
set_option Elab.async false
set_option linter.all false
set_option maxRecDepth 100000
set_option maxHeartbeats 4000000
/-! the law's lines -/
namespace Own
open PySem PySem.Spec PyProof.Rows L2 He OwnR
theorem manyV_hV (m : Option Nat) : manyV m = hV m := by cases m <;> rfl
theorem same_make {H H' : Hp} {x dx : Addr} {o : HO} {u : HO} (hx : H x = none) (hd : H dx = none) (ne : dx ≠ x) (hk : ∀ c o', c ≠ x → upd (upd H dx u) x o c = some o' → H' c = some o') : Same H H' := fun c o' e => hk c o' (ne_of_none e hx) (((sNew hd).trans (sNew (by rw [upd_ne (Ne.symm ne)]; exact hx))) _ _ e)
section
variable {P : Program} {w : World} {K : PySem.W.Frag} {mg : Str → Option Value} {base : Heap}
theorem kb_Station (E : Env K mg base) : ∃ its mv : List Value, KBn K (fdAt K (ma K (ga K "Station") "__init__")) ["self", "name", "hands", "timed"] 3 ["timed"] (fun us ws => (fun us (_ _ : List Value) ws => us ++ ws) us its mv ws) (fun vs zs => (fun us (_ _ : List V) ws => us ++ ws) vs [.int 1] (([] : List (Str × V)).map (·.2)) zs) :=
  FunD.kbinds (ps := ["self", "name", "hands", "timed"]) (f_Station_init E) 3 ["timed"] [] (fun us _ _ ws => us ++ ws) (by simp) (by simp) (fun _ h => nomatch h) (fun h1 _ _ h4 => h1.append h4) fun _ _ _ _ _ _ _ us its mv ws hu hi hm hw => match us, its, mv, ws, hu, hi, hm, hw with | [_, _, _], [_], [], [_], _, _, _, _ => ⟨_, rfl, rfl⟩
theorem kb_Link (E : Env K mg base) : ∃ its mv : List Value, KBn K (fdAt K (ma K (ga K "Link") "__init__")) ["self", "source", "target", "stock", "early"] 4 ["early"] (fun us ws => (fun us (_ _ : List Value) ws => us ++ ws) us its mv ws) (fun vs zs => (fun us (_ _ : List V) ws => us ++ ws) vs [.int 0] (([] : List (Str × V)).map (·.2)) zs) :=
  FunD.kbinds (ps := ["self", "source", "target", "stock", "early"]) (f_Link_init E) 4 ["early"] [] (fun us _ _ ws => us ++ ws) (by simp) (by simp) (fun _ h => nomatch h) (fun h1 _ _ h4 => h1.append h4) fun _ _ _ _ _ _ _ us its mv ws hu hi hm hw => match us, its, mv, ws, hu, hi, hm, hw with | [_, _, _, _], [_], [], [_], _, _, _, _ => ⟨_, rfl, rfl⟩
theorem sc_law_line : FnScope ["_law_plan_here", "_law_rows", "_law_some", "_law_word", "_law_many", "_law_clock", "_law_at", "_law_to", "_law_held", "_law_soon"] ["_law_plan_here"] (defScope s_law_line) := ⟨rfl, rfl, rfl, by decide +kernel, rfl, by decide +kernel, by decide +kernel⟩
theorem b_law_line (E : Env K mg base) : Binds K (fdAt K (ga K "_law_line")) ["_law_plan_here"] [] := (f_law_line E).bindsN fun _ _ _ _ _ _ us hl => match us, hl with | [_], _ => rfl
theorem b_Line_init (E : Env K mg base) : Binds K (fdAt K (ma K (ga K "Line") "__init__")) ["self", "stations", "links", "outlet"] [] := (f_Line_init E).bindsN fun _ _ _ _ _ _ us hl => match us, hl with | [_, _, _, _], _ => rfl
def sp_line (K : PySem.W.Frag) : Sp := fun vs H Q _ => ∃ (a : Addr) (pl : Plan), vs = [.ref a] ∧ PlanAt H a pl ∧ PlanOk pl ∧ ∀ v H', Same H H' → LineAt K H' v (lineOf pl) → Q v H'
theorem ok_law_line (E : Env K mg base) : FnOk P w K mg base CX0 11 (ga K "_law_line") (fdAt K (ga K "_law_line")) ["_law_plan_here"] ((sp_line K)) := by
  refine okD (f_law_line E) sc_law_line (fun cdv A outer s H vs Q X hr h => ?_) (fun vs H Q X h => by obtain ⟨_, _, rfl, _⟩ := h; rfl)
  obtain ⟨a, pl, rfl, ⟨lp, lt, lw, us, vs, ha, hlp, hlt, hlw, hus, hvs⟩, ok, q⟩ := h
  have e3 : sizeLine = 16777216 := sizeLine_eq
  refine ⟨_, (pss_cons (ps_setLc (i := 1) (own := [("_law_word", 3), ("_law_many", 4), ("_law_clock", 5)]) (g := (gTup K 3 (gCons (gName 3) (gCons (gName 4) (gCons (gName 5) gNil))))) rfl sc_law_line.nd rfl rfl (sw_true rfl rfl rfl (by decide +kernel)) (pi_list (pe_ix (ixL K) (pv 0) pe_int (fun _ _ => rfl))) (blkOk_by (own := [("_law_word", 3), ("_law_many", 4), ("_law_clock", 5)]) (N := (["_law_plan_here", "_law_rows", "_law_some", "_law_word", "_law_many", "_law_clock", "_law_at", "_law_to", "_law_held", "_law_soon"] : List Str)) (sc := defScope s_law_line) (by decide +kernel)) (fun _ _ _ _ _ => (pg_tup rfl (pgs_cons (pg_name (i := 3) sc_law_line.nd rfl (Or.inl rfl)) (pgs_cons (pg_name (i := 4) sc_law_line.nd rfl (Or.inl rfl)) (pgs_cons (pg_name (i := 5) sc_law_line.nd rfl (Or.inl rfl)) pgs_nil))))) (fun _ _ _ _ _ => pts_nil) (fun _ _ _ _ _ => (pe_makeK (k_Station E) (ok_Station_init E) (hr.mono (by decide)) rfl (g_Station E) (kb_Station E).choose_spec.choose_spec pass0 (pa_cons (pv 3) (pa_cons (pv 4) pa_nil)) (pk_cons (pv 5) pk_nil))))
      (pss_cons (ps_setLc (i := 2) (own := [("_law_at", 6), ("_law_to", 7), ("_law_held", 8), ("_law_soon", 9)]) (g := (gTup K 4 (gCons (gName 6) (gCons (gName 7) (gCons (gName 8) (gCons (gName 9) gNil)))))) rfl sc_law_line.nd rfl rfl (sw_true rfl rfl rfl (by decide +kernel)) (pi_list (pe_ix (ixL K) (pv 0) pe_int (fun _ _ => rfl))) (blkOk_by (own := [("_law_at", 6), ("_law_to", 7), ("_law_held", 8), ("_law_soon", 9)]) (N := (["_law_plan_here", "_law_rows", "_law_some", "_law_word", "_law_many", "_law_clock", "_law_at", "_law_to", "_law_held", "_law_soon"] : List Str)) (sc := defScope s_law_line) (by decide +kernel)) (fun _ _ _ _ _ => (pg_tup rfl (pgs_cons (pg_name (i := 6) sc_law_line.nd rfl (Or.inl rfl)) (pgs_cons (pg_name (i := 7) sc_law_line.nd rfl (Or.inl rfl)) (pgs_cons (pg_name (i := 8) sc_law_line.nd rfl (Or.inl rfl)) (pgs_cons (pg_name (i := 9) sc_law_line.nd rfl (Or.inl rfl)) pgs_nil)))))) (fun _ _ _ _ _ => pts_nil) (fun _ _ _ _ _ => (pe_makeK (k_Link E) (ok_Link_init E) (hr.mono (by decide)) rfl (g_Link E) (kb_Link E).choose_spec.choose_spec pass0 (pa_cons (pv 6) (pa_cons (pv 7) (pa_cons (pv 8) pa_nil))) (pk_cons (pv 9) pk_nil))))
      (pss_one (ps_ret (pe_make (k_Line E) (ok_Line_init E) (hr.mono (by decide)) rfl (g_Line E) (b_Line_init E) .nil pass0 (pa_cons (pe_callTy (tupK K) rfl (n_tuple E) boot_tuple (pa_cons (pv 1) pa_nil)) (pa_cons (pe_callTy (tupK K) rfl (n_tuple E) boot_tuple (pa_cons (pv 2) pa_nil)) (pa_cons (pe_ix (ixL K) (pv 0) pe_int (fun _ _ => rfl)) pa_nil)))))))), ?_⟩
  refine ⟨_, rfl, a, _, 0, .ref lp, rfl, rfl, SqL.of ha, rfl, lp, rfl, ⟨_, SqL.of hlp⟩, fun D hD => ?_⟩
  refine lc_gen (walk_list (K := K) (a := lp) (xs := us)) hD (fun i v H => ∃ x, pl.posts[i]? = some x ∧ StaAt K H v x.sta) (fun _ => true) (by have h1 := Paired.length hus; have h2 := ok.perm.length_eq; have h3 := ok.w4; rw [List.length_map] at h2; omega) (fun i v H H' ⟨x, e, h⟩ g => ⟨x, e, h.mono g⟩) (fun H s => SqL.of (s _ _ hlp)) ?_ ?_
  · rintro i y H2 H3 Nk Ns hi s2 ⟨rfl, hy⟩ k1 k2
    obtain ⟨x, ex, t, rfl, ht⟩ := pget hus hy
    have hx := List.mem_of_getElem? ex
    rw [manyV_hV] at ht
    refine ⟨t, _, rfl, SqT.of (s2 _ _ ht), rfl, _, _, rfl, _, _, rfl, _, _, rfl, rfl, rfl, tyes_if ?_⟩
    refine ⟨_, rfl, _, rfl, _, rfl, rfl, rfl, fun z dx hz hd ne => ?_⟩
    exact ⟨z, dx, x.sta, rfl, upd_same, menu_ok _ (ok.menu _ (ok.perm.mem_iff.mp (List.mem_map.mpr ⟨x, hx, rfl⟩))), ok.many x hx, fun H' hk hS => ⟨rfl, k1 rfl _ _ (same_make hz hd ne hk) ⟨x, ex, hS⟩⟩⟩
  intro H2 rs s2 hD2 hrs
  rw [filter_true] at hrs
  have hpu := Paired.length hus
  have hrs2 : Paired (fun s v => StaAt K H2 v s) (pl.posts.map Post.sta) rs := paired_range hrs (by rw [List.length_map]; omega) fun i p v e ⟨x, e2, h⟩ => by
    rw [List.getElem?_map, e2] at e
    obtain rfl := Option.some.inj e
    exact h
  refine ⟨_, rfl, a, _, 1, .ref lt, rfl, rfl, SqL.of (s2 _ _ ha), rfl, lt, rfl, ⟨_, SqL.of (s2 _ _ hlt)⟩, fun D2 hD2' => ?_⟩
  have htu := Paired.length hvs
  refine lc_gen (walk_list (K := K) (a := lt) (xs := vs)) hD2' (fun i v H => ∃ x, pl.ties[i]? = some x ∧ LnkAt K H v x.lnk) (fun _ => true) (by have := ok.t6; omega) (fun i v H H' ⟨x, e, h⟩ g => ⟨x, e, h.mono g⟩) (fun H s => SqL.of (s _ _ (s2 _ _ hlt))) ?_ ?_
  · rintro i y H3 H4 Nk Ns hi s3 ⟨rfl, hy⟩ k1 k2
    obtain ⟨x, ex, t, rfl, ht⟩ := pget hvs hy
    have hx := List.mem_of_getElem? ex
    obtain ⟨i1, j1, h1, h2, h3, _⟩ := ok.ties x hx
    refine ⟨t, _, rfl, SqT.of (s3 _ _ (s2 _ _ ht)), rfl, _, _, rfl, _, _, rfl, _, _, rfl, _, _, rfl, rfl, rfl, tyes_if ?_⟩
    refine ⟨_, rfl, _, rfl, _, rfl, _, rfl, rfl, rfl, fun z dx hz hd ne => ?_⟩
    exact ⟨z, dx, x.lnk, rfl, upd_same, menu_ok _ (ok.menu _ (List.mem_of_getElem? h1)), menu_ok _ (ok.menu _ (List.mem_of_getElem? h2)), h3, fun H' hk hS => ⟨rfl, k1 rfl _ _ (same_make hz hd ne hk) ⟨x, ex, hS⟩⟩⟩
  intro H3 ks s3 hD3 hks
  rw [filter_true] at hks
  have hks2 : Paired (fun s v => LnkAt K H3 v s) (pl.ties.map Tie.lnk) ks := paired_range hks (by rw [List.length_map]; omega) fun i p v e ⟨x, e2, h⟩ => by
    rw [List.getElem?_map, e2] at e
    obtain rfl := Option.some.inj e
    exact h
  have hrs3 := L2.Paired.mapP hrs2 fun _ _ z => z.mono (sameI s3)
  have s03 := s2.trans s3
  refine ⟨_, rfl, D, rs, rfl, .inl ⟨SqL.of (s3 _ _ hD2), fun ta hta => ?_⟩⟩
  have s4 := sNew (o := .tup rs) hta
  refine ⟨_, rfl, D2, ks, rfl, .inl ⟨SqL.of (s4 _ _ hD3), fun tb htb => ?_⟩⟩
  have s5 := sNew (o := .tup ks) htb
  refine ⟨_, rfl, a, _, 2, .str pl.goal, rfl, rfl, SqL.of (s5 _ _ (s4 _ _ (s03 _ _ ha))), rfl, fun z dx hz hd ne => ?_⟩
  have s6 : Same _ (upd (upd _ dx (.own z)) z (.ins (ga K "Line") dx [])) := (sNew hd).trans (sNew (by rw [upd_ne (Ne.symm ne)]; exact hz))
  refine ⟨z, dx, ta, tb, lineOf pl, rfl, upd_same, ⟨rs, SqT.of (s6 _ _ (s5 _ _ upd_same)), L2.Paired.mapP hrs3 fun _ _ z => z.mono (sameI ((s4.trans s5).trans s6))⟩, ⟨ks, SqT.of (s6 _ _ upd_same), L2.Paired.mapP hks2 fun _ _ z => z.mono (sameI ((s4.trans s5).trans s6))⟩, ok.ok, fun H' hk hL => ⟨rfl, q _ _ ((s03.trans (s4.trans s5)).trans (same_make hz hd ne hk)) hL⟩⟩
end
end Own
set_option Elab.async false
set_option linter.all false
set_option maxRecDepth 100000
set_option maxHeartbeats 4000000
/-! the law's own play: onsets -/
namespace Own
open PySem PySem.Spec PyProof.Rows L2 He OwnR
abbrev kk (z : Str) (k : Nat) : List Key := [.inr z, .inl (k : Nat)]
theorem kk_inj {z w : Str} {k j : Nat} (h : kk z k = kk w j) : z = w ∧ k = j := by
  injection h with h1 h2
  injection h1 with h1
  injection h2 with h2 _
  injection h2 with h2
  exact ⟨h1, by omega⟩
/-- the dict at D tells F -/
def KnAt (H : Hp) (D : Addr) (F : Kn) (n : Nat) : Prop := ∃ kvs : List (List Key × V), H D = some (.dT kvs) ∧ kvs.length ≤ n ∧
  (∀ p ∈ kvs, ∃ (z : Str) (k : Nat) (t : Addr) (b : Int × Int), p.1 = kk z k ∧ p.2 = .ref t ∧ H t = some (.tup [.int b.1, .int b.2]) ∧ F z k = some b) ∧
  ∀ z k b, F z k = some b → ∃ t, valV kvs (kk z k) = some (.ref t) ∧ H t = some (.tup [.int b.1, .int b.2])
theorem KnAt.mono {H H' : Hp} {D : Addr} {F : Kn} {n : Nat} (h : KnAt H D F n) (g : Same H H') : KnAt H' D F n := by
  obtain ⟨kvs, h1, h2, h3, h4⟩ := h
  refine ⟨kvs, g _ _ h1, h2, fun p hp => ?_, fun z k b e => ?_⟩
  · obtain ⟨z, k, t, b, a1, a2, a3, a4⟩ := h3 p hp
    exact ⟨z, k, t, b, a1, a2, g _ _ a3, a4⟩
  · obtain ⟨t, a1, a2⟩ := h4 z k b e
    exact ⟨t, a1, g _ _ a2⟩
/-- what the dict gives at a key -/
theorem KnAt.look {H : Hp} {D : Addr} {F : Kn} {n : Nat} (h : KnAt H D F n) (z : Str) (k : Nat) : ∃ kvs : List (List Key × V), H D = some (.dT kvs) ∧ ((F z k = none ∧ valV kvs (kk z k) = none) ∨ ∃ p t, F z k = some p ∧ valV kvs (kk z k) = some (.ref t) ∧ H t = some (.tup [.int p.1, .int p.2])) := by
  obtain ⟨kvs, h1, h2, h3, h4⟩ := h
  refine ⟨kvs, h1, ?_⟩
  cases e : F z k with
  | some p =>
    obtain ⟨t, a, b⟩ := h4 z k p e
    exact .inr ⟨p, t, rfl, a, b⟩
  | none =>
    refine .inl ⟨rfl, ?_⟩
    cases c : valV kvs (kk z k) with
    | none => rfl
    | some v =>
      obtain ⟨w, j, t, b, a1, a2, a3, a4⟩ := h3 _ (valV_mem c)
      obtain ⟨rfl, rfl⟩ := kk_inj a1
      rw [e] at a4; cases a4
theorem kn_key {H : Hp} {D b : Addr} {kvs : List (List Key × V)} {z : Str} {k : Nat} {i : Int} (h : H D = some (.dT kvs)) (hb : H b = some (.tup [.str z, .int i])) (e : i = (k : Nat)) : DGet H D (.ref b) (valV kvs (kk z k)) := by
  subst e
  exact DGet.t (k := kk z k) h hb
theorem take_snoc {α : Type} {l : List α} {i : Nat} {a b : α} (h : l[i]? = some a) (hb : b ∈ l.take (i + 1)) : b ∈ l.take i ∨ b = a := by
  rw [List.take_succ, h] at hb
  rcases List.mem_append.mp hb with h | h
  · exact .inl h
  · exact .inr (by simpa using h)
theorem take_up {α : Type} {l : List α} {i : Nat} {a : α} (h : a ∈ l.take i) : a ∈ l.take (i + 1) := by
  rw [List.take_succ]; exact List.mem_append_left _ h
/-- what is found up to the i-th tie, the j-th post -/
structure OnP (q : Plan) (F : Kn) (z : Str) (k i j : Nat) (o : Int) : Prop where
  pos : 0 ≤ o
  tie : ∀ t ∈ q.ties.take i, t.to = z → t.held < k → ∃ c, TieC q F z k t c ∧ c ≤ o
  post : ∀ x ∈ q.posts.take j, ∀ c, PostC F z k x c → c ≤ o
  from_ : o = 0 ∨ (∃ t ∈ q.ties, TieC q F z k t o) ∨ ∃ x ∈ q.posts, PostC F z k x o
theorem OnP.skipT {q : Plan} {F : Kn} {z : Str} {k i j : Nat} {o : Int} {t : Tie} (h : OnP q F z k i j o) (e : q.ties[i]? = some t) (n : ¬ (t.to = z ∧ t.held < k)) : OnP q F z k (i + 1) j o :=
  ⟨h.pos, fun u hu e1 e2 => by
    rcases take_snoc e hu with hu | rfl
    · exact h.tie u hu e1 e2
    · exact absurd ⟨e1, e2⟩ n, h.post, h.from_⟩
theorem OnP.addT {q : Plan} {F : Kn} {z : Str} {k i j : Nat} {o c : Int} {t : Tie} (h : OnP q F z k i j o) (e : q.ties[i]? = some t) (hc : TieC q F z k t c) : OnP q F z k (i + 1) j (if c > o then c else o) := by
  have le1 : o ≤ (if c > o then c else o) := by split <;> omega
  have le2 : c ≤ (if c > o then c else o) := by split <;> omega
  refine ⟨Int.le_trans h.pos le1, fun u hu e1 e2 => ?_, fun x hx d hd => Int.le_trans (h.post x hx d hd) le1, ?_⟩
  · rcases take_snoc e hu with hu | rfl
    · obtain ⟨d, a, b⟩ := h.tie u hu e1 e2
      exact ⟨d, a, Int.le_trans b le1⟩
    · exact ⟨c, hc, le2⟩
  · split
    · exact .inr (.inl ⟨t, List.mem_of_getElem? e, hc⟩)
    · exact h.from_
theorem OnP.skipP {q : Plan} {F : Kn} {z : Str} {k i j : Nat} {o : Int} {x : Post} (h : OnP q F z k i j o) (e : q.posts[j]? = some x) (n : ∀ c, ¬ PostC F z k x c) : OnP q F z k i (j + 1) o :=
  ⟨h.pos, h.tie, fun u hu c hc => by
    rcases take_snoc e hu with hu | rfl
    · exact h.post u hu c hc
    · exact absurd hc (n c), h.from_⟩
theorem OnP.addP {q : Plan} {F : Kn} {z : Str} {k i j : Nat} {o c : Int} {x : Post} (h : OnP q F z k i j o) (e : q.posts[j]? = some x) (hc : PostC F z k x c) (un : ∀ d, PostC F z k x d → d = c) : OnP q F z k i (j + 1) (if c > o then c else o) := by
  have le1 : o ≤ (if c > o then c else o) := by split <;> omega
  have le2 : c ≤ (if c > o then c else o) := by split <;> omega
  refine ⟨Int.le_trans h.pos le1, fun u hu e1 e2 => ?_, fun u hu d hd => ?_, ?_⟩
  · obtain ⟨d, a, b⟩ := h.tie u hu e1 e2
    exact ⟨d, a, Int.le_trans b le1⟩
  · rcases take_snoc e hu with hu | rfl
    · exact Int.le_trans (h.post u hu d hd) le1
    · rw [un d hd]; exact le2
  · split
    · exact .inr (.inr ⟨x, List.mem_of_getElem? e, hc⟩)
    · exact h.from_
theorem OnP.isOn {q : Plan} {F : Kn} {z : Str} {k i j : Nat} {o : Int} (h : OnP q F z k i j o) (hi : q.ties.length ≤ i) (hj : q.posts.length ≤ j) : IsOn q F z k o :=
  ⟨h.pos, fun t ht => h.tie t (by rw [List.take_of_length_le hi]; exact ht), fun x hx => h.post x (by rw [List.take_of_length_le hj]; exact hx), h.from_⟩
section
variable {P : Program} {w : World} {K : PySem.W.Frag} {mg : Str → Option Value} {base : Heap}
theorem sc_law_onset : FnScope ["_law_plan_here", "_law_known", "_law_word", "_law_k", "_law_found", "_law_at", "_law_to", "_law_held", "_law_soon", "_law_told", "_law_post_here", "_law_many", "_law_clock"] ["_law_plan_here", "_law_known", "_law_word", "_law_k"] (defScope s_law_onset) := ⟨rfl, rfl, rfl, by decide +kernel, rfl, by decide +kernel, by decide +kernel⟩
theorem b_law_onset (E : Env K mg base) : Binds K (fdAt K (ga K "_law_onset")) ["_law_plan_here", "_law_known", "_law_word", "_law_k"] [] := (f_law_onset E).bindsN fun _ _ _ _ _ _ us hl => match us, hl with | [_, _, _, _], _ => rfl
def sp_onset (K : PySem.W.Frag) : Sp := fun vs H Q _ => ∃ (a D : Addr) (pl : Plan) (F : Kn) (n : Nat) (z : Str) (k : Nat), vs = [.ref a, .ref D, .str z, .int (k : Nat)] ∧ PlanAt H a pl ∧ PlanOk pl ∧ KnAt H D F n ∧
  (∀ x ∈ pl.posts, x.name = z → ∀ n, x.many = some n → n < k → ∃ p, F z (k - n) = some p) ∧
  (∀ H', Same H H' → (∃ t ∈ pl.ties, t.to = z ∧ t.held < k ∧ F t.at_ (k - t.held) = none) → Q .non H') ∧ ∀ H' (o : Int), Same H H' → IsOn pl F z k o → Q (.int o) H'
theorem ok_law_onset (E : Env K mg base) : FnOk P w K mg base CX0 1 (ga K "_law_onset") (fdAt K (ga K "_law_onset")) ["_law_plan_here", "_law_known", "_law_word", "_law_k"] ((sp_onset K)) := by
  refine okD (f_law_onset E) sc_law_onset (fun cdv A outer s H vs Q X hr h => ?_) (fun vs H Q X h => by obtain ⟨_, _, _, _, _, _, _, rfl, _⟩ := h; rfl)
  obtain ⟨a, D, pl, F, n, z, k, rfl, hPl, ok, hK, hB, q1, q2⟩ := h
  obtain ⟨lp, lt, lw, us, vs, ha, hlp, hlt, hlw, hus, hvs⟩ := id hPl
  have e3 : sizeLine = 16777216 := sizeLine_eq
  obtain ⟨kv0, hD0, _⟩ := id hK
  refine ⟨_, (pss_cons (ps_set (i := 4) sc_law_onset.nd rfl (Or.inl rfl) pe_int)
      (pss_cons (ps_for PassesOwn.never rfl (pi_list (pe_ix (ixL K) (pv 0) pe_int (fun _ _ => rfl))) (pg_tup rfl (pgs_cons (pg_name (i := 5) sc_law_onset.nd rfl (Or.inl rfl)) (pgs_cons (pg_name (i := 6) sc_law_onset.nd rfl (Or.inl rfl)) (pgs_cons (pg_name (i := 7) sc_law_onset.nd rfl (Or.inl rfl)) (pgs_cons (pg_name (i := 8) sc_law_onset.nd rfl (Or.inl rfl)) pgs_nil))))) (pss_one (ps_if (PW.pt (pw_and (pt_cmpR op_eq (pv 6) (pv 2) (nomark _)) (pw_and1 (pt_cmpR op_gt (pv 3) (pv 7) (nomark _))))) (pss_cons (ps_set (i := 9) sc_law_onset.nd rfl (Or.inl rfl) (pe_dget1 (hu_of hr) (pv 1) (pe_tup (pa_cons (pv 5) (pa_cons (pe_op op_sub (pv 3) (pv 7)) pa_nil))) (by constructor <;> rfl)))
      (pss_cons (ps_if (pt_cmpR op_isN (pv 9) pe_non (nomark _)) (pss_one (ps_ret pe_non)) pss_nil)
      (pss_one (ps_set (i := 4) sc_law_onset.nd rfl (Or.inl rfl) (pe_callB (call_max2 rfl) rfl (n_max E) boot_max (pa_cons (pv 4) (pa_cons (pe_ifExp (pt_val (pv 8)) (pe_ix (ixT K) (pv 9) pe_int (fun _ _ => rfl)) (pe_ix (ixT K) (pv 9) pe_int (fun _ _ => rfl))) pa_nil))))))) pss_nil)))
      (pss_cons (ps_for PassesOwn.never rfl (pi_list (pe_ix (ixL K) (pv 0) pe_int (fun _ _ => rfl))) (pg_tup rfl (pgs_cons (pg_name (i := 10) sc_law_onset.nd rfl (Or.inl rfl)) (pgs_cons (pg_name (i := 11) sc_law_onset.nd rfl (Or.inl rfl)) (pgs_cons (pg_name (i := 12) sc_law_onset.nd rfl (Or.inl rfl)) pgs_nil)))) (pss_one (ps_if (PW.pt (pw_and (pt_cmpR op_eq (pv 10) (pv 2) (nomark _)) (pw_and (pt_cmpR op_notN (pv 11) pe_non (nomark _)) (pw_and1 (pt_cmpR op_gt (pv 3) (pv 11) (nomark _)))))) (pss_one (ps_set (i := 4) sc_law_onset.nd rfl (Or.inl rfl) (pe_callB (call_max2 rfl) rfl (n_max E) boot_max (pa_cons (pv 4) (pa_cons (pe_ix (ixT K) (pe_dget (hu_of hr) (pv 1) (pe_tup (pa_cons (pv 2) (pa_cons (pe_op op_sub (pv 3) (pv 11)) pa_nil))) (fun _ _ => rfl)) pe_int (fun _ _ => rfl)) pa_nil))))) pss_nil)))
      (pss_one (ps_ret (pv 4)))))), ?_⟩
  refine ⟨_, rfl, a, _, 1, .ref lt, rfl, rfl, SqL.of ha, rfl, lt, rfl, ⟨_, SqL.of hlt⟩, ?_⟩
  refine for_it (walk_list (K := K) (a := lt) (xs := vs)) (fun i σ H' => Same H H' ∧ ∃ (o : Int) (v5 v6 v7 v8 v9 : Option V), σ = [some (.ref a), some (.ref D), some (.str z), some (.int (k : Nat)), some (.int o), v5, v6, v7, v8, v9, none, none, none] ∧ OnP pl F z k i 0 o) ⟨Same.refl _, 0, _, _, _, _, _, rfl, ⟨Int.le_refl 0, fun t h => by simp at h, fun t h => by simp at h, .inl rfl⟩⟩ (fun i σ H' _ h => SqL.of (h.1 _ _ hlt)) ?_ ?_
  · rintro i y σ H1 H2 hi ⟨s1, o, v5, v6, v7, v8, v9, rfl, hP⟩ ⟨rfl, hy⟩
    obtain ⟨x, ex, t, rfl, ht⟩ := pget hvs hy
    refine ⟨t, _, rfl, SqT.of (s1 _ _ ht), rfl, _, _, rfl, _, _, rfl, _, _, rfl, _, _, rfl, rfl, ?_⟩
    refine ⟨_, rfl, _, rfl, rfl, _, rfl, ?_⟩
    by_cases c : x.to = z
    · subst c
      refine ite_t (decide_eq_true rfl) ⟨_, rfl, _, rfl, _, _, rfl, rfl, _, rfl, ?_⟩
      by_cases c2 : x.held < k
      · refine ite_t (decide_eq_true (by omega)) ?_
        refine ⟨_, rfl, D, rfl, .inr ⟨kv0, .inl (s1 _ _ hD0)⟩, _, rfl, _, rfl, _, rfl, _, _, rfl, rfl, by show 2 ≤ sizeLine; omega, fun b hb => ?_⟩
        have s2 := sNew (o := .tup [.str x.at_, .int ((k : Nat) - (x.held : Nat))]) hb
        obtain ⟨kvs, hD, hv⟩ := (hK.mono (s1.trans s2)).look x.at_ (k - x.held)
        refine ⟨_, kn_key (k := k - x.held) hD upd_same (by omega), ?_⟩
        rcases hv with ⟨h1, h2⟩ | ⟨pr, tt, h1, h2, h3⟩
        · rw [h2]
          exact ⟨_, rfl, rfl, _, rfl, ite_t (b := decide (V.non = V.non)) rfl (q1 _ (s1.trans s2) ⟨x, List.mem_of_getElem? ex, rfl, c2, h1⟩)⟩
        · rw [h2]
          refine ⟨_, rfl, rfl, _, rfl, ite_f (b := decide (V.ref tt = V.non)) rfl ?_⟩
          refine ⟨_, rfl, _, rfl, _, rfl, if_both (fun v H' => v = .int (x.sel pr) ∧ H' = upd H2 b (.tup [.str x.at_, .int ((k : Nat) - (x.held : Nat))])) (fun cc Qx hQ => ?_) (fun cc Qx hQ => ?_) ?_⟩
          · exact ⟨_, rfl, tt, _, 0, .int pr.1, rfl, rfl, SqT.of h3, rfl, hQ _ _ ⟨by unfold Tie.sel; rw [if_pos cc], rfl⟩⟩
          · exact ⟨_, rfl, tt, _, 1, .int pr.2, rfl, rfl, SqT.of h3, rfl, hQ _ _ ⟨by unfold Tie.sel; rw [if_neg (by rw [cc]; exact Bool.false_ne_true)], rfl⟩⟩
          · rintro v H4 ⟨rfl, rfl⟩
            exact ⟨_, _, rfl, s1.trans s2, _, _, _, _, _, _, rfl, hP.addT ex ⟨rfl, c2, pr, h1, rfl⟩⟩
      · exact ite_f (decide_eq_false (by omega)) ⟨s1, o, _, _, _, _, _, rfl, hP.skipT ex (fun h => c2 h.2)⟩
    · refine ite_f (decide_eq_false (fun e => c (by injection e))) (ite_f rfl ⟨s1, o, _, _, _, _, _, rfl, hP.skipT ex (fun h => c h.1)⟩)
  · rintro σ H1 ⟨s1, o, v5, v6, v7, v8, v9, rfl, hP⟩
    refine ⟨_, rfl, a, _, 0, .ref lp, rfl, rfl, SqL.of (s1 _ _ ha), rfl, lp, rfl, ⟨_, SqL.of (s1 _ _ hlp)⟩, ?_⟩
    have htu := Paired.length hvs
    have hpu := Paired.length hus
    refine for_it (walk_list (K := K) (a := lp) (xs := us)) (fun i σ H' => Same H H' ∧ ∃ (o : Int) (v5 v6 v7 v8 v9 v10 v11 v12 : Option V), σ = [some (.ref a), some (.ref D), some (.str z), some (.int (k : Nat)), some (.int o), v5, v6, v7, v8, v9, v10, v11, v12] ∧ OnP pl F z k vs.length i o) ⟨s1, o, _, _, _, _, _, _, _, _, rfl, hP⟩ (fun i σ H' _ h => SqL.of (h.1 _ _ hlp)) ?_ ?_
    · rintro i y σ H2 H3 hi ⟨s2, o, v5, v6, v7, v8, v9, v10, v11, v12, rfl, hP⟩ ⟨rfl, hy⟩
      obtain ⟨x, ex, t, rfl, ht⟩ := pget hus hy
      have hx := List.mem_of_getElem? ex
      refine ⟨t, _, rfl, SqT.of (s2 _ _ ht), rfl, _, _, rfl, _, _, rfl, _, _, rfl, rfl, ?_⟩
      refine ⟨_, rfl, _, rfl, rfl, _, rfl, ?_⟩
      by_cases c : x.name = z
      · subst c
        refine ite_t (decide_eq_true rfl) ⟨_, rfl, rfl, _, rfl, ?_⟩
        cases em : x.many with
        | none =>
          exact ite_f (b := !decide (V.non = V.non)) rfl (ite_f rfl ⟨s2, o, _, _, _, _, _, _, _, _, rfl, hP.skipP ex (fun c ⟨_, n, e, _⟩ => by rw [em] at e; cases e)⟩)
        | some m =>
          refine ite_t (b := !decide (V.int m = V.non)) rfl ⟨_, rfl, _, rfl, _, _, rfl, rfl, _, rfl, ?_⟩
          by_cases c2 : m < k
          · refine ite_t (decide_eq_true (by omega)) ?_
            refine ⟨_, rfl, _, rfl, _, rfl, _, rfl, _, rfl, _, _, rfl, rfl, by show 2 ≤ sizeLine; omega, fun b hb => ?_⟩
            have s3 := sNew (o := .tup [.str x.name, .int ((k : Nat) - (m : Nat))]) hb
            obtain ⟨kvs, hD, hv⟩ := (hK.mono (s2.trans s3)).look x.name (k - m)
            obtain ⟨pr, hpr⟩ := hB x hx rfl m em c2
            rcases hv with ⟨h1, h2⟩ | ⟨pr', tt, h1, h2, h3⟩
            · rw [hpr] at h1; cases h1
            · have g := kn_key (k := k - m) hD (upd_same (H := H3) (a := b) (o := .tup [.str x.name, .int ((k : Nat) - (m : Nat))])) (by omega)
              rw [h2] at g
              refine ⟨D, _, rfl, g, tt, _, 1, .int pr'.2, rfl, rfl, SqT.of h3, rfl, _, _, rfl, ?_⟩
              refine ⟨s2.trans s3, _, _, _, _, _, _, _, _, _, rfl, hP.addP ex ⟨rfl, m, em, c2, pr', h1, rfl⟩ fun d ⟨_, n', e', _, p', e2, e3⟩ => ?_⟩
              rw [em] at e'
              obtain rfl := Option.some.inj e'
              rw [h1] at e2
              obtain rfl := Option.some.inj e2
              exact e3
          · exact ite_f (decide_eq_false (by omega)) ⟨s2, o, _, _, _, _, _, _, _, _, rfl, hP.skipP ex (fun c ⟨_, n', e, l, _⟩ => by rw [em] at e; cases e; exact c2 l)⟩
      · exact ite_f (decide_eq_false (fun e => c (by injection e))) (ite_f rfl ⟨s2, o, _, _, _, _, _, _, _, _, rfl, hP.skipP ex (fun _ h => c h.1)⟩)
    · rintro σ H2 ⟨s2, o, v5, v6, v7, v8, v9, v10, v11, v12, rfl, hP⟩
      exact ⟨_, rfl, q2 H2 o s2 (hP.isOn (by omega) (by omega))⟩
end
end Own
set_option Elab.async false
set_option linter.all false
set_option maxRecDepth 100000
set_option maxHeartbeats 4000000
/-! the law's own play: one work settled -/
namespace Own
open PySem PySem.Spec PyProof.Rows L2 He OwnR
/-- the dict at D tells the times -/
def TakAt (H : Hp) (D : Addr) (T : Str → Nat → Nat) : Prop := ∃ kvs : List (List Key × V), H D = some (.dT kvs) ∧ ∀ z k, (valV kvs (kk z k)).getD (.int 0) = .int ((T z k : Nat) : Int)
theorem TakAt.mono {H H' : Hp} {D : Addr} {T : Str → Nat → Nat} (h : TakAt H D T) (g : Same H H') : TakAt H' D T := by
  obtain ⟨kvs, h1, h2⟩ := h
  exact ⟨kvs, g _ _ h1, h2⟩
theorem pf_dict {D a : Addr} {H H' : Hp} {o o' : HO} (f : PF D H H') (hD : H D = some o) (h : H a = some o') (n : o' ≠ o) : H' a = some o' := f a o' (fun e => n (by rw [e, hD] at h; exact (Option.some.inj h).symm)) h
theorem PlanAt.pfD {H H' : Hp} {a D : Addr} {q : Plan} {kvs : List (List Key × V)} (h : PlanAt H a q) (f : PF D H H') (hD : H D = some (.dT kvs)) : PlanAt H' a q := by
  obtain ⟨lp, lt, lw, us, vs, h1, h2, h3, h4, h5, h6⟩ := h
  have g : ∀ c o, H c = some o → (∀ k, o ≠ .dT k) → H' c = some o := fun c o e n => pf_dict f hD e (n _)
  refine ⟨lp, lt, lw, us, vs, g _ _ h1 (fun _ z => by cases z), g _ _ h2 (fun _ z => by cases z), g _ _ h3 (fun _ z => by cases z), g _ _ h4 (fun _ z => by cases z), paired_imp h5 fun x v ⟨t, e, h⟩ => ⟨t, e, g _ _ h (fun _ z => by cases z)⟩, paired_imp h6 fun x v ⟨t, e, h⟩ => ⟨t, e, g _ _ h (fun _ z => by cases z)⟩⟩
theorem TakAt.pfD {H H' : Hp} {D E : Addr} {T : Str → Nat → Nat} (h : TakAt H E T) (f : PF D H H') (ne : E ≠ D) : TakAt H' E T := by
  obtain ⟨kvs, h1, h2⟩ := h
  exact ⟨kvs, f _ _ ne h1, h2⟩
theorem KnAt.put {H : Hp} {D t : Addr} {F : Kn} {n : Nat} {kvs : List (List Key × V)} {z : Str} {k : Nat} {b : Int × Int} (h : KnAt H D F n) (hD : H D = some (.dT kvs)) (hn : F z k = none) (ht : H t = some (.tup [.int b.1, .int b.2])) : KnAt (upd H D (.dT (putK kvs (kk z k) (.ref t)))) D (putKn F z k b) (n + 1) := by
  obtain ⟨kvs', h1, h2, h3, h4⟩ := h
  rw [hD] at h1
  obtain rfl : kvs = kvs' := by injection h1 with h1; injection h1
  have up : ∀ c xs, H c = some (.tup xs) → upd H D (.dT (putK kvs (kk z k) (.ref t))) c = some (.tup xs) := fun c xs e => by
    rw [upd_ne (fun e2 => by rw [e2, hD] at e; cases e)]; exact e
  refine ⟨_, upd_same, Nat.le_trans (putK_len' _ _ _) (by omega), fun p hp => ?_, fun w j c e => ?_⟩
  · rcases mem_putK hp with hp | rfl
    · obtain ⟨w, j, u, c, a1, a2, a3, a4⟩ := h3 p hp
      refine ⟨w, j, u, c, a1, a2, up _ _ a3, ?_⟩
      rw [putKn_ne]
      · exact a4
      · rintro ⟨rfl, rfl⟩
        rw [hn] at a4; cases a4
    · exact ⟨z, k, t, b, rfl, rfl, up _ _ ht, putKn_same⟩
  · rw [valV_put]
    by_cases c2 : w = z ∧ j = k
    · obtain ⟨rfl, rfl⟩ := c2
      rw [putKn_same] at e
      cases e
      exact ⟨t, by rw [if_pos rfl], up _ _ ht⟩
    · rw [putKn_ne c2] at e
      obtain ⟨u, a1, a2⟩ := h4 w j c e
      refine ⟨u, ?_, up _ _ a2⟩
      rw [if_neg (fun e2 => c2 (kk_inj e2)), a1]
theorem filt_first {n : Nat} {keep : Nat → Bool} {f : Nat → V} {i : Nat} (hi : i < n) (hk : keep i = true) : ∃ j, j < n ∧ keep j = true ∧ atI (((List.range n).filter keep).map f) 0 = some (f j) := by
  have hm : i ∈ (List.range n).filter keep := List.mem_filter.mpr ⟨List.mem_range.mpr hi, hk⟩
  cases e : (List.range n).filter keep with
  | nil => rw [e] at hm; cases hm
  | cons j l =>
    have hj : j ∈ (List.range n).filter keep := by rw [e]; exact List.mem_cons_self
    obtain ⟨h1, h2⟩ := List.mem_filter.mp hj
    exact ⟨j, List.mem_range.mp h1, h2, atNa (n := 0) rfl rfl⟩
theorem post_one {q : Plan} (ok : PlanOk q) {i j : Nat} {x y : Post} (h1 : q.posts[i]? = some x) (h2 : q.posts[j]? = some y) (e : x.name = y.name) : x = y := by
  have nd : (q.posts.map Post.name).Nodup := ok.perm.nodup_iff.mpr ok.nd
  have hi : i < (q.posts.map Post.name).length := by rw [List.length_map]; exact (List.getElem?_eq_some_iff.mp h1).1
  have := (List.getElem?_inj (i := i) (j := j) hi nd).mp (by rw [List.getElem?_map, List.getElem?_map, h1, h2]; exact congrArg some e)
  subst this
  rw [h1] at h2
  exact Option.some.inj h2
section
variable {P : Program} {w : World} {K : PySem.W.Frag} {mg : Str → Option Value} {base : Heap}
theorem sc_law_settled : FnScope ["_law_plan_here", "_law_taken", "_law_known", "_law_word", "_law_k", "_law_onset_here", "_law_clock", "_law_post_here"] ["_law_plan_here", "_law_taken", "_law_known", "_law_word", "_law_k"] (defScope s_law_settled) := ⟨rfl, rfl, rfl, by decide +kernel, rfl, by decide +kernel, by decide +kernel⟩
theorem b_law_settled (E : Env K mg base) : Binds K (fdAt K (ga K "_law_settled")) ["_law_plan_here", "_law_taken", "_law_known", "_law_word", "_law_k"] [] := (f_law_settled E).bindsN fun _ _ _ _ _ _ us hl => match us, hl with | [_, _, _, _, _], _ => rfl
def sp_settled (K : PySem.W.Frag) : Sp := fun vs H Q _ => ∃ (a tk D : Addr) (pl : Plan) (T : Str → Nat → Nat) (F : Kn) (n : Nat) (z : Str) (k : Nat), vs = [.ref a, .ref tk, .ref D, .str z, .int (k : Nat)] ∧ PlanAt H a pl ∧ PlanOk pl ∧ TakAt H tk T ∧ KnAt H D F n ∧ n ≤ 1000 ∧ z ∈ pl.words ∧
  (∀ j, 1 ≤ j → j < k → ∃ p, F z j = some p) ∧ F z k = none ∧
  (∀ H', Same H H' → (∃ t ∈ pl.ties, t.to = z ∧ t.held < k ∧ F t.at_ (k - t.held) = none) → Q (.bl false) H') ∧
  ∀ H' (o : Int) (d : Nat), PF D H H' → KnAt H' D (putKn F z k (o, o + (d : Int))) (n + 1) → IsOn pl F z k o → (Clk pl z → d = T z k) → (¬ Clk pl z → d = 0) → Q (.bl true) H'
theorem ok_law_settled (E : Env K mg base) : FnOk P w K mg base CX0 2 (ga K "_law_settled") (fdAt K (ga K "_law_settled")) ["_law_plan_here", "_law_taken", "_law_known", "_law_word", "_law_k"] ((sp_settled K)) := by
  refine okD (f_law_settled E) sc_law_settled (fun cdv A outer s H vs Q X hr h => ?_) (fun vs H Q X h => by obtain ⟨_, _, _, _, _, _, _, _, _, rfl, _⟩ := h; rfl)
  obtain ⟨a, tk, D, pl, T, F, n, z, k, rfl, hPl, ok, hT, hK, hn, hz, hB, hN, q1, q2⟩ := h
  obtain ⟨lp, lt, lw, us, vs, ha, hlp, hlt, hlw, hus, hvs⟩ := id hPl
  have e3 : sizeLine = 16777216 := sizeLine_eq
  have hpu := Paired.length hus
  have hpl : pl.posts.length ≤ 4 := by
    have h1 := ok.perm.length_eq
    rw [List.length_map] at h1
    have := ok.w4
    omega
  refine ⟨_, (pss_cons (ps_set (i := 5) sc_law_settled.nd rfl (Or.inl rfl) (pe_call (ok_law_onset E) (hr.mono (by decide)) rfl (g_law_onset E) (f_law_onset E).kp (b_law_onset E) .nil pass0 (pa_cons (pv 0) (pa_cons (pv 2) (pa_cons (pv 3) (pa_cons (pv 4) pa_nil))))))
      (pss_cons (ps_if (pt_cmpR op_isN (pv 5) pe_non (nomark _)) (pss_one (ps_ret pe_bl)) pss_nil)
      (pss_cons (ps_set (i := 6) sc_law_settled.nd rfl (Or.inl rfl) (pe_ix (ixL K) (pe_lc (own := [("_law_post_here", 7)]) (g := (gName 7)) rfl sc_law_settled.nd (pi_list (pe_ix (ixL K) (pv 0) pe_int (fun _ _ => rfl))) (blkOk_by (own := [("_law_post_here", 7)]) (N := (["_law_plan_here", "_law_taken", "_law_known", "_law_word", "_law_k", "_law_onset_here", "_law_clock", "_law_post_here"] : List Str)) (sc := defScope s_law_settled) (by decide +kernel)) (fun _ _ _ _ _ => (pg_name (i := 7) sc_law_settled.nd rfl (Or.inl rfl))) (fun _ _ _ _ _ => (pts_one (pt_cmpR op_eq (pe_ix (ixT K) (pv 7) pe_int (fun _ _ => rfl)) (pv 3) (nomark _)))) (fun _ _ _ _ _ => (pe_ix (ixT K) (pv 7) pe_int (fun _ _ => rfl)))) pe_int (fun _ _ => rfl)))
      (pss_cons (ps_dput (hu_of hr) (pv 2) (pe_tup (pa_cons (pv 3) (pa_cons (pv 4) pa_nil))) (pe_tup (pa_cons (pv 5) (pa_cons (pe_op op_add (pv 5) (pe_ifExp (pt_val (pv 6)) (pe_dget2 (hu_of hr) (pv 1) (pe_tup (pa_cons (pv 3) (pa_cons (pv 4) pa_nil))) pe_int (by constructor <;> rfl)) pe_int)) pa_nil))) rfl)
      (pss_one (ps_ret pe_bl)))))), ?_⟩
  refine ⟨_, rfl, _, rfl, _, rfl, _, rfl, a, D, pl, F, n, z, k, rfl, hPl, ok, hK, fun x hx e1 m e2 e3 => hB _ (by omega) (by have := (ok.many x hx m e2).1; omega), fun H1 s1 hne => ?_, fun H1 o s1 hon => ?_⟩
  · exact ⟨_, rfl, rfl, _, rfl, ite_t (b := decide (V.non = V.non)) rfl (q1 _ s1 hne)⟩
  · refine ⟨_, rfl, rfl, _, rfl, ite_f (b := decide (V.int o = V.non)) rfl ?_⟩
    refine ⟨_, rfl, a, _, 0, .ref lp, rfl, rfl, SqL.of (s1 _ _ ha), rfl, lp, rfl, ⟨_, SqL.of (s1 _ _ hlp)⟩, fun E1 hE1 => ?_⟩
    refine lc_map (walk_list (K := K) (a := lp) (xs := us)) hE1 (fun i => .bl ((pl.posts[i]?.map Post.clock).getD false)) (fun i => decide (pl.posts[i]?.map Post.name = some z)) (by omega) (fun H s => SqL.of (s _ _ (s1 _ _ hlp))) ?_ ?_
    · rintro i y H2 H3 Nk Ns hi s2 ⟨rfl, hy⟩ k1 k2
      obtain ⟨x, ex, t, rfl, ht⟩ := pget hus hy
      rw [ex] at k1 k2
      have ht3 := SqT.of (K := K) (s2 _ _ (s1 _ _ ht))
      refine ⟨rfl, _, rfl, t, _, 0, .str x.name, rfl, rfl, ht3, rfl, _, rfl, rfl, _, rfl, ?_⟩
      by_cases c : x.name = z
      · subst c
        refine ite_t (decide_eq_true rfl) ?_
        exact ⟨_, rfl, t, _, 2, .bl x.clock, rfl, rfl, ht3, rfl, k1 (decide_eq_true rfl) _ (Same.refl _)⟩
      · exact ite_f (decide_eq_false (fun e => c (by injection e))) (k2 (decide_eq_false (fun e => c (Option.some.inj e))) _ (Same.refl _))
    · intro H2 s2 h2
      obtain ⟨i0, hi0, e0⟩ := List.mem_iff_getElem.mp (ok.perm.mem_iff.mpr hz)
      rw [List.length_map] at hi0
      rw [List.getElem_map] at e0
      obtain ⟨j, hj, kj, ej⟩ := filt_first (n := us.length) (keep := fun i => decide (pl.posts[i]?.map Post.name = some z)) (f := fun i => .bl ((pl.posts[i]?.map Post.clock).getD false)) (i := i0) (by omega) (decide_eq_true (by rw [List.getElem?_eq_getElem hi0]; exact congrArg some e0))
      have hj' : j < pl.posts.length := by omega
      have kj' := of_decide_eq_true kj
      rw [List.getElem?_eq_getElem hj'] at kj' ej
      have hnm : pl.posts[j].name = z := Option.some.inj kj'
      have s12 := s1.trans s2
      refine ⟨E1, _, _, .bl pl.posts[j].clock, rfl, rfl, SqL.of h2, ej, ?_⟩
      have hclk : Clk pl z ↔ pl.posts[j].clock = true := by
        constructor
        · rintro ⟨x, hx, e1, e2⟩
          obtain ⟨i, hi, e⟩ := List.mem_iff_getElem.mp hx
          have := post_one ok (i := i) (j := j) (x := x) (y := pl.posts[j]) (by rw [List.getElem?_eq_getElem hi, e]) (List.getElem?_eq_getElem hj') (by rw [e1, hnm])
          rw [← this]; exact e2
        · intro h
          exact ⟨pl.posts[j], List.getElem_mem hj', hnm, h⟩
      refine ⟨_, rfl, _, rfl, _, rfl, _, rfl, if_both (fun v H' => ∃ d : Nat, v = .int (d : Nat) ∧ Same H2 H' ∧ (Clk pl z → d = T z k) ∧ (¬ Clk pl z → d = 0)) (fun cc Qx hQ => ?_) (fun cc Qx hQ => ?_) ?_⟩
      · obtain ⟨kt, hkt, het⟩ := hT.mono s12
        refine ⟨_, rfl, tk, rfl, .inr ⟨kt, .inl hkt⟩, _, rfl, _, rfl, by show 2 ≤ sizeLine; omega, fun b hb => ⟨_, kn_key (k := k) (sNew hb _ _ hkt) upd_same rfl, ?_⟩⟩
        refine hQ _ _ ⟨T z k, het z k, sNew hb, fun _ => rfl, fun h => absurd (hclk.mpr cc) h⟩
      · exact hQ _ _ ⟨0, rfl, Same.refl _, fun h => absurd ((hclk.mp h).symm.trans cc) (by decide), fun _ => rfl⟩
      · rintro v H3 ⟨d, rfl, s3, d1, d2⟩
        refine ⟨_, _, rfl, rfl, by show 2 ≤ sizeLine; omega, fun t ht => ?_⟩
        have s4 := sNew (o := .tup [.int o, .int (o + (d : Nat))]) ht
        refine ⟨_, rfl, _, rfl, _, rfl, by show 2 ≤ sizeLine; omega, fun b hb => ?_⟩
        have s5 := sNew (o := .tup [.str z, .int (k : Nat)]) hb
        have s05 := ((s12.trans s3).trans s4).trans s5
        have hK5 := hK.mono s05
        obtain ⟨kvs, hD5, hl5, h5⟩ := id hK5
        refine ⟨D, _, rfl, DPut.t (k := kk z k) hD5 upd_same (by omega), ?_⟩
        exact q2 _ o d ((PF.of s05).trans PF.upd) (hK5.put (b := (o, o + (d : Int))) hD5 hN (s5 _ _ upd_same)) hon d1 d2
end
end Own
set_option Elab.async false
set_option linter.all false
set_option maxRecDepth 100000
set_option maxHeartbeats 4000000
/-! the law's own play: all works -/
namespace Own
open PySem PySem.Spec PyProof.Rows L2 He OwnR
theorem dpall_str {K : PySem.W.Frag} {H : Hp} : ∀ bs : List Str, DpAll K H (bs.map V.str) (bs.map PyData.str)
  | [] => .nil
  | b :: bs => .cons (.str b) (dpall_str bs)
theorem menu_so : ∀ z ∈ menuL, PyData.strOk z = true := by decide +kernel
theorem lay_strs : ∀ bs : List Str, (∀ b ∈ bs, b ∈ menuL) → PyData.canLayAll0 (bs.map PyData.str) = true
  | [], _ => by simp [PyData.canLayAll0]
  | b :: bs, h => by simp [PyData.canLayAll0, PyData.canLay0, menu_so b (h b List.mem_cons_self), lay_strs bs fun y hy => h y (List.mem_cons_of_mem _ hy)]
theorem depth_strs : ∀ bs : List Str, PyData.depthAll (bs.map PyData.str) = 0
  | [] => by simp [PyData.depthAll]
  | b :: bs => by simp [PyData.depthAll, PyData.depth, depth_strs bs]
theorem shaped_strs (bs : List Str) (h : ∀ b ∈ bs, b ∈ menuL) : SeqAt.shaped (.list (bs.map PyData.str)) = true := by
  simp [SeqAt.shaped, PyData.canLay0, PyData.depth, lay_strs bs h, depth_strs]
theorem eqv_strs_nil (bs : List Str) : PyData.eqv (.list (bs.map PyData.str)) (.list (([] : List Str).map PyData.str)) = decide (bs = []) := by
  cases bs with
  | nil => rfl
  | cons b bs => rfl
theorem KnAt.monoI {H H' : Hp} {D : Addr} {F : Kn} {n : Nat} (h : KnAt H D F n) (g : SameI H H') : KnAt H' D F n := by
  obtain ⟨kvs, h1, h2, h3, h4⟩ := h
  refine ⟨kvs, g _ _ h1 rfl, h2, fun p hp => ?_, fun z k b e => ?_⟩
  · obtain ⟨z, k, t, b, a1, a2, a3, a4⟩ := h3 p hp
    exact ⟨z, k, t, b, a1, a2, g _ _ a3 rfl, a4⟩
  · obtain ⟨t, a1, a2⟩ := h4 z k b e
    exact ⟨t, a1, g _ _ a2 rfl⟩
theorem KnAt.up {H : Hp} {D : Addr} {F : Kn} {n m : Nat} (h : KnAt H D F n) (l : n ≤ m) : KnAt H D F m := by
  obtain ⟨kvs, h1, h2, h3⟩ := h
  exact ⟨kvs, h1, Nat.le_trans h2 l, h3⟩
/-- the works of the numbers up to i are known, and those with number i + 1 that are not left -/
def PartK (q : Plan) (F : Kn) (i : Nat) (ls : List Str) : Prop := ∀ z k, (F z k).isSome = true ↔ (z ∈ q.words ∧ 1 ≤ k ∧ (k ≤ i ∨ (k = i + 1 ∧ z ∉ ls)))
theorem least_at (rk : Str → Nat) : ∀ ls : List Str, ls ≠ [] → ∃ z ∈ ls, ∀ y ∈ ls, rk z ≤ rk y
  | [], h => absurd rfl h
  | [a], _ => ⟨a, List.mem_cons_self, fun y hy => by rw [List.mem_singleton.mp hy]; exact Nat.le_refl _⟩
  | a :: b :: ls, _ => by
    obtain ⟨z, hz, h⟩ := least_at rk (b :: ls) (by simp)
    by_cases c : rk a ≤ rk z
    · refine ⟨a, List.mem_cons_self, fun y hy => ?_⟩
      rcases List.mem_cons.mp hy with rfl | hy
      · exact Nat.le_refl _
      · exact Nat.le_trans c (h y hy)
    · refine ⟨z, List.mem_cons_of_mem _ hz, fun y hy => ?_⟩
      rcases List.mem_cons.mp hy with rfl | hy
      · omega
      · exact h y hy
theorem PartK.done {q : Plan} {F : Kn} {i : Nat} (h : PartK q F i []) : FullK q F (i + 1) := fun z k => by
  rw [h z k]
  constructor
  · rintro ⟨a, b, c⟩
    refine ⟨a, b, ?_⟩
    rcases c with c | ⟨c, _⟩ <;> omega
  · rintro ⟨a, b, c⟩
    refine ⟨a, b, ?_⟩
    rcases Nat.lt_or_ge i k with d | d
    · exact .inr ⟨by omega, List.not_mem_nil⟩
    · exact .inl d
theorem PartK.start {q : Plan} {F : Kn} {i : Nat} {ls : List Str} (h : FullK q F i) (hl : ∀ z ∈ q.words, z ∈ ls) : PartK q F i ls := fun z k => by
  rw [h z k]
  constructor
  · rintro ⟨a, b, c⟩
    exact ⟨a, b, .inl c⟩
  · rintro ⟨a, b, c⟩
    refine ⟨a, b, ?_⟩
    rcases c with c | ⟨_, c⟩
    · exact c
    · exact absurd (hl z a) c
theorem PartK.iff {q : Plan} {F : Kn} {i : Nat} {ls ms : List Str} (h : PartK q F i ls) (e : ∀ z, z ∈ ls ↔ z ∈ ms) : PartK q F i ms := fun z k => by
  rw [h z k, e z]
theorem PartK.put {q : Plan} {F : Kn} {i : Nat} {ls ms : List Str} {z : Str} {p : Int × Int} (h : PartK q F i ls) (hz : z ∈ q.words) (e : ∀ y, y ∈ ms ↔ (y ∈ ls ∧ y ≠ z)) : PartK q (putKn F z (i + 1) p) i ms := fun w k => by
  by_cases c : w = z ∧ k = i + 1
  · obtain ⟨rfl, rfl⟩ := c
    rw [putKn_same]
    exact ⟨fun _ => ⟨hz, by omega, .inr ⟨rfl, fun hm => ((e w).mp hm).2 rfl⟩⟩, fun _ => rfl⟩
  · rw [putKn_ne c, h w k]
    constructor
    · rintro ⟨a, b, d⟩
      refine ⟨a, b, ?_⟩
      rcases d with d | ⟨d1, d2⟩
      · exact .inl d
      · exact .inr ⟨d1, fun hm => d2 ((e w).mp hm).1⟩
    · rintro ⟨a, b, d⟩
      refine ⟨a, b, ?_⟩
      rcases d with d | ⟨d1, d2⟩
      · exact .inl d
      · refine .inr ⟨d1, fun hm => d2 ((e w).mpr ⟨hm, fun e2 => c ⟨e2, d1⟩⟩)⟩
/-- the least one left can be settled -/
theorem PartK.can {q : Plan} {F : Kn} {i : Nat} {ls ms : List Str} {z : Str} (ok : PlanOk q) (h : PartK q F i ms) (hs : ∀ y ∈ ms, y ∈ ls) (hl : ∀ y ∈ ls, rkW q.words z ≤ rkW q.words y) : ¬ ∃ t ∈ q.ties, t.to = z ∧ t.held < i + 1 ∧ F t.at_ (i + 1 - t.held) = none := by
  rintro ⟨t, ht, rfl, h1, h2⟩
  have ha : t.at_ ∈ q.words := by
    obtain ⟨a, b, e, _⟩ := ok.ties t ht
    exact List.mem_of_getElem? e
  have : (F t.at_ (i + 1 - t.held)).isSome = true := by
    rw [h]
    refine ⟨ha, by omega, ?_⟩
    by_cases c : t.held = 0
    · refine .inr ⟨by omega, fun hm => ?_⟩
      have r1 := TieOk.up ok ht c
      have r2 := hl _ (hs _ hm)
      omega
    · exact .inl (by omega)
  rw [h2] at this
  cases this
def leftN (H : Hp) : Option V → Nat
  | some (.ref l) => (match H l with
    | some (.lst xs) => xs.length
    | _ => 0)
  | _ => 0
theorem leftN_at {H : Hp} {l : Addr} {xs : List V} (h : H l = some (.lst xs)) : leftN H (some (.ref l)) = xs.length := by
  show (match H l with
    | some (.lst xs) => xs.length
    | _ => 0) = _
  rw [h]
theorem sub_lt {ls acc : List Str} {z : Str} (h : acc.Sublist ls) (hz : z ∈ ls) (hn : z ∉ acc) : acc.length < ls.length := by
  rcases Nat.lt_or_ge acc.length ls.length with c | c
  · exact c
  · have := h.eq_of_length (Nat.le_antisymm h.length_le c)
    subst this
    exact absurd hz hn
theorem drop_at {α : Type} {l : List α} {m : Nat} {z : α} (h : l[m]? = some z) : l.drop m = z :: l.drop (m + 1) := by
  obtain ⟨h1, h2⟩ := List.getElem?_eq_some_iff.mp h
  rw [List.drop_eq_getElem_cons h1, h2]
theorem names_list {l : List Post} {n : Nat} (e : n = l.length) : (((List.range n).filter fun _ => true).map fun i => match l[i]? with | some x => V.str x.name | none => .non) = (l.map Post.name).map V.str := by
  subst e
  rw [filter_true]
  apply List.ext_getElem?
  intro i
  rw [List.getElem?_map, List.getElem?_map, List.getElem?_map]
  rcases Nat.lt_or_ge i l.length with c | c
  · rw [List.getElem?_range c, List.getElem?_eq_getElem c]
    show some (match l[i]? with | some x => V.str x.name | none => .non) = _
    rw [List.getElem?_eq_getElem c]; rfl
  · rw [List.getElem?_eq_none (by rw [List.length_range]; exact c), List.getElem?_eq_none c]; rfl
section
variable {P : Program} {w : World} {K : PySem.W.Frag} {mg : Str → Option Value} {base : Heap}
theorem sc_law_played : FnScope ["_law_plan_here", "_law_taken", "_law_most", "_law_known", "_law_k", "_law_left", "_law_post_here", "_law_word"] ["_law_plan_here", "_law_taken", "_law_most"] (defScope s_law_played) := ⟨rfl, rfl, rfl, by decide +kernel, rfl, by decide +kernel, by decide +kernel⟩
theorem b_law_played (E : Env K mg base) : Binds K (fdAt K (ga K "_law_played")) ["_law_plan_here", "_law_taken", "_law_most"] [] := (f_law_played E).bindsN fun _ _ _ _ _ _ us hl => match us, hl with | [_, _, _], _ => rfl
def sp_played (K : PySem.W.Frag) : Sp := fun vs H Q _ => ∃ (a tk : Addr) (pl : Plan) (T : Str → Nat → Nat) (N : Nat), vs = [.ref a, .ref tk, .int (N : Nat)] ∧ PlanAt H a pl ∧ PlanOk pl ∧ TakAt H tk T ∧ N ≤ 8 ∧
  ∀ D H' F, Same H H' → KnAt H' D F 1000 → RecK pl T F → FullK pl F N → Q (.ref D) H'
theorem ok_law_played (E : Env K mg base) : FnOk P w K mg base CX0 3 (ga K "_law_played") (fdAt K (ga K "_law_played")) ["_law_plan_here", "_law_taken", "_law_most"] ((sp_played K)) := by
  refine okD (f_law_played E) sc_law_played (fun cdv A outer s H vs Q X hr h => ?_) (fun vs H Q X h => by obtain ⟨_, _, _, _, _, rfl, _⟩ := h; rfl)
  obtain ⟨a, tk, pl, T, N, rfl, hPl, ok, hT, hN, q⟩ := h
  obtain ⟨lp, lt, lw, us, vs, ha, hlp, hlt, hlw, hus, hvs⟩ := id hPl
  have e3 : sizeLine = 16777216 := sizeLine_eq
  have hpu := Paired.length hus
  have hpl : pl.posts.length ≤ 4 := by
    have h1 := ok.perm.length_eq
    rw [List.length_map] at h1
    have := ok.w4
    omega
  refine ⟨_, (pss_cons (ps_set (i := 3) sc_law_played.nd rfl (Or.inr rfl) pe_dnewT)
      (pss_cons (ps_for PassesOwn.never rfl (pi_range2 rfl (n_range E) (pa_cons pe_int (pa_cons (pe_op op_add (pv 2) pe_int) pa_nil))) (pg_name (i := 4) sc_law_played.nd rfl (Or.inr rfl)) (pss_cons (ps_setLc (i := 5) (own := [("_law_post_here", 6)]) (g := (gName 6)) rfl sc_law_played.nd rfl rfl (sw_true rfl rfl rfl (by decide +kernel)) (pi_list (pe_ix (ixL K) (pv 0) pe_int (fun _ _ => rfl))) (blkOk_by (own := [("_law_post_here", 6)]) (N := (["_law_plan_here", "_law_taken", "_law_most", "_law_known", "_law_k", "_law_left", "_law_post_here", "_law_word"] : List Str)) (sc := defScope s_law_played) (by decide +kernel)) (fun _ _ _ _ _ => (pg_name (i := 6) sc_law_played.nd rfl (Or.inl rfl))) (fun _ _ _ _ _ => pts_nil) (fun _ _ _ _ _ => (pe_ix (ixT K) (pv 6) pe_int (fun _ _ => rfl))))
      (pss_one (ps_while PassesOwn.never (pt_cmpR (neDK K hr.units) (pv 5) (pe_lst pa_nil) (nomark _)) (pss_one (ps_setLc (i := 5) (own := [("_law_word", 7)]) (g := (gName 7)) rfl sc_law_played.nd rfl rfl (sw_true rfl rfl rfl (by decide +kernel)) (pi_list (pv 5)) (blkOk_by (own := [("_law_word", 7)]) (N := (["_law_plan_here", "_law_taken", "_law_most", "_law_known", "_law_k", "_law_left", "_law_post_here", "_law_word"] : List Str)) (sc := defScope s_law_played) (by decide +kernel)) (fun _ _ _ _ _ => (pg_name (i := 7) sc_law_played.nd rfl (Or.inl rfl))) (fun _ _ _ _ _ => (pts_one (pt_not (pt_val (pe_call (ok_law_settled E) (hr.mono (by decide)) rfl (g_law_settled E) (f_law_settled E).kp (b_law_settled E) .nil pass0 (pa_cons (pv 0) (pa_cons (pv 1) (pa_cons (pv 3) (pa_cons (pv 7) (pa_cons (pv 4) pa_nil)))))))))) (fun _ _ _ _ _ => (pv 7))))))))
      (pss_one (ps_ret (pv 3))))), ?_⟩
  refine fun D hD => ?_
  have s0 := sNew (o := .dT []) hD
  refine ⟨_, rfl, _, _, rfl, rfl, _, _, rfl, ?_⟩
  refine ⟨by omega, ?_⟩
  have eN : ((N : Nat) + 1 - 1 : Int).toNat = N := by omega
  rw [eN]
  refine for_it (walk_range (lo := 1) (n := N)) (fun i σ H' => Same H H' ∧ ∃ (F : Kn) (v4 v5 v6 v7 : Option V), σ = [some (.ref a), some (.ref tk), some (.int (N : Nat)), some (.ref D), v4, v5, v6, v7] ∧ KnAt H' D F (i * 4) ∧ RecK pl T F ∧ FullK pl F i) ⟨s0, (fun _ _ => none), _, _, _, _, rfl, ⟨[], upd_same, by show 0 ≤ _; omega, (fun p hp => nomatch hp), (fun z k b e => by cases e)⟩, ⟨(fun _ _ _ e => by cases e), (fun _ _ _ e => by cases e), (fun _ _ _ _ e => by cases e)⟩, fun z k => ⟨(fun e => by cases e), fun ⟨_, h1, h2⟩ => by omega⟩⟩ (fun _ _ _ _ _ => trivial) ?_ ?_
  · rintro i y σ H1 H2 hi ⟨s1, F, v4, v5, v6, v7, rfl, hK, hR, hF⟩ ⟨rfl, rfl⟩
    have ei : (1 : Int) + (i : Nat) = ((i + 1 : Nat) : Int) := by omega
    refine ⟨_, rfl, a, _, 0, .ref lp, rfl, rfl, SqL.of (s1 _ _ ha), rfl, lp, rfl, ⟨_, SqL.of (s1 _ _ hlp)⟩, fun l0 hl0 => ?_⟩
    refine lc_map (walk_list (K := K) (a := lp) (xs := us)) hl0 (fun i => match pl.posts[i]? with | some x => .str x.name | none => .non) (fun _ => true) (by omega) (fun H s => SqL.of (s _ _ (s1 _ _ hlp))) ?_ ?_
    · rintro j y H3 H4 Nk Ns hj s3 ⟨rfl, hy⟩ k1 k2
      obtain ⟨x, ex, t, rfl, ht⟩ := pget hus hy
      rw [ex] at k1
      exact ⟨rfl, tyes_if ⟨_, rfl, t, _, 0, .str x.name, rfl, rfl, SqT.of (s3 _ _ (s1 _ _ ht)), rfl, k1 rfl _ (Same.refl _)⟩⟩
    intro H3 s3 h3
    rw [names_list hpu.symm] at h3
    have s13 := s1.trans s3
    have nd0 : (pl.posts.map Post.name).Nodup := ok.perm.nodup_iff.mpr ok.nd
    show tWhile _ _ _ _ _
    refine while_q (fun σ H' => ∃ (l : Addr) (ls : List Str) (F : Kn) (n : Nat) (v6 v7 : Option V), σ = [some (.ref a), some (.ref tk), some (.int (N : Nat)), some (.ref D), some (.int ((i + 1 : Nat) : Int)), some (.ref l), v6, v7] ∧ Same H H' ∧ H' l = some (.lst (ls.map V.str)) ∧ ls.Nodup ∧ (∀ z ∈ ls, z ∈ pl.words) ∧ KnAt H' D F n ∧ n + ls.length ≤ i * 4 + 4 ∧ RecK pl T F ∧ PartK pl F i ls) (fun σ H => leftN H ((σ[5]?).getD none)) ⟨l0, pl.posts.map Post.name, F, i * 4, _, _, by rw [← ei]; rfl, s13, h3, nd0, fun z hz => ok.perm.mem_iff.mp hz, hK.mono s3, by rw [List.length_map]; omega, hR, PartK.start hF fun z hz => ok.perm.mem_iff.mpr hz⟩ ?_
    rintro σ H4 ⟨l, ls, F4, n, w6, w7, rfl, s4, hl, nd, hw, hK4, hn, hR4, hP4⟩
    refine ⟨_, rfl, by show 0 ≤ sizeLine; omega, fun e he => ⟨_, _, .lst (SqL.of (sNew he _ _ hl)) (dpall_str ls), .lst (SqL.of upd_same) (dpall_str []), shaped_strs ls (fun b hb => ok.menu b (hw b hb)), shaped_strs [] (fun b hb => nomatch hb), _, rfl, ?_⟩⟩
    rw [eqv_strs_nil]
    have s5 := s4.trans (sNew (o := .lst []) he)
    have hl5 := sNew (o := .lst []) he _ _ hl
    have hK5 := hK4.mono (sNew (o := .lst []) he)
    by_cases c : ls = []
    · subst c
      refine ite_f (b := !decide (([] : List Str) = [])) rfl ?_
      exact ⟨s5, F4, _, _, _, _, rfl, hK5.up (by omega), hR4, hP4.done⟩
    · refine ite_t (b := !decide (ls = [])) (by rw [decide_eq_false c]; rfl) (wnext ?_)
      obtain ⟨z0, hz0, hmin⟩ := least_at (rkW pl.words) ls c
      refine ⟨_, rfl, l, rfl, ⟨_, SqL.of hl5⟩, fun E1 hE1 => ?_⟩
      have s6 := s5.trans (sNew (o := .lst []) hE1)
      refine lc_it (walk_list (K := K) (a := l) (xs := ls.map V.str)) (fun m H' => ∃ acc F n, Same H H' ∧ H' l = some (.lst (ls.map V.str)) ∧ H' E1 = some (.lst (acc.map V.str)) ∧ KnAt H' D F n ∧ n + (acc ++ ls.drop m).length ≤ i * 4 + 4 ∧ RecK pl T F ∧ PartK pl F i (acc ++ ls.drop m) ∧ (acc ++ ls.drop m).Sublist ls ∧ z0 ∉ acc)
        ⟨[], F4, n, s6, sNew hE1 _ _ hl5, upd_same, hK5.mono (sNew hE1), hn, hR4, hP4, List.Sublist.refl _, List.not_mem_nil⟩ (fun m H' _ h => by obtain ⟨_, _, _, _, h, _⟩ := h; exact SqL.of h) ?_ ?_
      · rintro m y H6 H7 hm ⟨acc, F6, n6, s6, hl6, hE6, hK6, hn6, hR6, hP6, hS6, hz6⟩ ⟨rfl, hy⟩
        obtain ⟨z, ez, rfl⟩ := map_get hy
        have ed := drop_at ez
        rw [ed] at hn6 hP6 hS6
        have hzl : z ∈ ls := List.mem_of_getElem? ez
        have hzm : z ∈ acc ++ z :: ls.drop (m + 1) := List.mem_append_right _ List.mem_cons_self
        have hzw := hw z hzl
        have hnd := hS6.nodup nd
        have hN : F6 z (i + 1) = none := by
          cases q6 : F6 z (i + 1) with
          | none => rfl
          | some p =>
            have := ((hP6 z (i + 1)).mp (by rw [q6]; rfl)).2.2
            rcases this with h | ⟨_, h⟩
            · omega
            · exact absurd hzm h
        have hB : ∀ j, 1 ≤ j → j < i + 1 → ∃ p, F6 z j = some p := fun j h1 h2 => Option.isSome_iff_exists.mp ((hP6 z j).mpr ⟨hzw, h1, .inl (by omega)⟩)
        have hla := List.length_append (as := acc) (bs := z :: ls.drop (m + 1))
        have hlc := List.length_cons (a := z) (as := ls.drop (m + 1))
        have hi8 : i < 8 := by omega
        have nE : H E1 = none := same_none s5 hE1
        have nlE : l ≠ E1 := fun e => by rw [e, hE1] at hl5; cases hl5
        obtain ⟨kv6, hD6, _⟩ := id hK6
        have nlD : l ≠ D := fun e => by rw [e, hD6] at hl6; cases hl6
        have nED : E1 ≠ D := fun e => by rw [e, hD6] at hE6; cases hE6
        refine ⟨rfl, _, rfl, _, rfl, _, rfl, _, rfl, _, rfl, a, tk, D, pl, T, F6, n6, z, i + 1, rfl, hPl.mono s6, ok, hT.mono s6, hK6, by omega, hzw, hB, hN, fun H8 s8 hne => ⟨false, rfl, ite_t rfl ?_⟩, fun H8 o d f8 hK8 hon d1 d2 => ⟨true, rfl, ite_f rfl ?_⟩⟩
        · have ea : (acc ++ [z]) ++ ls.drop (m + 1) = acc ++ z :: ls.drop (m + 1) := by rw [List.append_assoc]; rfl
          refine ⟨_, rfl, acc.map V.str, s8 _ _ hE6, by rw [List.length_map]; omega, acc ++ [z], F6, n6, sMut (s6.trans s8) nE, by rw [upd_ne nlE]; exact s8 _ _ hl6, by rw [List.map_append]; exact upd_same, (hK6.mono s8).monoI (SameI.lst (s8 _ _ hE6)), by rw [ea]; omega, hR6, by rw [ea]; exact hP6, by rw [ea]; exact hS6, fun hm2 => ?_⟩
          rcases List.mem_append.mp hm2 with h | h
          · exact hz6 h
          · rw [List.mem_singleton.mp h] at hmin
            exact PartK.can ok hP6 (fun y hy => hS6.subset hy) hmin hne
        · have hz1 : z ∉ acc := fun h => (List.nodup_append.mp hnd).2.2 z h z List.mem_cons_self rfl
          have hz2 : z ∉ ls.drop (m + 1) := (List.nodup_cons.mp (List.nodup_append.mp hnd).2.1).1
          refine ⟨acc, _, n6 + 1, fun u o' e => f8 u o' (ne_of_none e hD) (s6 u o' e), f8 _ _ nlD hl6, f8 _ _ nED hE6, hK8, by rw [List.length_append]; omega, RecK.put ok hR6 hzw (by omega) hN hB hon d1 d2, hP6.put hzw fun y => ?_, (List.Sublist.append_left (List.sublist_cons_self _ _) acc).trans hS6, hz6⟩
          rw [List.mem_append, List.mem_append, List.mem_cons]
          constructor
          · rintro (h | h)
            · exact ⟨.inl h, fun e => hz1 (e ▸ h)⟩
            · exact ⟨.inr (.inr h), fun e => hz2 (e ▸ h)⟩
          · rintro ⟨h | h | h, e⟩
            · exact .inl h
            · exact absurd h e
            · exact .inr h
      · rintro H6 ⟨acc, F6, n6, s6, hl6, hE6, hK6, hn6, hR6, hP6, hS6, hz6⟩
        rw [List.length_map, List.drop_length, List.append_nil] at hn6 hP6 hS6
        refine ⟨⟨E1, acc, F6, n6, _, _, rfl, s6, hE6, hS6.nodup nd, fun z hz => hw z (hS6.subset hz), hK6, hn6, hR6, hP6⟩, ?_⟩
        show leftN H6 (some (.ref E1)) < leftN H4 (some (.ref l))
        rw [leftN_at hE6, leftN_at hl, List.length_map, List.length_map]
        exact sub_lt hS6 hz0 hz6
  · rintro σ H1 ⟨s1, F, v4, v5, v6, v7, rfl, hK, hR, hF⟩
    exact ⟨_, rfl, q D H1 F s1 (hK.up (by omega)) hR hF⟩
end
end Own
set_option Elab.async false
set_option linter.all false
set_option maxRecDepth 100000
set_option maxHeartbeats 4000000
/-! the law's own play: its ends -/
namespace Own
open PySem PySem.Spec PyProof.Rows L2 He OwnR
theorem lock_same {H H' : Hp} {D : Addr} {u : HO} {od : Obj} (h : H D = some u) (g : Same (upd H D (.frz od u)) H') : Same H (upd H' D u) := fun a o e => by
  by_cases c : a = D
  · subst c
    rw [h] at e
    rw [upd_same]
    exact e
  · rw [upd_ne c]
    exact g a o (by rw [upd_ne c]; exact e)
theorem paired_ints {n : Nat} {us : List V} {G : Nat → Int → Prop} (h : Paired (fun i v => ∃ e : Int, v = .int e ∧ G i e) (List.range n) us) : ∃ ns : List Int, us = ns.map V.int ∧ ns.length = n ∧ ∀ i e, ns[i]? = some e → G i e := by
  have hl := Paired.length h
  rw [List.length_range] at hl
  have hh : ∀ (l : List Nat) (us : List V), Paired (fun i v => ∃ e : Int, v = .int e ∧ G i e) l us → ∃ ns : List Int, us = ns.map V.int ∧ ∀ (i : Nat) j e, l[i]? = some j → ns[i]? = some e → G j e := by
    intro l us h
    induction h with
    | nil => exact ⟨[], rfl, fun i j e h => by simp at h⟩
    | cons r t ih =>
      obtain ⟨e, rfl, g⟩ := r
      obtain ⟨ns, rfl, h2⟩ := ih
      refine ⟨e :: ns, rfl, fun i j e' h1 h3 => ?_⟩
      cases i with
      | zero => cases h1; cases h3; exact g
      | succ i => exact h2 i j e' (by simpa using h1) (by simpa using h3)
  obtain ⟨ns, rfl, h2⟩ := hh _ _ h
  rw [List.length_map] at hl
  refine ⟨ns, rfl, hl.symm, fun i e hi => h2 i i e ?_ hi⟩
  have := (List.getElem?_eq_some_iff.mp hi).1
  rw [List.getElem?_range (by omega)]
section
variable {P : Program} {w : World} {K : PySem.W.Frag} {mg : Str → Option Value} {base : Heap}
theorem sc_law_ended : FnScope ["_law_plan_here", "_law_taken", "_law_most", "_law_wide", "_law_known", "_law_spot"] ["_law_plan_here", "_law_taken", "_law_most", "_law_wide"] (defScope s_law_ended) := ⟨rfl, rfl, rfl, by decide +kernel, rfl, by decide +kernel, by decide +kernel⟩
theorem b_law_ended (E : Env K mg base) : Binds K (fdAt K (ga K "_law_ended")) ["_law_plan_here", "_law_taken", "_law_most", "_law_wide"] [] := (f_law_ended E).bindsN fun _ _ _ _ _ _ us hl => match us, hl with | [_, _, _, _], _ => rfl
def sp_ended (K : PySem.W.Frag) : Sp := fun vs H Q _ => ∃ (a tk : Addr) (pl : Plan) (T : Str → Nat → Nat) (N : Nat) (wide : Bool), vs = [.ref a, .ref tk, .int (N : Nat), .bl wide] ∧ PlanAt H a pl ∧ PlanOk pl ∧ TakAt H tk T ∧ 1 ≤ N ∧ N ≤ 8 ∧
  ∀ H' (e : Int) F, Same H H' → RecK pl T F → FullK pl F N → EndV pl F N wide e → Q (.int e) H'
theorem ok_law_ended (E : Env K mg base) : FnOk P w K mg base CX0 4 (ga K "_law_ended") (fdAt K (ga K "_law_ended")) ["_law_plan_here", "_law_taken", "_law_most", "_law_wide"] ((sp_ended K)) := by
  refine okD (f_law_ended E) sc_law_ended (fun cdv A outer s H vs Q X hr h => ?_) (fun vs H Q X h => by obtain ⟨_, _, _, _, _, _, rfl, _⟩ := h; rfl)
  obtain ⟨a, tk, pl, T, N, wide, rfl, hPl, ok, hT, hN1, hN, q⟩ := h
  obtain ⟨lp, lt, lw, us, vs, ha, _⟩ := id hPl
  have e3 : sizeLine = 16777216 := sizeLine_eq
  refine ⟨_, (pss_cons (ps_set (i := 4) sc_law_ended.nd rfl (Or.inr rfl) (pe_call (ok_law_played E) (hr.mono (by decide)) rfl (g_law_played E) (f_law_played E).kp (b_law_played E) .nil pass0 (pa_cons (pv 0) (pa_cons (pv 1) (pa_cons (pv 2) pa_nil)))))
      (pss_cons (ps_if (pt_val (pv 3)) (pss_one (ps_ret (pe_callB (maxK K) rfl (n_max E) boot_max (pa_cons (pe_lock (pe_lc (own := [("_law_spot", 5)]) (g := (gName 5)) rfl sc_law_ended.nd (pi_keys (pv 4)) (blkOk_by (own := [("_law_spot", 5)]) (N := (["_law_plan_here", "_law_taken", "_law_most", "_law_wide", "_law_known", "_law_spot"] : List Str)) (sc := defScope s_law_ended) (by decide +kernel)) (fun _ _ _ _ _ => (pg_name (i := 5) sc_law_ended.nd rfl (Or.inl rfl))) (fun _ _ _ _ _ => pts_nil) (fun _ _ _ _ _ => (pe_ix (ixT K) (pe_dget (hu_of hr) (pv 4) (pv 5) (fun _ _ => rfl)) pe_int (fun _ _ => rfl))))) pa_nil)))) pss_nil)
      (pss_one (ps_ret (pe_ix (ixT K) (pe_dget (hu_of hr) (pv 4) (pe_tup (pa_cons (pe_ix (ixL K) (pv 0) pe_int (fun _ _ => rfl)) (pa_cons (pv 2) pa_nil))) (fun _ _ => rfl)) pe_int (fun _ _ => rfl)))))), ?_⟩
  refine ⟨_, rfl, _, rfl, _, rfl, a, tk, pl, T, N, rfl, hPl, ok, hT, hN, fun D H1 F s1 hK hR hF => ?_⟩
  obtain ⟨kvs, hD, hl, hk1, hk2⟩ := id hK
  have hgF : (F pl.goal N).isSome = true := (hF pl.goal N).mpr ⟨ok.goal, hN1, Nat.le_refl _⟩
  obtain ⟨pg, hpg⟩ := Option.isSome_iff_exists.mp hgF
  refine ⟨_, rfl, wide, rfl, ite2 (fun c => ?_) (fun c => ?_)⟩
  · subst c
    refine ⟨D, _, hD, True.intro, fun od => ?_⟩
    have hD2 : upd H1 D (.frz od (.dT kvs)) D = some (.frz od (.dT kvs)) := upd_same
    refine ⟨_, rfl, D, od, rfl, .inr ⟨kvs, hD2, fun E1 hE1 => ?_⟩⟩
    refine lc_gen (walk_keysT (d := D) (o := od) (kvs := kvs)) hE1 (fun i v _ => ∃ e : Int, v = .int e ∧ ∃ z k a t, F z k = some (a, e) ∧ kvs[i]? = some (kk z k, t)) (fun _ => true) (by omega) (fun _ _ _ _ h _ => h) (fun H s => s _ _ hD2) ?_ ?_
    · rintro i y H2 H3 Nk Ns hi s2 ⟨rfl, k, v, qd, ek, rfl, hq⟩ k1 k2
      obtain ⟨z, j, t, b, e1, e2, h3, h4⟩ := hk1 _ (List.mem_of_getElem? ek)
      obtain rfl : k = kk z j := e1
      obtain ⟨t', a1, a2⟩ := hk2 z j b h4
      have nt : t' ≠ D := fun e => by rw [e, hD] at a2; cases a2
      refine ⟨rfl, tyes_if ⟨_, rfl, _, rfl, D, .ref t', rfl, .inr ⟨kvs, kk z j, qd, .inr ⟨od, s2 _ _ hD2⟩, rfl, hq, a1.symm⟩, t', _, 1, .int b.2, rfl, rfl, SqT.of (s2 _ _ (by rw [upd_ne nt]; exact a2)), rfl, ?_⟩⟩
      exact k1 rfl _ _ (Same.refl _) ⟨b.2, rfl, z, j, b.1, v, h4, ek⟩
    · intro H2 us2 s2 hE2 hus2
      rw [filter_true] at hus2
      obtain ⟨ns, rfl, hnl, hns⟩ := paired_ints hus2
      have nE : E1 ≠ D := fun e => by rw [e, hD2] at hE1; cases hE1
      have s3 := lock_same hD s2
      obtain ⟨t, a1, a2⟩ := hk2 _ _ _ hpg
      have hpos : 0 < ns.length := by
        have := List.length_pos_of_mem (valV_mem a1)
        omega
      refine ⟨s2 _ _ hD2, E1, ns, rfl, SqL.of (by rw [upd_ne nE]; exact hE2), hpos, fun m hm hle => ?_⟩
      refine q _ m F (s1.trans s3) hR hF ⟨?_, fun z k p hp => ?_⟩
      · obtain ⟨i, hi, e⟩ := List.mem_iff_getElem.mp hm
        obtain ⟨z, k, a, t, h, _⟩ := hns i m (by rw [List.getElem?_eq_getElem hi, e])
        exact ⟨z, k, a, h⟩
      · obtain ⟨t, b1, b2⟩ := hk2 z k p hp
        obtain ⟨i, hi, e⟩ := List.mem_iff_getElem.mp (valV_mem b1)
        have hi2 : i < ns.length := by omega
        obtain ⟨z', k', a', t', h, h2⟩ := hns i ns[i] (List.getElem?_eq_getElem hi2)
        rw [List.getElem?_eq_getElem hi, e] at h2
        injection h2 with h2
        injection h2 with h2 _
        obtain ⟨rfl, rfl⟩ := kk_inj h2
        rw [hp] at h
        cases h
        exact hle _ (List.getElem_mem hi2)
  · obtain rfl : wide = false := by
      cases wide with
      | false => rfl
      | true => exact absurd rfl c
    refine ⟨_, rfl, _, rfl, a, _, 2, .str pl.goal, rfl, rfl, SqL.of (s1 _ _ ha), rfl, _, rfl, by show 2 ≤ sizeLine; omega, fun b hb => ?_⟩
    have s2 := sNew (o := .tup [.str pl.goal, .int (N : Nat)]) hb
    obtain ⟨t, a1, a2⟩ := hk2 _ _ _ hpg
    have g := kn_key (k := N) (s2 _ _ hD) (upd_same (H := H1) (a := b) (o := .tup [.str pl.goal, .int (N : Nat)])) rfl
    rw [a1] at g
    exact ⟨D, _, rfl, g, t, _, 1, .int pg.2, rfl, rfl, SqT.of (s2 _ _ a2), rfl, q _ pg.2 F (s1.trans s2) hR hF ⟨pg.1, hpg⟩⟩
end
end Own
set_option Elab.async false
set_option linter.all false
set_option maxRecDepth 100000
set_option maxHeartbeats 4000000
/-! the law's drawn times -/
namespace Own
open PySem PySem.Spec PyProof.Rows L2 He OwnR
/-- the dict at D has whole numbers alone, none below 0 -/
def NumAt (H : Hp) (D : Addr) (n : Nat) : Prop := ∃ kvs : List (List Key × V), H D = some (.dT kvs) ∧ kvs.length ≤ n ∧ ∀ p ∈ kvs, ∃ m : Nat, p.2 = .int (m : Nat)
theorem NumAt.tak {H : Hp} {D : Addr} {n : Nat} (h : NumAt H D n) : ∃ T, TakAt H D T := by
  obtain ⟨kvs, h1, _, h2⟩ := h
  refine ⟨fun z k => match valV kvs (kk z k) with
    | some (.int i) => i.toNat
    | _ => 0, kvs, h1, fun z k => ?_⟩
  cases e : valV kvs (kk z k) with
  | none =>
    dsimp only
    rw [e]
    rfl
  | some v =>
    obtain ⟨m, hm⟩ := h2 _ (valV_mem e)
    obtain rfl : v = .int (m : Nat) := hm
    dsimp only
    rw [e]
    rfl
theorem some_at {u v : Int} (hu : 0 ≤ u) (hv : 0 ≤ v) : ∀ s : Nat, s < 8 → ∃ m : Nat, atI [V.int 0, V.int 0, V.int 1, V.int 1, V.int 2, V.int 5, V.int u, V.int v] (s : Nat) = some (.int (m : Nat))
  | 0, _ => ⟨0, rfl⟩
  | 1, _ => ⟨0, rfl⟩
  | 2, _ => ⟨1, rfl⟩
  | 3, _ => ⟨1, rfl⟩
  | 4, _ => ⟨2, rfl⟩
  | 5, _ => ⟨5, rfl⟩
  | 6, _ => ⟨u.toNat, by rw [Int.toNat_of_nonneg hu]; rfl⟩
  | 7, _ => ⟨v.toNat, by rw [Int.toNat_of_nonneg hv]; rfl⟩
  | _ + 8, h => by omega
theorem NumAt.put {H : Hp} {D : Addr} {n m : Nat} {kvs : List (List Key × V)} {k : List Key} (h : NumAt H D n) (hD : H D = some (.dT kvs)) : NumAt (upd H D (.dT (putK kvs k (.int (m : Nat))))) D (n + 1) := by
  obtain ⟨kvs', h1, h2, h3⟩ := h
  rw [hD] at h1
  obtain rfl : kvs = kvs' := by injection h1 with h1; injection h1
  refine ⟨_, upd_same, Nat.le_trans (putK_len' _ _ _) (by omega), fun p hp => ?_⟩
  rcases mem_putK hp with hp | rfl
  · exact h3 p hp
  · exact ⟨m, rfl⟩
theorem p12 : (0 : Int) ≤ 10 ^ (12 : Int).toNat := by decide +kernel
theorem p36 : (0 : Int) ≤ 10 ^ (36 : Int).toNat := by decide +kernel
section
variable {P : Program} {w : World} {K : PySem.W.Frag} {mg : Str → Option Value} {base : Heap}
theorem sc_law_times : FnScope ["_law_purl_here", "_law_plan_here", "_law_most", "_law_found", "_law_post_here", "_law_k", "_law_some"] ["_law_purl_here", "_law_plan_here", "_law_most"] (defScope s_law_times) := ⟨rfl, rfl, rfl, by decide +kernel, rfl, by decide +kernel, by decide +kernel⟩
theorem b_law_times (E : Env K mg base) : Binds K (fdAt K (ga K "_law_times")) ["_law_purl_here", "_law_plan_here", "_law_most"] [] := (f_law_times E).bindsN fun _ _ _ _ _ _ us hl => match us, hl with | [_, _, _], _ => rfl
def sp_times (K : PySem.W.Frag) : Sp := fun vs H Q _ => ∃ (p a : Addr) (pl : Plan), vs = [.ref p, .ref a, .int 8] ∧ PurlAt H p ∧ PlanAt H a pl ∧ PlanOk pl ∧ ∀ D H' T, PF p H H' → PurlAt H' p → TakAt H' D T → Q (.ref D) H'
theorem ok_law_times (E : Env K mg base) : FnOk P w K mg base CX0 2 (ga K "_law_times") (fdAt K (ga K "_law_times")) ["_law_purl_here", "_law_plan_here", "_law_most"] ((sp_times K)) := by
  refine okD (f_law_times E) sc_law_times (fun cdv A outer s H vs Q X hr h => ?_) (fun vs H Q X h => by obtain ⟨_, _, _, rfl, _⟩ := h; rfl)
  obtain ⟨p, a, pl, rfl, hp, hPl, ok, q⟩ := h
  have e3 : sizeLine = 16777216 := sizeLine_eq
  refine ⟨_, (pss_cons (ps_set (i := 3) sc_law_times.nd rfl (Or.inl rfl) pe_dnewT)
      (pss_cons (ps_for PassesOwn.never rfl (pi_list (pe_ix (ixL K) (pv 1) pe_int (fun _ _ => rfl))) (pg_name (i := 4) sc_law_times.nd rfl (Or.inl rfl)) (pss_one (ps_for PassesOwn.never rfl (pi_range2 rfl (n_range E) (pa_cons pe_int (pa_cons (pe_op op_add (pv 2) pe_int) pa_nil))) (pg_name (i := 5) sc_law_times.nd rfl (Or.inl rfl)) (pss_cons (ps_set (i := 6) sc_law_times.nd rfl (Or.inl rfl) (pe_lst (pa_cons pe_int (pa_cons pe_int (pa_cons pe_int (pa_cons pe_int (pa_cons pe_int (pa_cons pe_int (pa_cons (pe_op op_add (pe_op op_pow pe_int pe_int) (pv 5)) (pa_cons (pe_op op_add (pe_op op_pow pe_int pe_int) (pe_call (ok_law_dig E) (hr.mono (by decide)) rfl (g_law_dig E) (f_law_dig E).kp (b_law_dig E) .nil pass0 (pa_cons (pv 0) (pa_cons (pe_op op_pow pe_int pe_int) pa_nil)))) pa_nil))))))))))
      (pss_one (ps_dput (hu_of hr) (pv 3) (pe_tup (pa_cons (pe_ix (ixT K) (pv 4) pe_int (fun _ _ => rfl)) (pa_cons (pv 5) pa_nil))) (pe_ix (ixL K) (pv 6) (pe_call (ok_law_dig E) (hr.mono (by decide)) rfl (g_law_dig E) (f_law_dig E).kp (b_law_dig E) .nil pass0 (pa_cons (pv 0) (pa_cons pe_int pa_nil))) (fun _ _ => rfl)) rfl))))))
      (pss_one (ps_ret (pv 3))))), ?_⟩
  refine fun D hD => ?_
  have f0 := pf_new (p := p) (o := .dT []) hD
  have nD := purl_ne hp hD
  have hp0 := hp.upd (o := .dT []) nD
  obtain ⟨lp, lt, lw, us, vs, ha, hlp, hlt, hlw, hus, hvs⟩ := id (hPl.pf f0 hp)
  have hpu := Paired.length hus
  have hpl : pl.posts.length ≤ 4 := by
    have h1 := ok.perm.length_eq
    rw [List.length_map] at h1
    have := ok.w4
    omega
  have nlp : lp ≠ p := ne_purl hp0 hlp fun v hv i e => by
    subst e
    obtain ⟨j, hj, e⟩ := List.mem_iff_getElem.mp hv
    obtain ⟨x, _, t, e2, _⟩ := pget hus (by rw [List.getElem?_eq_getElem hj, e])
    cases e2
  refine ⟨_, rfl, a, _, 0, .ref lp, rfl, rfl, SqL.of ha, rfl, lp, rfl, ⟨_, SqL.of hlp⟩, ?_⟩
  refine for_it (walk_list (K := K) (a := lp) (xs := us)) (fun i σ H' => PF p H H' ∧ PurlAt H' p ∧ NumAt H' D (i * 8) ∧ H' lp = some (.lst us) ∧ Paired (fun x v => PostAt H' v x) pl.posts us ∧ ∃ (v4 v5 v6 : Option V), σ = [some (.ref p), some (.ref a), some (.int 8), some (.ref D), v4, v5, v6]) ⟨f0, hp0, ⟨[], upd_same, by show 0 ≤ _; omega, fun p hp => nomatch hp⟩, hlp, hus, _, _, _, rfl⟩ (fun i σ H' _ h => SqL.of h.2.2.2.1) ?_ ?_
  · rintro i y σ H1 H2 hi ⟨f1, hp1, hn1, hlp1, hus1, v4, v5, v6, rfl⟩ ⟨rfl, hy⟩
    obtain ⟨x, ex, t, rfl, ht⟩ := pget hus1 hy
    refine ⟨_, rfl, _, _, rfl, rfl, _, _, rfl, ?_⟩
    refine ⟨by decide, ?_⟩
    refine for_it (walk_range (lo := 1) (n := 8)) (fun j σ H' => PF p H H' ∧ PurlAt H' p ∧ NumAt H' D (i * 8 + j) ∧ H' lp = some (.lst us) ∧ Paired (fun x v => PostAt H' v x) pl.posts us ∧ H' t = some (.tup [.str x.name, manyV x.many, .bl x.clock]) ∧ ∃ (v5 v6 : Option V), σ = [some (.ref p), some (.ref a), some (.int 8), some (.ref D), some (.ref t), v5, v6]) ⟨f1, hp1, hn1, hlp1, hus1, ht, _, _, rfl⟩ (fun _ _ _ _ _ => trivial) ?_ ?_
    · rintro j y σ H3 H4 hj ⟨f3, hp3, hn3, hlp3, hus3, ht3, v5, v6, rfl⟩ ⟨rfl, rfl⟩
      refine ⟨_, _, rfl, rfl, ⟨by decide, by decide, by decide⟩, _, rfl, _, _, rfl, rfl, _, _, rfl, rfl, ⟨by decide, by decide, by decide⟩, _, rfl, _, _, rfl, rfl, ⟨by decide, by decide, by decide⟩, p, 1000000, rfl, hp3, by decide, by decide, fun d5 H5 hd5 f5 hp5 => ⟨_, _, rfl, rfl, by show 8 ≤ sizeLine; omega, fun l hl => ?_⟩⟩
      obtain ⟨ls, els⟩ : ∃ ls, ls = [V.int 0, V.int 0, V.int 1, V.int 1, V.int 2, V.int 5, V.int (10 ^ (12 : Int).toNat + (1 + (j : Nat))), V.int (10 ^ (36 : Int).toNat + (d5 : Nat))] := ⟨_, rfl⟩
      have nl := purl_ne hp5 hl
      have f6 : PF p H5 (upd H5 l (.lst ls)) := pf_new hl
      have hp6 := hp5.upd (o := .lst ls) nl
      subst els
      refine ⟨_, rfl, _, rfl, p, 8, rfl, hp6, by decide, by decide, fun d7 H7 hd7 f7 hp7 => ?_⟩
      obtain ⟨m, em⟩ := some_at (u := 10 ^ (12 : Int).toNat + (1 + (j : Nat))) (v := 10 ^ (36 : Int).toNat + (d5 : Nat)) (by have := p12; omega) (by have := p36; omega) d7 hd7
      have f47 := (f5.trans f6).trans f7
      have ht7 := (pf_si f47 hp3) _ _ ht3 rfl
      refine ⟨l, _, (d7 : Nat), .int (m : Nat), rfl, rfl, SqL.of (f7 _ _ nl upd_same), em, ?_⟩
      refine ⟨_, rfl, _, rfl, t, _, 0, .str x.name, rfl, rfl, SqT.of ht7, rfl, _, rfl, by show 2 ≤ sizeLine; omega, fun b hb => ?_⟩
      have f8 : PF p H7 (upd H7 b (.tup [.str x.name, .int (1 + (j : Nat))])) := pf_new hb
      have nb := purl_ne hp7 hb
      have hp8 := hp7.upd (o := .tup [.str x.name, .int (1 + (j : Nat))]) nb
      have f48 := f47.trans f8
      have hn8 : NumAt (upd H7 b (.tup [.str x.name, .int (1 + (j : Nat))])) D (i * 8 + j) := by
        obtain ⟨kvs, h1, h2, h3⟩ := hn3
        exact ⟨kvs, f48 _ _ nD h1, h2, h3⟩
      obtain ⟨kvs, hD8, hl8, _⟩ := id hn8
      refine ⟨D, _, rfl, DPut.t (k := [.inr x.name, .inl (1 + (j : Nat))]) hD8 upd_same (by omega), ?_⟩
      have nlpD : lp ≠ D := fun e => by rw [e] at hlp3; have := f48 _ _ nD hlp3; rw [hD8] at this; cases this
      have ntD : t ≠ D := fun e => by rw [e] at ht3; have := f48 _ _ nD ht3; rw [hD8] at this; cases this
      refine ⟨pf_mut (f3.trans f48) hD, hp8.upd nD, hn8.put hD8, by rw [upd_ne nlpD]; exact f48 _ _ nlp hlp3, paired_imp hus3 fun x v ⟨tt, e, h⟩ => ⟨tt, e, ?_⟩, by rw [upd_ne ntD]; exact sNew hb _ _ ht7, _, _, rfl⟩
      have h8 := (pf_si f48 hp3) _ _ h rfl
      rw [upd_ne]
      · exact h8
      · intro e
        rw [e, hD8] at h8
        cases h8
    · rintro σ H3 ⟨f3, hp3, hn3, hlp3, hus3, ht3, v5, v6, rfl⟩
      exact ⟨f3, hp3, by rw [Nat.add_mul, Nat.one_mul]; exact hn3, hlp3, hus3, _, _, _, rfl⟩
  · rintro σ H1 ⟨f1, hp1, hn1, hlp1, hus1, v4, v5, v6, rfl⟩
    obtain ⟨T, hT⟩ := hn1.tak
    exact ⟨_, rfl, q D H1 T f1 hp1 hT⟩
end
end Own
set_option Elab.async false
set_option linter.all false
set_option maxRecDepth 100000
set_option maxHeartbeats 4000000
/-! the law's loosened plans -/
namespace Own
open PySem PySem.Spec PyProof.Rows L2 He OwnR
def tieD (t : Tie) : PyData := .tuple [.str t.at_, .str t.to, .int (t.held : Nat), .bool t.soon]
theorem dp_tie {K : PySem.W.Frag} {H : Hp} {v : V} {t : Tie} (h : TieAt H v t) : Dp K H v (tieD t) := by
  obtain ⟨a, rfl, h⟩ := h
  exact .tup (SqT.of h) (.cons (.str _) (.cons (.str _) (.cons (.int _) (.cons (.bl _) .nil))))
theorem dp_ties {K : PySem.W.Frag} {H : Hp} : ∀ {ts : List Tie} {vs : List V}, Paired (fun x v => TieAt H v x) ts vs → DpAll K H vs (ts.map tieD)
  | _, _, .nil => .nil
  | _, _, .cons r t => .cons (dp_tie r) (dp_ties t)
theorem lay_ties : ∀ ts : List Tie, (∀ t ∈ ts, t.at_ ∈ menuL ∧ t.to ∈ menuL) → PyData.canLayAll0 (ts.map tieD) = true
  | [], _ => by simp [PyData.canLayAll0]
  | t :: ts, h => by
    obtain ⟨h1, h2⟩ := h t List.mem_cons_self
    simp [PyData.canLayAll0, PyData.canLay0, tieD, menu_so _ h1, menu_so _ h2, lay_ties ts fun y hy => h y (List.mem_cons_of_mem _ hy)]
theorem depth_ties : ∀ ts : List Tie, PyData.depthAll (ts.map tieD) ≤ 1
  | [] => by simp [PyData.depthAll]
  | t :: ts => by
    have := depth_ties ts
    simp [PyData.depthAll, PyData.depth, tieD]
    omega
theorem shaped_ties (ts : List Tie) (h : ∀ t ∈ ts, t.at_ ∈ menuL ∧ t.to ∈ menuL) : SeqAt.shaped (.list (ts.map tieD)) = true := by
  have := depth_ties ts
  simp [SeqAt.shaped, PyData.canLay0, PyData.depth, lay_ties ts h]
  omega
theorem eqv_ties_nil (ts : List Tie) : PyData.eqv (.list (ts.map tieD)) (.list []) = decide (ts = []) := by
  cases ts with
  | nil => rfl
  | cons b bs => rfl
theorem plan_ne {H : Hp} {a p lp lt lw : Addr} {q : Plan} {us vs : List V} (hp : PurlAt H p) (h1 : H a = some (.lst [.ref lp, .ref lt, .str q.goal, .ref lw])) (h2 : H lp = some (.lst us)) (h3 : H lt = some (.lst vs)) (h4 : H lw = some (.lst (q.words.map V.str))) (h5 : Paired (fun x v => PostAt H v x) q.posts us) (h6 : Paired (fun x v => TieAt H v x) q.ties vs) : lp ≠ p ∧ lt ≠ p ∧ lw ≠ p := by
  refine ⟨ne_purl hp h2 ?_, ne_purl hp h3 ?_, ne_purl hp h4 ?_⟩
  · intro v hv i e
    subst e
    obtain ⟨j, hj, e⟩ := List.mem_iff_getElem.mp hv
    obtain ⟨x, _, t, e2, _⟩ := pget h5 (by rw [List.getElem?_eq_getElem hj, e])
    cases e2
  · intro v hv i e
    subst e
    obtain ⟨j, hj, e⟩ := List.mem_iff_getElem.mp hv
    obtain ⟨x, _, t, e2, _⟩ := pget h6 (by rw [List.getElem?_eq_getElem hj, e])
    cases e2
  · intro v hv i e
    subst e
    obtain ⟨x, _, e2⟩ := List.mem_map.mp hv
    cases e2
theorem seq_if {t : L2.TT} {A B R : TS} {D : Ends} {σ : L2.St} {H : Hp} (G : Bool → Hp → Prop) (h : ∀ Q : Bool → Hp → Prop, (∀ b H', G b H' → Q b H') → t σ H Q) (k : ∀ b H', G b H' → if b = true then A { D with nx := R D } σ H' else B { D with nx := R D } σ H') : tSeq (tIfS t A B) R D σ H := h _ k
theorem cut_drop1 (xs : List V) (t : Nat) (h : t + 1 ≤ xs.length) : cutV xs (some ((t : Nat) + 1)) none = xs.drop (t + 1) := cut_drop xs (t + 1) h
section
variable {P : Program} {w : World} {K : PySem.W.Frag} {mg : Str → Option Value} {base : Heap}
theorem sc_law_loosened : FnScope ["_law_purl_here", "_law_plan_here", "_law_posts", "_law_ties", "_law_goal", "_law_words_here", "_law_way", "_law_at", "_law_spot", "_law_tie_here", "_law_fresh", "_law_word", "_law_many", "_law_clock", "_law_post_here"] ["_law_purl_here", "_law_plan_here"] (defScope s_law_loosened) := ⟨rfl, rfl, rfl, by decide +kernel, rfl, by decide +kernel, by decide +kernel⟩
theorem b_law_loosened (E : Env K mg base) : Binds K (fdAt K (ga K "_law_loosened")) ["_law_purl_here", "_law_plan_here"] [] := (f_law_loosened E).bindsN fun _ _ _ _ _ _ us hl => match us, hl with | [_, _], _ => rfl
def sp_loosened (K : PySem.W.Frag) : Sp := fun vs H Q _ => ∃ (p a : Addr) (pl : Plan), vs = [.ref p, .ref a] ∧ PurlAt H p ∧ PlanAt H a pl ∧ PlanOk pl ∧ ∀ b H' q, PF p H H' → PurlAt H' p → PlanAt H' b q → PlanOk q → Below q pl → Q (.ref b) H'
theorem ok_law_loosened (E : Env K mg base) : FnOk P w K mg base CX0 2 (ga K "_law_loosened") (fdAt K (ga K "_law_loosened")) ["_law_purl_here", "_law_plan_here"] ((sp_loosened K)) := by
  refine okD (f_law_loosened E) sc_law_loosened (fun cdv A outer s H vs Q X hr h => ?_) (fun vs H Q X h => by obtain ⟨_, _, _, rfl, _⟩ := h; rfl)
  obtain ⟨p, a, pl, rfl, hp, hPl, ok, q⟩ := h
  have e3 : sizeLine = 16777216 := sizeLine_eq
  obtain ⟨lp, lt, lw, us, vs, ha, hlp, hlt, hlw, hus, hvs⟩ := id hPl
  have hpu := Paired.length hus
  have htu := Paired.length hvs
  have ht6 := ok.t6
  have hp1 : 0 < pl.posts.length ∧ pl.posts.length ≤ 4 := by
    have h1 := ok.perm.length_eq
    rw [List.length_map] at h1
    have h2 := ok.w0
    have h3 := ok.w4
    omega
  have hmn : ∀ t ∈ pl.ties, t.at_ ∈ menuL ∧ t.to ∈ menuL := fun t ht => by
    obtain ⟨i, j, h1, h2, _⟩ := ok.ties t ht
    exact ⟨ok.menu _ (List.mem_of_getElem? h1), ok.menu _ (List.mem_of_getElem? h2)⟩
  refine ⟨_, (pss_cons (ps_asg (pv 1) (pg_unl rfl (pgs_cons (pg_name (i := 2) sc_law_loosened.nd rfl (Or.inl rfl)) (pgs_cons (pg_name (i := 3) sc_law_loosened.nd rfl (Or.inl rfl)) (pgs_cons (pg_name (i := 4) sc_law_loosened.nd rfl (Or.inl rfl)) (pgs_cons (pg_name (i := 5) sc_law_loosened.nd rfl (Or.inl rfl)) pgs_nil))))))
      (pss_cons (ps_par (i := 6) (j := 7) rfl sc_law_loosened.nd rfl rfl (by decide) rfl rfl (pa_cons (pe_call (ok_law_dig E) (hr.mono (by decide)) rfl (g_law_dig E) (f_law_dig E).kp (b_law_dig E) .nil pass0 (pa_cons (pv 0) (pa_cons pe_int pa_nil))) (pa_cons (pe_call (ok_law_dig E) (hr.mono (by decide)) rfl (g_law_dig E) (f_law_dig E).kp (b_law_dig E) .nil pass0 (pa_cons (pv 0) (pa_cons (pe_callB (lenK K) rfl (n_len E) boot_len (pa_cons (pv 2) pa_nil)) pa_nil))) pa_nil)) (by rfl))
      (pss_cons (ps_if (PW.pt (pw_and (pt_cmpR (neDK K hr.units) (pv 3) (pe_lst pa_nil) (nomark _)) (pw_and1 (pt_cmpR op_lt (pv 6) pe_int (nomark _))))) (pss_cons (ps_set (i := 8) sc_law_loosened.nd rfl (Or.inl rfl) (pe_call (ok_law_dig E) (hr.mono (by decide)) rfl (g_law_dig E) (f_law_dig E).kp (b_law_dig E) .nil pass0 (pa_cons (pv 0) (pa_cons (pe_callB (lenK K) rfl (n_len E) boot_len (pa_cons (pv 3) pa_nil)) pa_nil))))
      (pss_cons (ps_set (i := 9) sc_law_loosened.nd rfl (Or.inl rfl) (pe_ix (ixL K) (pv 3) (pv 8) (fun _ _ => rfl)))
      (pss_cons (ps_set (i := 10) sc_law_loosened.nd rfl (Or.inl rfl) (pe_ifExp (pt_cmpR op_eq (pv 6) pe_int (nomark _)) (pe_lst pa_nil) (pe_lst (pa_cons (pe_tup (pa_cons (pe_ix (ixT K) (pv 9) pe_int (fun _ _ => rfl)) (pa_cons (pe_ix (ixT K) (pv 9) pe_int (fun _ _ => rfl)) (pa_cons (pe_ix (ixT K) (pv 9) pe_int (fun _ _ => rfl)) (pa_cons pe_bl pa_nil))))) pa_nil))))
      (pss_one (ps_ret (pe_lst (pa_cons (pv 2) (pa_cons (pe_op op_cat (pe_op op_cat (pe_slice (slL K) (pv 3) po_none (po_some (pv 8))) (pv 10)) (pe_slice (slL K) (pv 3) (po_some (pe_op op_add (pv 8) pe_int)) po_none)) (pa_cons (pv 4) (pa_cons (pv 5) pa_nil)))))))))) pss_nil)
      (pss_cons (ps_asg (pe_ix (ixL K) (pv 2) (pv 7) (fun _ _ => rfl)) (pg_tup rfl (pgs_cons (pg_name (i := 11) sc_law_loosened.nd rfl (Or.inl rfl)) (pgs_cons (pg_name (i := 12) sc_law_loosened.nd rfl (Or.inl rfl)) (pgs_cons (pg_name (i := 13) sc_law_loosened.nd rfl (Or.inl rfl)) pgs_nil)))))
      (pss_cons (ps_set (i := 14) sc_law_loosened.nd rfl (Or.inl rfl) (pe_ifExp (pt_cmpR op_eq (pv 6) pe_int (nomark _)) (pe_tup (pa_cons (pv 11) (pa_cons (pv 12) (pa_cons pe_bl pa_nil)))) (pe_tup (pa_cons (pv 11) (pa_cons pe_non (pa_cons (pv 13) pa_nil))))))
      (pss_one (ps_ret (pe_lst (pa_cons (pe_op op_cat (pe_op op_cat (pe_slice (slL K) (pv 2) po_none (po_some (pv 7))) (pe_lst (pa_cons (pv 14) pa_nil))) (pe_slice (slL K) (pv 2) (po_some (pe_op op_add (pv 7) pe_int)) po_none)) (pa_cons (pv 3) (pa_cons (pv 4) (pa_cons (pv 5) pa_nil)))))))))))), ?_⟩
  refine ⟨_, rfl, a, _, rfl, SqL.of ha, rfl, _, _, rfl, _, _, rfl, _, _, rfl, _, _, rfl, rfl, ?_⟩
  refine ⟨_, rfl, p, 4, rfl, hp, by decide, by decide, fun wy H1 hwy f1 hp1' => ?_⟩
  obtain ⟨nlp, nlt, nlw⟩ := plan_ne hp ha hlp hlt hlw hus hvs
  refine ⟨_, rfl, _, rfl, lp, _, rfl, .inl (SqL.of (f1 _ _ nlp hlp)), p, us.length, rfl, hp1', by omega, by omega, fun at_ H2 hat f2 hp2 => ?_⟩
  refine ⟨_, _, rfl, ?_⟩
  have f02 := f1.trans f2
  have hlp2 := f02 _ _ nlp hlp
  have hlt2 := f02 _ _ nlt hlt
  have hlw2 := f02 _ _ nlw hlw
  have hus2 := paired_imp hus fun x v h => h.pf f02 hp
  have hvs2 := paired_imp hvs fun x v h => h.pf f02 hp
  dsimp only
  refine seq_if (fun b H' => Same H2 H' ∧ (b = true → pl.ties ≠ [])) (fun Qx hQ => ?_) ?_
  · refine ⟨_, rfl, by show 0 ≤ sizeLine; omega, fun e he => ⟨_, _, .lst (SqL.of (sNew he _ _ hlt2)) (dp_ties (paired_imp hvs2 fun x v h => h.mono (sNew he))), .lst (SqL.of upd_same) .nil, shaped_ties pl.ties hmn, shaped_ties [] (fun t ht => nomatch ht), _, rfl, ?_⟩⟩
    rw [eqv_ties_nil]
    by_cases c : pl.ties = []
    · exact ite_f (b := !decide (pl.ties = [])) (by rw [decide_eq_true c]; rfl) (hQ _ _ ⟨sNew he, fun h => by cases h⟩)
    · exact ite_t (b := !decide (pl.ties = [])) (by rw [decide_eq_false c]; rfl) ⟨_, rfl, _, _, rfl, rfl, _, rfl, hQ _ _ ⟨sNew he, fun _ => c⟩⟩
  rintro b H3 ⟨s3, hb⟩
  have hp3 := hp2.mono s3
  have hlp3 := s3 _ _ hlp2
  have hlt3 := s3 _ _ hlt2
  have hlw3 := s3 _ _ hlw2
  have hus3 := paired_imp hus2 fun x v h => h.mono s3
  have hvs3 := paired_imp hvs2 fun x v h => h.mono s3
  have f03 := f02.trans (PF.of s3)
  cases b with
  | true =>
    refine ite_t rfl ?_
    have hne := List.length_pos_iff.mpr (hb rfl)
    refine ⟨_, rfl, _, rfl, lt, _, rfl, .inl (SqL.of hlt3), p, vs.length, rfl, hp3, by omega, by omega, fun sp H4 hsp f4 hp4 => ?_⟩
    have hlp4 := f4 _ _ nlp hlp3
    have hlt4 := f4 _ _ nlt hlt3
    have hlw4 := f4 _ _ nlw hlw3
    have hus4 := paired_imp hus3 fun x v h => h.pf f4 hp3
    have hvs4 := paired_imp hvs3 fun x v h => h.pf f4 hp3
    obtain ⟨v, ev⟩ : ∃ v, vs[sp]? = some v := ⟨vs[sp], List.getElem?_eq_getElem hsp⟩
    obtain ⟨x, ex, t, rfl, ht⟩ := pget hvs4 ev
    refine ⟨_, rfl, _, rfl, lt, _, (sp : Nat), _, rfl, rfl, SqL.of hlt4, atI_nat ev, ?_⟩
    refine ⟨_, rfl, rfl, _, rfl, if_both (fun v H' => ∃ (fr : List Tie) (fl : Addr) (ws : List V), v = .ref fl ∧ Same H4 H' ∧ H' fl = some (.lst ws) ∧ Paired (fun x v => TieAt H' v x) fr ws ∧ fr.length ≤ 1 ∧ ∀ y ∈ fr, TieB y x) (fun _ Qx hQ => ?_) (fun _ Qx hQ => ?_) ?_⟩
    · exact ⟨by show 0 ≤ sizeLine; omega, fun l hl => hQ _ _ ⟨[], l, [], rfl, sNew hl, upd_same, .nil, by show 0 ≤ 1; omega, fun y hy => nomatch hy⟩⟩
    · refine ⟨_, rfl, t, _, 0, .str x.at_, rfl, rfl, SqT.of ht, rfl, _, rfl, t, _, 1, .str x.to, rfl, rfl, SqT.of ht, rfl, _, rfl, t, _, 2, .int (x.held : Nat), rfl, rfl, SqT.of ht, rfl, by show 4 ≤ sizeLine; omega, fun t2 ht2 => ⟨by show 1 ≤ sizeLine; omega, fun l hl => ?_⟩⟩
      exact hQ _ _ ⟨[⟨x.at_, x.to, x.held, true⟩], l, _, rfl, (sNew ht2).trans (sNew hl), upd_same, .cons ⟨t2, rfl, sNew hl _ _ upd_same⟩ .nil, by show 1 ≤ 1; omega, fun y hy => by rw [List.mem_singleton.mp hy]; exact ⟨rfl, rfl, rfl, fun _ => rfl⟩⟩
    rintro v H5 ⟨fr, fl, ws, rfl, s5, hfl, hws, hf1, hfb⟩
    have hwl := Paired.length hws
    have hlt5 := s5 _ _ hlt4
    refine ⟨_, rfl, _, rfl, _, rfl, _, rfl, lt, vs, rfl, SqL.of hlt5, fun p1 hp1 => ?_⟩
    have s6 := sNew (o := .lst (cutV vs none (some (sp : Nat)))) hp1
    have c1 := cutV_length vs none (some (sp : Nat))
    refine ⟨_, rfl, p1, fl, _, _, rfl, rfl, upd_same, s6 _ _ hfl, by omega, fun p2 hp2' => ?_⟩
    have s7 := sNew (o := .lst (cutV vs none (some (sp : Nat)) ++ ws)) hp2'
    refine ⟨_, rfl, _, rfl, _, _, rfl, rfl, _, rfl, lt, vs, rfl, SqL.of (s7 _ _ (s6 _ _ hlt5)), fun p3 hp3' => ?_⟩
    have s8 := sNew (o := .lst (cutV vs (some ((sp : Nat) + 1)) none)) hp3'
    have c2 := cutV_length vs (some ((sp : Nat) + 1)) none
    refine ⟨p2, p3, _, _, rfl, rfl, s8 _ _ upd_same, upd_same, by rw [List.length_append]; omega, fun p4 hp4' => ?_⟩
    have s9 := sNew (o := .lst ((cutV vs none (some (sp : Nat)) ++ ws) ++ cutV vs (some ((sp : Nat) + 1)) none)) hp4'
    refine ⟨_, rfl, _, rfl, by show 4 ≤ sizeLine; omega, fun b hb => ?_⟩
    have s10 := sNew (o := .lst [.ref lp, .ref p4, .str pl.goal, .ref lw]) hb
    have s510 := (((s6.trans s7).trans s8).trans s9).trans s10
    have s410 := s5.trans s510
    obtain ⟨k1, k2⟩ := loosen_tie ok ex hf1 hfb
    refine q b _ { pl with ties := pl.ties.take sp ++ fr ++ pl.ties.drop (sp + 1) } ((f03.trans f4).trans (PF.of s410)) (hp4.mono s410) ?_ k1 k2
    refine ⟨lp, p4, lw, us, _, upd_same, s410 _ _ hlp4, s10 _ _ upd_same, s410 _ _ hlw4, paired_imp hus4 fun x v h => h.mono s410, ?_⟩
    rw [cut_take _ _ (by omega), cut_drop1 _ _ (by omega)] at s410 s510 ⊢
    exact paired_append (paired_append (paired_imp (paired_take sp hvs4) fun x v h => h.mono s410) (paired_imp hws fun x v h => h.mono s510)) (paired_imp (paired_drop (sp + 1) hvs4) fun x v h => h.mono s410)
  | false =>
    refine ite_f rfl ?_
    obtain ⟨v, ev⟩ : ∃ v, us[at_]? = some v := ⟨us[at_], List.getElem?_eq_getElem hat⟩
    obtain ⟨x, ex, t, rfl, ht⟩ := pget hus3 ev
    refine ⟨_, rfl, _, rfl, lp, _, (at_ : Nat), _, rfl, rfl, SqL.of hlp3, atI_nat ev, t, _, rfl, SqT.of ht, rfl, _, _, rfl, _, _, rfl, _, _, rfl, rfl, ?_⟩
    refine ⟨_, rfl, rfl, _, rfl, if_both (fun v H' => ∃ y : Post, PostB y x ∧ PostAt H' v y ∧ Same H3 H') (fun _ Qx hQ => ?_) (fun _ Qx hQ => ?_) ?_⟩
    · exact ⟨_, rfl, _, rfl, by show 3 ≤ sizeLine; omega, fun t2 ht2 => hQ _ _ ⟨⟨x.name, x.many, false⟩, ⟨rfl, .inr rfl, fun h => by cases h⟩, ⟨t2, rfl, upd_same⟩, sNew ht2⟩⟩
    · exact ⟨_, rfl, _, rfl, by show 3 ≤ sizeLine; omega, fun t2 ht2 => hQ _ _ ⟨⟨x.name, none, x.clock⟩, ⟨rfl, .inl rfl, id⟩, ⟨t2, rfl, upd_same⟩, sNew ht2⟩⟩
    rintro v H5 ⟨y, hyb, hy, s5⟩
    have hlp5 := s5 _ _ hlp3
    refine ⟨_, rfl, _, rfl, _, rfl, lp, us, rfl, SqL.of hlp5, fun p1 hp1 => ?_⟩
    have s6 := sNew (o := .lst (cutV us none (some (at_ : Nat)))) hp1
    have c1 := cutV_length us none (some (at_ : Nat))
    refine ⟨_, rfl, by show 1 ≤ sizeLine; omega, fun pl0 hpl0 => ?_⟩
    have s6b := sNew (o := .lst [v]) hpl0
    refine ⟨p1, pl0, _, _, rfl, rfl, s6b _ _ upd_same, upd_same, by show _ + 1 ≤ sizeLine; omega, fun p2 hp2' => ?_⟩
    have s7 := sNew (o := .lst (cutV us none (some (at_ : Nat)) ++ [v])) hp2'
    refine ⟨_, rfl, _, rfl, _, _, rfl, rfl, _, rfl, lp, us, rfl, SqL.of (s7 _ _ (s6b _ _ (s6 _ _ hlp5))), fun p3 hp3' => ?_⟩
    have s8 := sNew (o := .lst (cutV us (some ((at_ : Nat) + 1)) none)) hp3'
    have c2 := cutV_length us (some ((at_ : Nat) + 1)) none
    refine ⟨p2, p3, _, _, rfl, rfl, s8 _ _ upd_same, upd_same, by rw [List.length_append]; show _ + 1 + _ ≤ sizeLine; omega, fun p4 hp4' => ?_⟩
    have s9 := sNew (o := .lst ((cutV us none (some (at_ : Nat)) ++ [v]) ++ cutV us (some ((at_ : Nat) + 1)) none)) hp4'
    refine ⟨_, rfl, _, rfl, _, rfl, by show 4 ≤ sizeLine; omega, fun b hb => ?_⟩
    have s10 := sNew (o := .lst [.ref p4, .ref lt, .str pl.goal, .ref lw]) hb
    have s510 := ((((s6.trans s6b).trans s7).trans s8).trans s9).trans s10
    have s310 := s5.trans s510
    obtain ⟨k1, k2⟩ := loosen_post ok ex hyb
    refine q b _ { pl with posts := pl.posts.take at_ ++ [y] ++ pl.posts.drop (at_ + 1) } (f03.trans (PF.of s310)) (hp3.mono s310) ?_ k1 k2
    refine ⟨p4, lt, lw, _, vs, upd_same, s10 _ _ upd_same, s310 _ _ hlt3, s310 _ _ hlw3, ?_, paired_imp hvs3 fun x v h => h.mono s310⟩
    rw [cut_take _ _ (by omega), cut_drop1 _ _ (by omega)] at s310 s510 ⊢
    exact paired_append (paired_append (paired_imp (paired_take at_ hus3) fun x v h => h.mono s310) (.cons (hy.mono s510) .nil)) (paired_imp (paired_drop (at_ + 1) hus3) fun x v h => h.mono s310)
end
end Own
set_option Elab.async false
set_option linter.all false
set_option maxRecDepth 100000
set_option maxHeartbeats 4000000
/-! drawn times never make the one line later -/
namespace Own
open PySem PySem.Spec PyProof.Rows L2 He OwnR
section
variable {P : Program} {w : World} {K : PySem.W.Frag} {mg : Str → Option Value} {base : Heap}
theorem sc_law_kept : FnScope ["_law_purl_here", "_law_plan_here", "_law_mate", "_law_taken", "_law_k", "_law_wide"] ["_law_purl_here", "_law_plan_here", "_law_mate"] (defScope s_law_kept) := ⟨rfl, rfl, rfl, by decide +kernel, rfl, by decide +kernel, by decide +kernel⟩
theorem b_law_kept (E : Env K mg base) : Binds K (fdAt K (ga K "_law_kept")) ["_law_purl_here", "_law_plan_here", "_law_mate"] [] := (f_law_kept E).bindsN fun _ _ _ _ _ _ us hl => match us, hl with | [_, _, _], _ => rfl
def sp_kept (K : PySem.W.Frag) : Sp := fun vs H Q _ => ∃ (p a b : Addr) (q m : Plan), vs = [.ref p, .ref a, .ref b] ∧ PurlAt H p ∧ PlanAt H a q ∧ PlanOk q ∧ PlanAt H b m ∧ PlanOk m ∧ Below q m ∧ ∀ H', PF p H H' → PurlAt H' p → Q (.bl true) H'
theorem ok_law_kept (E : Env K mg base) : FnOk P w K mg base CX0 5 (ga K "_law_kept") (fdAt K (ga K "_law_kept")) ["_law_purl_here", "_law_plan_here", "_law_mate"] ((sp_kept K)) := by
  refine okD (f_law_kept E) sc_law_kept (fun cdv A outer s H vs Q X hr h => ?_) (fun vs H Q X h => by obtain ⟨_, _, _, _, _, rfl, _⟩ := h; rfl)
  obtain ⟨p, a, b, pq, pm, rfl, hp, ha, oq, hb, om, hB, q⟩ := h
  have e3 : sizeLine = 16777216 := sizeLine_eq
  refine ⟨_, (pss_cons (ps_set (i := 3) sc_law_kept.nd rfl (Or.inl rfl) (pe_call (ok_law_times E) (hr.mono (by decide)) rfl (g_law_times E) (f_law_times E).kp (b_law_times E) .nil pass0 (pa_cons (pv 0) (pa_cons (pv 1) (pa_cons pe_int pa_nil)))))
      (pss_cons (ps_for PassesOwn.never rfl (pi_range2 rfl (n_range E) (pa_cons pe_int (pa_cons pe_int pa_nil))) (pg_name (i := 4) sc_law_kept.nd rfl (Or.inl rfl)) (pss_one (ps_for PassesOwn.never rfl (pi_list (pe_lst (pa_cons pe_bl (pa_cons pe_bl pa_nil)))) (pg_name (i := 5) sc_law_kept.nd rfl (Or.inl rfl)) (pss_one (ps_if (pt_cmpR op_gt (pe_call (ok_law_ended E) (hr.mono (by decide)) rfl (g_law_ended E) (f_law_ended E).kp (b_law_ended E) .nil pass0 (pa_cons (pv 1) (pa_cons (pv 3) (pa_cons (pv 4) (pa_cons (pv 5) pa_nil))))) (pe_call (ok_law_ended E) (hr.mono (by decide)) rfl (g_law_ended E) (f_law_ended E).kp (b_law_ended E) .nil pass0 (pa_cons (pv 2) (pa_cons (pv 3) (pa_cons (pv 4) (pa_cons (pv 5) pa_nil))))) (nomark _)) (pss_one (ps_ret pe_bl)) pss_nil)))))
      (pss_one (ps_ret pe_bl)))), ?_⟩
  refine ⟨_, rfl, _, rfl, p, a, pq, rfl, hp, ha, oq, fun D H1 T f1 hp1 hT => ?_⟩
  have ha1 := ha.pf f1 hp
  have hb1 := hb.pf f1 hp
  refine ⟨_, _, rfl, ⟨by decide, by decide, by decide, by decide⟩, ?_⟩
  refine for_it (walk_range (lo := 1) (n := 8)) (fun i σ H' => Same H1 H' ∧ ∃ (v4 v5 : Option V), σ = [some (.ref p), some (.ref a), some (.ref b), some (.ref D), v4, v5]) ⟨Same.refl _, _, _, rfl⟩ (fun _ _ _ _ _ => trivial) ?_ ?_
  · rintro i y σ H2 H3 hi ⟨s2, v4, v5, rfl⟩ ⟨rfl, rfl⟩
    have ei : (1 : Int) + (i : Nat) = ((i + 1 : Nat) : Int) := by omega
    refine ⟨by show 2 ≤ sizeLine; omega, fun l hl => ⟨l, rfl, ⟨_, SqL.of upd_same⟩, ?_⟩⟩
    have s3 := s2.trans (sNew (o := .lst [.bl false, .bl true]) hl)
    refine for_it (walk_list (K := K) (a := l) (xs := [.bl false, .bl true])) (fun j σ H' => Same (upd H3 l (.lst [.bl false, .bl true])) H' ∧ ∃ (v5 : Option V), σ = [some (.ref p), some (.ref a), some (.ref b), some (.ref D), some (.int ((i + 1 : Nat) : Int)), v5]) ⟨Same.refl _, _, by rw [← ei]; rfl⟩ (fun j σ H' _ h => SqL.of (h.1 _ _ upd_same)) ?_ ?_
    · rintro j y σ H4 H5 hj ⟨s4, v5, rfl⟩ ⟨rfl, hy⟩
      have hw : ∃ wd : Bool, y = .bl wd := by
        match j, hy with
        | 0, h => exact ⟨_, (Option.some.inj h).symm⟩
        | 1, h => exact ⟨_, (Option.some.inj h).symm⟩
        | _ + 2, h => cases h
      obtain ⟨wd, rfl⟩ := hw
      have s14 := s3.trans s4
      refine ⟨_, rfl, _, rfl, _, rfl, _, rfl, a, D, pq, T, i + 1, wd, rfl, ha1.mono s14, oq, hT.mono s14, by omega, by omega, fun H6 e F s6 hR hF hE => ?_⟩
      have s16 := s14.trans s6
      refine ⟨_, rfl, _, rfl, _, rfl, _, rfl, b, D, pm, T, i + 1, wd, rfl, hb1.mono s16, om, hT.mono s16, by omega, by omega, fun H7 e' G s7 hR' hG hE' => ?_⟩
      have le := ends_low oq om hB hR hR' hF hG hE hE'
      refine ⟨_, _, rfl, rfl, _, rfl, ite_f (decide_eq_false (by omega)) ?_⟩
      exact ⟨(s4.trans s6).trans s7, _, rfl⟩
    · rintro σ H4 ⟨s4, v5, rfl⟩
      exact ⟨s3.trans s4, _, _, rfl⟩
  · rintro σ H2 ⟨s2, v4, v5, rfl⟩
    exact q _ (f1.trans (PF.of s2)) (hp1.mono s2)
end
end Own
set_option Elab.async false
set_option linter.all false
set_option maxRecDepth 100000
set_option maxHeartbeats 4000000
/-! one step of the law -/
namespace Own
open PySem PySem.Spec PyProof.Rows L2 He OwnR
section
variable {P : Program} {w : World} {K : PySem.W.Frag} {mg : Str → Option Value} {base : Heap}
theorem sc_law_step_right : FnScope ["_law_purl_here", "_law_plan_here", "_law_mate", "_law_mine", "_law_matey", "_law_word", "_law_other_word"] ["_law_purl_here", "_law_plan_here", "_law_mate"] (defScope s_law_step_right) := ⟨rfl, rfl, rfl, by decide +kernel, rfl, by decide +kernel, by decide +kernel⟩
theorem b_law_step_right (E : Env K mg base) : Binds K (fdAt K (ga K "_law_step_right")) ["_law_purl_here", "_law_plan_here", "_law_mate"] [] := (f_law_step_right E).bindsN fun _ _ _ _ _ _ us hl => match us, hl with | [_, _, _], _ => rfl
theorem in01 {j : Nat} (h : j ≤ 1) : inV (.int (j : Nat)) [.int 0, .int 1] = true := by
  match j, h with
  | 0, _ => rfl
  | 1, _ => rfl
def sp_step (K : PySem.W.Frag) : Sp := fun vs H Q _ => ∃ (p a b : Addr) (q m : Plan), vs = [.ref p, .ref a, .ref b] ∧ PurlAt H p ∧ PlanAt H a q ∧ PlanOk q ∧ PlanAt H b m ∧ PlanOk m ∧ Below q m ∧ ∀ H', PF p H H' → PurlAt H' p → Q (.bl true) H'
theorem ok_law_step_right (E : Env K mg base) : FnOk P w K mg base CX0 17 (ga K "_law_step_right") (fdAt K (ga K "_law_step_right")) ["_law_purl_here", "_law_plan_here", "_law_mate"] ((sp_step K)) := by
  refine okD (f_law_step_right E) sc_law_step_right (fun cdv A outer s H vs Q X hr h => ?_) (fun vs H Q X h => by obtain ⟨_, _, _, _, _, rfl, _⟩ := h; rfl)
  obtain ⟨p, a, b, pq, pm, rfl, hp, ha, oq, hb, om, hB, q⟩ := h
  have e3 : sizeLine = 16777216 := sizeLine_eq
  have hS := hB.sub oq om
  have oL := oq.ok
  have oM := om.ok
  have aL := oq.acyc
  have aM := om.acyc
  refine ⟨_, (pss_cons (ps_par (i := 3) (j := 4) rfl sc_law_step_right.nd rfl rfl (by decide) rfl rfl (pa_cons (pe_call (ok_law_line E) (hr.mono (by decide)) rfl (g_law_line E) (f_law_line E).kp (b_law_line E) .nil pass0 (pa_cons (pv 1) pa_nil)) (pa_cons (pe_call (ok_law_line E) (hr.mono (by decide)) rfl (g_law_line E) (f_law_line E).kp (b_law_line E) .nil pass0 (pa_cons (pv 2) pa_nil)) pa_nil)) (by rfl))
      (pss_cons (ps_if (PW.pt (pw_or (pt_not (pt_val (pe_call (ok_never_later E) (hr.mono (by decide)) rfl (g_never_later E) (f_never_later E).kp (b0_never_later E).choose_spec.2 (b0_never_later E).choose_spec.1 pass0 (pa_cons (pv 3) (pa_cons (pv 4) pa_nil))))) (pw_or (pt_not (pt_val (pe_callN (ok_never_later E) (hr.mono (by decide)) rfl (g_never_later E) (f_never_later E).kp (kb_never_later E).choose_spec pass0 (pa_cons (pv 3) (pa_cons (pv 4) pa_nil)) (pk_cons pe_bl pk_nil)))) (pw_or1 (pt_not (pt_val (pe_call (ok_law_kept E) (hr.mono (by decide)) rfl (g_law_kept E) (f_law_kept E).kp (b_law_kept E) .nil pass0 (pa_cons (pv 0) (pa_cons (pv 1) (pa_cons (pv 2) pa_nil)))))))))) (pss_one (ps_ret pe_bl)) pss_nil)
      (pss_cons (ps_if (PW.pt (pw_or (pt_cmpR (opNotInK K) (pe_call (ok_factor E) (hr.mono (by decide)) rfl (g_factor E) (f_factor E).kp (b_factor E) .nil pass0 (pa_cons (pv 3) (pa_cons (pv 4) pa_nil))) (pe_lst (pa_cons pe_int (pa_cons pe_int pa_nil))) rfl) (pw_or1 (pt_cmpR op_ne (pe_call (ok_head_start E) (hr.mono (by decide)) rfl (g_head_start E) (f_head_start E).kp (b_head_start E) .nil pass0 (pa_cons (pv 3) (pa_cons (pv 4) pa_nil))) pe_int (nomark _))))) (pss_one (ps_ret pe_bl)) pss_nil)
      (pss_cons (ps_for PassesOwn.never rfl (pi_list (pe_ix (ixL K) (pv 1) pe_int (fun _ _ => rfl))) (pg_name (i := 5) sc_law_step_right.nd rfl (Or.inl rfl)) (pss_cons (ps_if (pt_not (pt_val (pe_mtL (pe_call (ok_outlet_lags E) (hr.mono (by decide)) rfl (g_outlet_lags E) (f_outlet_lags E).kp (b_outlet_lags E) .nil pass0 (pa_cons (pv 3) (pa_cons (pv 5) pa_nil))) (q_within E) (ok_Lags_within E) (hr.mono (by decide)) (b_Lags_within E) (pa_cons (pe_call (ok_outlet_lags E) (hr.mono (by decide)) rfl (g_outlet_lags E) (f_outlet_lags E).kp (b_outlet_lags E) .nil pass0 (pa_cons (pv 4) (pa_cons (pv 5) pa_nil))) pa_nil)))) (pss_one (ps_ret pe_bl)) pss_nil)
      (pss_one (ps_for PassesOwn.never rfl (pi_list (pe_ix (ixL K) (pv 1) pe_int (fun _ _ => rfl))) (pg_name (i := 6) sc_law_step_right.nd rfl (Or.inl rfl)) (pss_one (ps_if (pt_not (pt_val (pe_mtL (pe_call (ok_order_lags E) (hr.mono (by decide)) rfl (g_order_lags E) (f_order_lags E).kp (b_order_lags E) .nil pass0 (pa_cons (pv 3) (pa_cons (pv 5) (pa_cons (pv 6) pa_nil)))) (q_within E) (ok_Lags_within E) (hr.mono (by decide)) (b_Lags_within E) (pa_cons (pe_call (ok_order_lags E) (hr.mono (by decide)) rfl (g_order_lags E) (f_order_lags E).kp (b_order_lags E) .nil pass0 (pa_cons (pv 4) (pa_cons (pv 5) (pa_cons (pv 6) pa_nil)))) pa_nil)))) (pss_one (ps_ret pe_bl)) pss_nil))))))
      (pss_one (ps_ret pe_bl)))))), ?_⟩
  refine ⟨_, rfl, a, pq, rfl, ha, oq, fun v1 H1 s1 hv1 => ⟨_, rfl, b, pm, rfl, hb.mono s1, om, fun v2 H2 s2 hv2 => ⟨_, _, rfl, ?_⟩⟩⟩
  have hv1' := hv1.mono (sameI s2)
  refine ⟨_, rfl, _, rfl, v1, v2, lineOf pq, lineOf pm, false, rfl, hv1', hv2, hS, oL, oM, aL, aM, fun H3 s3 => ⟨_, rfl, ite_f (b := !true) rfl ?_⟩⟩
  have s03 := (s1.trans s2).trans s3
  have l13 := hv1'.mono (sameI s3)
  have l23 := hv2.mono (sameI s3)
  refine ⟨_, rfl, _, rfl, rfl, rfl, v1, v2, lineOf pq, lineOf pm, true, rfl, l13, l23, hS, oL, oM, aL, aM, fun H4 s4 => ⟨_, rfl, ite_f (b := !true) rfl ?_⟩⟩
  have s04 := s03.trans s4
  have hp4 := hp.mono s04
  refine ⟨_, rfl, _, rfl, _, rfl, p, a, b, pq, pm, rfl, hp4, ha.mono s04, oq, hb.mono s04, om, hB, fun H5 f5 hp5 => ⟨_, rfl, ite_f (b := !true) rfl ?_⟩⟩
  have si5 := pf_si f5 hp4
  have f05 := (PF.of s04).trans f5
  have ha5 := ha.pf f05 hp
  have l15 := (l13.mono (sameI s4)).mono si5
  have l25 := (l23.mono (sameI s4)).mono si5
  refine ⟨_, rfl, _, rfl, v1, v2, lineOf pq, lineOf pm, rfl, l15, l25, hS, oL, oM, aL, aM, fun H6 j s6 hj => ⟨by show 2 ≤ sizeLine; omega, fun l hl => ?_⟩⟩
  have s7 := s6.trans (sNew (o := .lst [.int 0, .int 1]) hl)
  refine ⟨l, _, rfl, .inl (SqL.of upd_same), rfl, rfl, _, rfl, ite_f (b := !inV (.int (j : Nat)) [.int 0, .int 1]) (by rw [in01 hj]; rfl) ?_⟩
  refine ⟨_, rfl, _, rfl, v1, v2, lineOf pq, lineOf pm, rfl, l15.mono (sameI s7), l25.mono (sameI s7), hS, oL, oM, aL, aM, fun H8 s8 => ⟨rfl, _, rfl, ite_f (b := !decide (V.int 0 = V.int 0)) rfl ?_⟩⟩
  have s58 := s7.trans s8
  have l18 := l15.mono (sameI s58)
  have l28 := l25.mono (sameI s58)
  obtain ⟨lp, lt, lw, us, vs, h1, _, _, h4, _, _⟩ := ha5.mono s58
  have nml : ∀ n ∈ pq.words, n ∈ (lineOf pq).names := fun n hn => oq.names.mpr hn
  have nmm : ∀ n ∈ pq.words, n ∈ (lineOf pm).names := fun n hn => om.names.mpr (hB.words ▸ hn)
  refine ⟨_, rfl, a, _, 3, .ref lw, rfl, rfl, SqL.of h1, rfl, lw, rfl, ⟨_, SqL.of h4⟩, ?_⟩
  refine for_it (walk_list (K := K) (a := lw) (xs := pq.words.map V.str)) (fun i σ H' => Same H8 H' ∧ ∃ (v5 v6 : Option V), σ = [some (.ref p), some (.ref a), some (.ref b), some v1, some v2, v5, v6]) ⟨Same.refl _, _, _, rfl⟩ (fun i σ H' _ h => SqL.of (h.1 _ _ h4)) ?_ ?_
  · rintro i y σ H9 H10 hi ⟨s9, v5, v6, rfl⟩ ⟨rfl, hy⟩
    obtain ⟨n, en, rfl⟩ := map_get hy
    have hn := List.mem_of_getElem? en
    refine ⟨_, rfl, _, rfl, v1, lineOf pq, n, rfl, l18.mono (sameI s9), oL, aL, nml n hn, fun u1 H11 s11 hu1 => ?_⟩
    obtain ⟨_, _, ⟨a1, C1, dx1, tv1, rfl, hC1, ha1, hF1⟩, _⟩ := id hu1
    have s911 := s9.trans s11
    refine ⟨a1, C1, dx1, _, rfl, hC1, ha1, rfl, _, rfl, _, rfl, v2, lineOf pm, n, rfl, l28.mono (sameI s911), oM, aM, nmm n hn, fun u2 H12 s12 hu2 => ?_⟩
    refine ⟨_, u2, _, _, rfl, hu1.mono (sameI s12), hu2, fun k e => by rw [← hS.out]; exact hS.lag n false (lineOf pq).out k e, fun H13 s13 => ⟨_, rfl, ite_f (b := !true) rfl ?_⟩⟩
    have s913 := (s911.trans s12).trans s13
    refine ⟨_, rfl, a, _, 3, .ref lw, rfl, rfl, SqL.of (s913 _ _ h1), rfl, lw, rfl, ⟨_, SqL.of (s913 _ _ h4)⟩, ?_⟩
    refine for_it (walk_list (K := K) (a := lw) (xs := pq.words.map V.str)) (fun i σ H' => Same H8 H' ∧ ∃ (v6 : Option V), σ = [some (.ref p), some (.ref a), some (.ref b), some v1, some v2, some (.str n), v6]) ⟨s913, _, rfl⟩ (fun i σ H' _ h => SqL.of (h.1 _ _ h4)) ?_ ?_
    · rintro i2 y σ H14 H15 hi2 ⟨s14, v6, rfl⟩ ⟨rfl, hy⟩
      obtain ⟨m, em, rfl⟩ := map_get hy
      have hm := List.mem_of_getElem? em
      refine ⟨_, rfl, _, rfl, _, rfl, v1, lineOf pq, n, m, rfl, l18.mono (sameI s14), oL, aL, nml n hn, nml m hm, fun u1 H16 s16 hu1 => ?_⟩
      obtain ⟨_, _, ⟨a1, C1, dx1, tv1, rfl, hC1, ha1, hF1⟩, _⟩ := id hu1
      have s816 := s14.trans s16
      refine ⟨a1, C1, dx1, _, rfl, hC1, ha1, rfl, _, rfl, _, rfl, _, rfl, v2, lineOf pm, n, m, rfl, l28.mono (sameI s816), oM, aM, nmm n hn, nmm m hm, fun u2 H17 s17 hu2 => ?_⟩
      exact ⟨_, u2, _, _, rfl, hu1.mono (sameI s17), hu2, fun k e => hS.lag n true m k e, fun H18 s18 => ⟨_, rfl, ite_f (b := !true) rfl ⟨(s816.trans s17).trans s18, _, rfl⟩⟩⟩
    · rintro σ H14 ⟨s14, v6, rfl⟩
      exact ⟨s14, _, _, rfl⟩
  · rintro σ H9 ⟨s9, v5, v6, rfl⟩
    exact q _ (f05.trans (PF.of (s58.trans s9))) (hp5.mono (s58.trans s9))
end
end Own
set_option Elab.async false
set_option linter.all false
set_option maxRecDepth 100000
set_option maxHeartbeats 4000000
/-! the law -/
namespace Own
open PySem PySem.Spec PyProof.Rows L2 He OwnR
section
variable {P : Program} {w : World} {K : PySem.W.Frag} {mg : Str → Option Value} {base : Heap}
theorem sc_law_right : FnScope ["_law_purl_here", "_law_first", "_law_plan_here", "_law_turn", "_law_later"] ["_law_purl_here"] (defScope s_law_right) := ⟨rfl, rfl, rfl, by decide +kernel, rfl, by decide +kernel, by decide +kernel⟩
theorem b_law_right (E : Env K mg base) : Binds K (fdAt K (ga K "_law_right")) ["_law_purl_here"] [] := (f_law_right E).bindsN fun _ _ _ _ _ _ us hl => match us, hl with | [_], _ => rfl
def sp_right (K : PySem.W.Frag) : Sp := fun vs H Q _ => ∃ (p : Addr), vs = [.ref p] ∧ PurlAt H p ∧ ∀ H', PF p H H' → Q (.bl true) H'
theorem ok_law_right (E : Env K mg base) : FnOk P w K mg base CX0 18 (ga K "_law_right") (fdAt K (ga K "_law_right")) ["_law_purl_here"] ((sp_right K)) := by
  refine okD (f_law_right E) sc_law_right (fun cdv A outer s H vs Q X hr h => ?_) (fun vs H Q X h => by obtain ⟨_, rfl, _⟩ := h; rfl)
  obtain ⟨p, rfl, hp, q⟩ := h
  have e3 : sizeLine = 16777216 := sizeLine_eq
  refine ⟨_, (pss_cons (ps_set (i := 1) sc_law_right.nd rfl (Or.inl rfl) (pe_call (ok_law_plan E) (hr.mono (by decide)) rfl (g_law_plan E) (f_law_plan E).kp (b_law_plan E) .nil pass0 (pa_cons (pv 0) (pa_cons pe_int (pa_cons pe_int pa_nil)))))
      (pss_cons (ps_set (i := 2) sc_law_right.nd rfl (Or.inl rfl) (pv 1))
      (pss_cons (ps_for PassesOwn.never rfl (pi_range1 rfl (n_range E) (pa_cons (pe_op op_add pe_int (pe_call (ok_law_dig E) (hr.mono (by decide)) rfl (g_law_dig E) (f_law_dig E).kp (b_law_dig E) .nil pass0 (pa_cons (pv 0) (pa_cons pe_int pa_nil)))) pa_nil)) (pg_name (i := 3) sc_law_right.nd rfl (Or.inl rfl)) (pss_cons (ps_set (i := 4) sc_law_right.nd rfl (Or.inl rfl) (pe_call (ok_law_loosened E) (hr.mono (by decide)) rfl (g_law_loosened E) (f_law_loosened E).kp (b_law_loosened E) .nil pass0 (pa_cons (pv 0) (pa_cons (pv 2) pa_nil))))
      (pss_cons (ps_if (pt_not (pt_val (pe_call (ok_law_step_right E) (hr.mono (by decide)) rfl (g_law_step_right E) (f_law_step_right E).kp (b_law_step_right E) .nil pass0 (pa_cons (pv 0) (pa_cons (pv 4) (pa_cons (pv 2) pa_nil)))))) (pss_one (ps_ret pe_bl)) pss_nil)
      (pss_one (ps_set (i := 2) sc_law_right.nd rfl (Or.inl rfl) (pv 4))))))
      (pss_one (ps_ret (pe_call (ok_law_step_right E) (hr.mono (by decide)) rfl (g_law_step_right E) (f_law_step_right E).kp (b_law_step_right E) .nil pass0 (pa_cons (pv 0) (pa_cons (pv 2) (pa_cons (pv 1) pa_nil))))))))), ?_⟩
  refine ⟨_, rfl, p, rfl, hp, fun a H1 pl f1 hp1 ha0 ha ok => ?_⟩
  refine ⟨_, rfl, ?_⟩
  refine ⟨_, rfl, p, 4, rfl, hp1, by decide, by decide, fun d H2 hd f2 hp2 => ⟨_, _, rfl, rfl, 1 + (d : Nat), rfl, by omega, by omega, ?_⟩⟩
  refine for_it (walk_range (lo := 0) (n := (1 + (d : Nat) : Int).toNat)) (fun i σ H' => ∃ (b : Addr) (pq : Plan) (v3 v4 : Option V), σ = [some (.ref p), some (.ref a), some (.ref b), v3, v4] ∧ PF p H H' ∧ PurlAt H' p ∧ PlanAt H' a pl ∧ PlanAt H' b pq ∧ PlanOk pq ∧ Below pq pl) ⟨a, pl, _, _, rfl, f1.trans f2, hp2, ha.pf f2 hp1, ha.pf f2 hp1, ok, .refl pl⟩ (fun _ _ _ _ _ => trivial) ?_ ?_
  · rintro i y σ H3 H4 hi ⟨b, pq, v3, v4, rfl, f3, hp3, ha3, hb3, oq, hB⟩ ⟨rfl, rfl⟩
    refine ⟨_, rfl, _, rfl, p, b, pq, rfl, hp3, hb3, oq, fun c H5 pn f5 hp5 hc5 on hBn => ?_⟩
    refine ⟨_, rfl, _, rfl, _, rfl, p, c, b, pn, pq, rfl, hp5, hc5, on, hb3.pf f5 hp3, oq, hBn, fun H6 f6 hp6 => ⟨_, rfl, ite_f (b := !true) rfl ?_⟩⟩
    exact ⟨_, rfl, c, pn, _, _, rfl, (f3.trans f5).trans f6, hp6, ha3.pf (f5.trans f6) hp3, hc5.pf f6 hp5, on, hBn.trans hB⟩
  · rintro σ H3 ⟨b, pq, v3, v4, rfl, f3, hp3, ha3, hb3, oq, hB⟩
    exact ⟨_, rfl, _, rfl, _, rfl, p, b, a, pq, pl, rfl, hp3, hb3, oq, ha3, ok, hB, fun H4 f4 _ => q H4 (f3.trans f4)⟩
theorem sc_law : FnScope ["_law_script", "_law_spot"] ["_law_script"] (defScope s_law) := ⟨rfl, rfl, rfl, by decide +kernel, rfl, by decide +kernel, by decide +kernel⟩
def sp_law (K : PySem.W.Frag) : Sp := fun vs H Q _ => ∃ (a : Addr) (ns : List Int), vs = [.ref a] ∧ SqL K H a (ns.map V.int) ∧ ns.length ≤ 63 ∧ ∀ H', Q (.bl true) H'
theorem ok_law (E : Env K mg base) : FnOk P w K mg base CX0 19 (ga K "law") (fdAt K (ga K "law")) ["_law_script"] ((sp_law K)) := by
  refine okD (f_law E) sc_law (fun cdv A outer s H vs Q X hr h => ?_) (fun vs H Q X h => by obtain ⟨_, _, rfl, _⟩ := h; rfl)
  obtain ⟨a, ns, rfl, hA, h63, q⟩ := h
  have e3 : sizeLine = 16777216 := sizeLine_eq
  refine ⟨_, (pss_one (ps_ret (pe_callB (allK K) rfl (n_all E) boot_all (pa_cons (pe_lc (own := [("_law_spot", 1)]) (g := (gName 1)) rfl sc_law.nd (pi_range1 rfl (n_range E) (pa_cons (pe_callB (call_max2 rfl) rfl (n_max E) boot_max (pa_cons pe_int (pa_cons (pe_callB (call_min2 rfl) rfl (n_min E) boot_min (pa_cons (pe_callB (lenK K) rfl (n_len E) boot_len (pa_cons (pv 0) pa_nil)) (pa_cons pe_int pa_nil))) pa_nil))) pa_nil)) (blkOk_by (own := [("_law_spot", 1)]) (N := (["_law_script", "_law_spot"] : List Str)) (sc := defScope s_law) (by decide +kernel)) (fun _ _ _ _ _ => (pg_name (i := 1) sc_law.nd rfl (Or.inl rfl))) (fun _ _ _ _ _ => pts_nil) (fun _ _ _ _ _ => (pe_call (ok_law_right E) (hr.mono (by decide)) rfl (g_law_right E) (f_law_right E).kp (b_law_right E) .nil pass0 (pa_cons (pe_call (ok_law_purl E) (hr.mono (by decide)) rfl (g_law_purl E) (f_law_purl E).kp (b_law_purl E) .nil pass0 (pa_cons (pv 0) (pa_cons (pv 1) pa_nil))) pa_nil)))) pa_nil)))), ?_⟩
  refine ⟨_, rfl, a, _, rfl, .inl hA, _, _, rfl, _, _, rfl, ?_⟩
  obtain ⟨n, en, hn⟩ : ∃ n : Nat, (if (if (3 : Int) < ((ns.map V.int).length : Nat) then 3 else (((ns.map V.int).length : Nat) : Int)) > 2 then (if (3 : Int) < ((ns.map V.int).length : Nat) then 3 else (((ns.map V.int).length : Nat) : Int)) else 2) = ((n : Nat) : Int) ∧ n ≤ 3 := by
    by_cases c : (3 : Int) < ((ns.map V.int).length : Nat)
    · rw [if_pos c]
      exact ⟨3, rfl, by decide⟩
    · rw [if_neg c]
      by_cases c2 : (((ns.map V.int).length : Nat) : Int) > 2
      · rw [if_pos c2]
        exact ⟨_, rfl, by omega⟩
      · rw [if_neg c2]
        exact ⟨2, rfl, by decide⟩
  rw [en]
  refine ⟨(n : Nat), rfl, by omega, by omega, fun D hD => ?_⟩
  refine lc_map (walk_range (lo := 0) (n := ((n : Nat) : Int).toNat)) hD (fun _ => .bl true) (fun _ => true) (by omega) (fun _ _ => trivial) ?_ ?_
  · rintro k y H2 H3 Nk Ns hk s2 ⟨rfl, rfl⟩ k1 k2
    have hk' : k < n := by omega
    refine ⟨rfl, tyes_if ⟨_, rfl, _, rfl, a, ns, k, ?_, s2.seq hA, by omega, by omega, fun p H4 s4 h0 hp4 => ⟨p, rfl, hp4, fun H5 f5 => k1 rfl _ fun u o e => f5 u o (ne_of_none e h0) (s4 u o e)⟩⟩⟩
    exact congrArg (fun z => [V.ref a, V.int z]) (Int.zero_add (k : Nat))
  · intro H2 s2 h2
    rw [filter_true] at h2
    refine ⟨D, (List.range ((n : Nat) : Int).toNat).map fun _ => true, rfl, SqL.of (h2.trans (by rw [List.map_map]; rfl)), ?_⟩
    have e : ((List.range ((n : Nat) : Int).toNat).map fun _ => true).all id = true := by
      rw [List.all_eq_true]
      intro b hb
      obtain ⟨_, _, rfl⟩ := List.mem_map.mp hb
      rfl
    rw [e]
    exact q H2
end
end Own
set_option Elab.async false
set_option linter.all false
set_option maxRecDepth 100000
set_option maxHeartbeats 4000000
/-! the head's parts joined; the law -/
namespace Own
open PySem PySem.Spec PyProof.Rows L2 He OwnR
theorem all_cut {α : Type} {l : List α} {p : α → Bool} (a n : Nat) (h : ((l.drop a).take n).all p = true) (r : (l.drop (a + n)).all p = true) : (l.drop a).all p = true := by
  rw [← List.take_append_drop n (l.drop a), List.all_append, h, List.drop_drop, r]; rfl
theorem all_td {α : Type} {l : List α} {p : α → Bool} (n : Nat) (h : (l.take n).all p = true) (r : (l.drop n).all p = true) : l.all p = true := by
  rw [← List.take_append_drop n l, List.all_append, h, r]; rfl
theorem map_td {α β : Type} {l : List α} {m : List β} {f : α → β} (n : Nat) (h : (l.take n).map f = m.take n) (r : (l.drop n).map f = m.drop n) : l.map f = m := by
  rw [← List.take_append_drop n l, List.map_append, h, r, List.take_append_drop]
theorem zip_all {α : Type} {ad : α → Nat} {P : α × (Nat × Nat) → Bool} : ∀ {l : List α} {as cs : List Nat}, l.map ad = as → cs.length = as.length → (l.zip (as.zip cs)).all P = true → ∀ d ∈ l, ad d ∈ as ∧ ∃ c ∈ cs, P (d, (ad d, c)) = true
  | [], _, _, _, _, _, d, h => nomatch h
  | x :: l, _, [], e, hl, _, d, hd => by
    subst e
    simp at hl
  | x :: l, _, c :: cs, e, hl, h, d, hd => by
    subst e
    rw [List.map_cons, List.zip_cons_cons, List.zip_cons_cons, List.all_cons] at h
    obtain ⟨h1, h2⟩ := Bool.and_eq_true_iff.mp h
    rcases List.mem_cons.mp hd with rfl | hd
    · exact ⟨List.mem_cons_self, c, List.mem_cons_self, h1⟩
    · obtain ⟨a, c', hc, h3⟩ := zip_all (l := l) (as := l.map ad) (cs := cs) rfl (by simpa using hl) h2 d hd
      exact ⟨List.mem_cons_of_mem _ a, c', List.mem_cons_of_mem _ hc, h3⟩
theorem frG_look {g : Addr → Option Obj} {a : Addr} : ∀ {as : List Addr}, a ∈ as → (frG g as).lookup a = g a
  | b :: as, h => by
    unfold frG
    cases hb : g b with
    | none =>
      rw [List.filterMap_cons, hb]
      show (frG g as).lookup a = g a
      rcases List.mem_cons.mp h with e | h
      · cases q : (frG g as).lookup a with
        | none => rw [e, hb]
        | some o => exact (frG_at as q).symm
      · exact frG_look h
    | some o =>
      rw [List.filterMap_cons, hb]
      show (match a == b with | true => some o | false => (frG g as).lookup a) = g a
      cases q : (a == b) with
      | true => rw [beq_iff_eq.mp q, hb]
      | false =>
        rcases List.mem_cons.mp h with e | h
        · rw [e] at q
          simp at q
        · exact frG_look h
theorem fnG_look {g : Addr → Option Obj} {a : Addr} (h : a ∈ adL) : fnM (frG g adL) a = fnG g a := by
  unfold fnM fnG
  rw [frG_look h] <;> rfl
theorem okG_ok {g : Addr → Option Obj} {d : DefM} {c : Addr} (ha : d.ad (frG g adL) ∈ adL) (hc : c ∈ adL) (h : d.okG g (frG g adL) (d.ad (frG g adL)) c = true) : d.ok (frG g adL) = true := by
  have e1 : (frG g adL).lookup (d.ad (frG g adL)) = g (d.ad (frG g adL)) := frG_look ha
  have e2 : (frG g adL).lookup c = g c := frG_look hc
  unfold DefM.okG at h
  unfold DefM.ok PySem.W.keepIn
  dsimp only
  rw [e1]
  cases q : g (d.ad (frG g adL)) with
  | none => rw [q] at h; cases h
  | some o =>
    obtain ⟨oc, od, dt, osl⟩ := o
    rw [q] at h
    cases dt with
    | func fd =>
      obtain ⟨h1, h2⟩ := ba h
      obtain ⟨h3, h4⟩ := ba h2
      have h5 := of_decide_eq_true h1
      have k : PySem.W.codeIn (frG g adL) (.ref c) d.qual = true := by
        unfold PySem.W.codeIn
        dsimp only
        rw [e2]
        exact h3
      show (true && (PySem.W.codeIn (frG g adL) fd.code d.qual && _)) = true
      rw [h4, h5, k]
      rfl
    | _ => cases h
theorem fnA_in : ∀ a ∈ fnA, a ∈ adL := by decide +kernel
theorem fnC_in : ∀ a ∈ fnC, a ∈ adL := by decide +kernel
theorem fnC_len : fnC.length = fnA.length := by decide +kernel
theorem chk0 : (chk.drop 0).take 1 = [fun K => gloL.all fun x => (Fa.glo x).ok K] := rfl
theorem chk13 : chk.drop 13 = [fun K => fnL.all fun d => d.ok K] := rfl
def hookA : PySem.W.Hook where
  α := List Bool × List FnW
  obs := fun s => obsM (frG s.heap.get? adL)
  val := fun _ => valM
  says := fun _ h => ∃ K : PySem.W.Frag, K.In h ∧ SaysM K
  of := fun _ _ e => ⟨_, frG_in, e⟩
  keeps := fun _ _ _ ⟨K, hK, c⟩ k => ⟨K, PySem.W.Frag.In.keeps hK k, c⟩
noncomputable def obA (s : PySem.W.SharedT) : List Bool × List FnW := obsM (Kf s)
theorem obA_eq (s : PySem.W.SharedT) : obA s = hookA.obs s.abs := by
  have e : HandSHeadRun.getT s = s.abs.heap.get? := funext (HandSHeadRun.getT_eq s)
  show obsM (frG (HandSHeadRun.getT s) adL) = obsM (frG s.abs.heap.get? adL)
  rw [e]
theorem e_ad1 {w : World} {os : OsState} {s : PySem.W.SharedT} (e : endS w os = some s) : ((fnL.take 72).map (fun d => d.ad (Kf s)), (gloL.take 60).all fun x => (Fa.glo x).ok (Kf s)) = (fnA.take 72, true) := by
  have h := h_ad1 w os
  rw [e] at h
  exact Option.some.inj h
theorem e_ad2 {w : World} {os : OsState} {s : PySem.W.SharedT} (e : endS w os = some s) : (PySem.W.staticsOk (importedModules RR.prog.main.body) (PySem.W.boot_heap w.params) s.abs.heap && (PySem.W.gensDone s.abs && PySem.W.laidKept (PySem.W.boot_heap w.params) s.abs.heap), (fnL.drop 72).map (fun d => d.ad (Kf s)), (gloL.drop 60).all fun x => (Fa.glo x).ok (Kf s)) = (true, fnA.drop 72, true) := by
  have h := h_ad2 w os
  rw [e] at h
  exact Option.some.inj h
theorem e_c1 {w : World} {os : OsState} {s : PySem.W.SharedT} (e : endS w os = some s) : ((chk.drop 1).take 5).all (fun f => f (Kf s)) = true := by
  have h := h_c1 w os
  rw [e] at h
  exact Option.some.inj h
theorem e_c6 {w : World} {os : OsState} {s : PySem.W.SharedT} (e : endS w os = some s) : ((chk.drop 6).take 7).all (fun f => f (Kf s)) = true := by
  have h := h_c6 w os
  rw [e] at h
  exact Option.some.inj h
theorem e_f {w : World} {os : OsState} {s : PySem.W.SharedT} (e : endS w os = some s) : ((fnL.zip (fnA.zip fnC)).all (fun p => p.1.okG (HandSHeadRun.getT s) (Kf s) p.2.1 p.2.2), fnA.map fun a => fnG (HandSHeadRun.getT s) a) = (true, fnL.map DefM.val) := by
  have h := h_f w os
  rw [e] at h
  exact Option.some.inj h
theorem e_na {w : World} {os : OsState} {s : PySem.W.SharedT} (e : endS w os = some s) : (s.abs.heap.isNs mainGlobals && ((s.abs.heap.nsKeys mainGlobals).take 75).all fun k => startupNames.contains k || RR.prog.boundNames.contains k) = true := by
  have h := h_na w os
  rw [e] at h
  exact Option.some.inj h
theorem e_nb {w : World} {os : OsState} {s : PySem.W.SharedT} (e : endS w os = some s) : ((s.abs.heap.nsKeys mainGlobals).drop 75).all (fun k => startupNames.contains k || RR.prog.boundNames.contains k) = true := by
  have h := h_nb w os
  rw [e] at h
  exact Option.some.inj h
theorem e_s1 {w : World} {os : OsState} {s : PySem.W.SharedT} (e : endS w os = some s) : ((seenS s).1, (seenS s).2.1, (seenS s).2.2.2) = ((PySem.W.openGood qv loose).1, (PySem.W.openGood qv loose).2.1, (PySem.W.openGood qv loose).2.2.2) := by
  have h := h_s1 w os
  rw [e] at h
  exact Option.some.inj h
theorem e_s2 {w : World} {os : OsState} {s : PySem.W.SharedT} (e : endS w os = some s) : (seenS s).2.2.1 = true := by
  have h := h_s2 w os
  rw [e] at h
  exact Option.some.inj h
theorem ad_all {w : World} {os : OsState} {s : PySem.W.SharedT} (e : endS w os = some s) : fnL.map (fun d => d.ad (Kf s)) = fnA := by
  have a1 := (Prod.mk.inj (e_ad1 e)).1
  have a2 := (Prod.mk.inj (Prod.mk.inj (e_ad2 e)).2).1
  exact map_td 72 a1 a2
theorem glo_all {w : World} {os : OsState} {s : PySem.W.SharedT} (e : endS w os = some s) : gloL.all (fun x => (Fa.glo x).ok (Kf s)) = true := by
  have a1 := (Prod.mk.inj (e_ad1 e)).2
  have a2 := (Prod.mk.inj (Prod.mk.inj (e_ad2 e)).2).2
  exact all_td 60 a1 a2
theorem ok_all {w : World} {os : OsState} {s : PySem.W.SharedT} (e : endS w os = some s) : fnL.all (fun d => d.ok (Kf s)) = true := by
  have h1 := (Prod.mk.inj (e_f e)).1
  have z := zip_all (ad_all e) fnC_len h1
  refine List.all_eq_true.mpr fun d hd => ?_
  obtain ⟨a, c, hc, h⟩ := z d hd
  exact okG_ok (fnA_in _ a) (fnC_in _ hc) h
theorem fn_all {w : World} {os : OsState} {s : PySem.W.SharedT} (e : endS w os = some s) : fnL.map (fun d => fnM (Kf s) (d.ad (Kf s))) = fnL.map DefM.val := by
  have h2 := (Prod.mk.inj (e_f e)).2
  have h3 : (fnL.map fun d => d.ad (Kf s)).map (fnM (Kf s)) = fnL.map DefM.val := by
    rw [ad_all e, ← h2]
    exact List.map_congr_left fun a ha => fnG_look (fnA_in a ha)
  rw [List.map_map] at h3
  exact h3
theorem c0_all {w : World} {os : OsState} {s : PySem.W.SharedT} (e : endS w os = some s) : ((chk.drop 0).take 1).all (fun f => f (Kf s)) = true := by
  have k := glo_all e
  rw [chk0, List.all_cons, List.all_nil]
  show ((gloL.all fun x => (Fa.glo x).ok (Kf s)) && true) = true
  rw [k]
  rfl
theorem c13_all {w : World} {os : OsState} {s : PySem.W.SharedT} (e : endS w os = some s) : (chk.drop 13).all (fun f => f (Kf s)) = true := by
  have k := ok_all e
  rw [chk13, List.all_cons, List.all_nil]
  show ((fnL.all fun d => d.ok (Kf s)) && true) = true
  rw [k]
  rfl
theorem chk_all {w : World} {os : OsState} {s : PySem.W.SharedT} (e : endS w os = some s) : chk.all (fun f => f (Kf s)) = true := by
  have c0 := c0_all e
  have c1 := e_c1 e
  have c6 := e_c6 e
  have h : (chk.drop 0).all (fun f => f (Kf s)) = true := all_cut 0 1 c0 (all_cut 1 5 c1 (all_cut 6 7 c6 (c13_all e)))
  rw [List.drop_zero] at h
  exact h
theorem says_all {w : World} {os : OsState} {s : PySem.W.SharedT} (e : endS w os = some s) : obsM (Kf s) = valM := by
  unfold obsM valM
  rw [fn_all e, List.map_congr_left (List.all_eq_true.mp (chk_all e))]
theorem look_all {w : World} {os : OsState} {s : PySem.W.SharedT} (e : endS w os = some s) : HandSHeadRun.looksF RR.prog (PySem.W.boot_heap w.params) s.abs = true := by
  obtain ⟨a1, a2⟩ := Bool.and_eq_true_iff.mp (Prod.mk.inj (e_ad2 e)).1
  obtain ⟨b1, b2⟩ := Bool.and_eq_true_iff.mp (e_na e)
  have nb : PySem.W.namesBound RR.prog s.abs.heap = true := by
    unfold PySem.W.namesBound
    rw [b1, all_td 75 b2 (e_nb e)]; rfl
  unfold HandSHeadRun.looksF
  rw [Bool.and_assoc, Bool.and_assoc]
  exact Bool.and_eq_true_iff.mpr ⟨a1, Bool.and_eq_true_iff.mpr ⟨nb, a2⟩⟩
theorem seen_all {w : World} {os : OsState} {s : PySem.W.SharedT} (e : endS w os = some s) : seenS s = PySem.W.openGood qv loose := by
  obtain ⟨a1, a2⟩ := Prod.mk.inj (e_s1 e)
  obtain ⟨a2, a3⟩ := Prod.mk.inj a2
  have b : (seenS s).2.2.1 = (PySem.W.openGood qv loose).2.2.1 := e_s2 e
  exact Prod.ext a1 (Prod.ext a2 (Prod.ext b a3))
theorem headRun (w : World) : HandSHeadRun.RunEq RR qv hookA obA 20000 loose w := by
  intro os
  have l := h_s2 w os
  cases e : endS w os with
  | none => rw [e] at l; cases l
  | some s =>
    have e' : HandSHeadRun.endF (HandSHeadRun.stepQ (HandSHeadRun.denQ HandSHeadRun.tabQ) RR.prog w) 20000 RR.prog w os = some s := e
    have m := look_all e
    have v := seen_all e
    have c := says_all e
    rw [e']
    exact congrArg some (Prod.ext m (Prod.ext v c))
theorem head_law {w : World} {K : PySem.W.Frag} {h : Heap} {mg : Str → Option Value} {f : Addr} (X : K.In h) (G : h.Ns mainGlobals mg) (hfa : mg ("law" : Str) = some (.ref f)) (c : SaysM K) :
    ∃ fd : FuncData, (∀ (s : Shared) (v : Value), BindsTo s fd ⟨[v], []⟩ [("_law_script", v)]) ∧ ∀ base : Heap, K.In base → base.Ns mainGlobals mg → FnOk (PySem.Challenge.rw_owntimes_k86_whole_loosened_lines).prog w K mg base CX0 19 f fd ["_law_script"] (sp_law K) := by
  have E : Env K mg h := ⟨c, X, G⟩
  have e := hfa.symm.trans (g_law E)
  cases e
  have b := FunD.bindsA (ps := ["_law_script"]) (f_law E) fun _ _ _ _ _ _ us hl => match us, hl with | [_], _ => rfl
  exact ⟨fdAt K (ga K "law"), fun s v => b s [v] rfl, fun base X' G' => ok_law ⟨c, X', G'⟩⟩
end Own
open PySem PySem.W PySem.Calls PyProof.Rows
theorem PySem.Challenge.cw_owntimes_k86_whole_loosened_lines_holds : PySem.Challenge.rw_owntimes_k86_whole_loosened_lines.Holds := by
  w_on; o_law
  refine HandSHeadRun.head_any (r := OpenLaw.row PySem.Challenge.rw_owntimes_k86_whole_loosened_lines) (q := Own.qv) (H := Own.hookA) (ob := Own.obA) (M := 20000) (loose := Own.loose) (d := HandSHeadRun.topDef (OpenLaw.row PySem.Challenge.rw_owntimes_k86_whole_loosened_lines).prog 142) (kwd := []) Own.obA_eq
    (by kernel_rfl) (fun s => by kernel_rfl) Own.headRun (by kernel_rfl) (by kernel_rfl) (by kernel_rfl) (by rfl) (by first | assumption | decide +kernel) (by decide +kernel) ⟨rfl, rfl, rfl, rfl, rfl, by decide +kernel⟩ ?hw ?hc
  case hw => w_witness2
  case hc =>
    refine L2.walk_ofE (l := PySem.Challenge.rw_owntimes_k86_whole_loosened_lines) (n := 63) (k := 19) (x := "_law_script") (CX := L2.CX0) rfl (by decide) (by kernel_rfl) ⟨by decide, by decide, by decide⟩ ?F (fun _ _ _ _ z => z)
    intro w mg fa h Y G hmg0
    obtain ⟨K, KX, c⟩ := Y
    have hmg : mg ("law" : PySem.Str) = some (.ref fa) := by
      have e : (HandSHeadRun.topDef (OpenLaw.row PySem.Challenge.rw_owntimes_k86_whole_loosened_lines).prog 142).name = ("law" : PySem.Str) := by kernel_rfl
      rw [← e]
      exact hmg0
    obtain ⟨fd, hb, hF⟩ := Own.head_law (w := w) KX G hmg c
    exact ⟨K, fd, Own.sp_law K, KX, hb, fun H a ns hl _ hS => ⟨a, ns, rfl, hS, hl, fun _ => rfl⟩, hF⟩
