import PyProof.Rows.All
import Wide.All
import OpenK.AllK
import Wide.FinOn
import KE.KStateDown
import KE.Datum
import KE.SortKeyHeap
import HandS.ForMost
import HandS.Walk
import HandS.Defaults
import HandS.MakeKwOnly
import HandS.Property
import HandS.OwnEq
import HandS.IsInst
import HandS.Deep
import HandS.Wide
import HandS.Zip
import HandS.Conv
import HandS.Lambda
import HandS.EndTab
import HandS.SortKw
import HandS.HeadWalk
import HandS.HeadHook4
import HandS.Head2
import PySem.Challenge.RW_surenear_k94_whole_catalogs_by_a_plain_o
set_option Elab.async false
set_option linter.all false
set_option maxRecDepth 100000
set_option maxHeartbeats 4000000
/-! The text of the row by places; what is asked of the head. -/
namespace K94
open PySem PySem.Spec PyProof.Rows L2
/-! ### the text -/
def top (i : Nat) : Stmt := PySem.Challenge.pw_surenear_k94_whole_catalogs_by_a_plain_o.main.body.getD i (.Pass ⟨0, 0, 0, 0⟩)
abbrev s_string_part : Stmt := top 9
abbrev s_value_part : Stmt := top 10
abbrev s_row_of : Stmt := top 11
abbrev s_check_key : Stmt := top 12
abbrev s_fold : Stmt := top 13
abbrev s_mark_of : Stmt := top 14
abbrev s_Note_init : Stmt := inClass (top 16) 0
abbrev s_Note_lives_at : Stmt := inClass (top 16) 1
abbrev s_Note_closed_by : Stmt := inClass (top 16) 3
abbrev s_Note_owned : Stmt := inClass (top 16) 4
abbrev s_Note_eq : Stmt := inClass (top 16) 5
abbrev s_Segment_init : Stmt := inClass (top 17) 0
abbrev s_Segment_eq : Stmt := inClass (top 17) 1
abbrev s_Region_init : Stmt := inClass (top 19) 0
abbrev s_Region_eq : Stmt := inClass (top 19) 1
abbrev s_Ledger_init : Stmt := inClass (top 21) 0
abbrev s_Ledger_is_needed : Stmt := inClass (top 21) 3
abbrev s_Ledger_tidy : Stmt := inClass (top 21) 4
abbrev s_Ledger_note_of : Stmt := inClass (top 21) 5
abbrev s_Ledger_end : Stmt := inClass (top 21) 6
abbrev s_Ledger_put : Stmt := inClass (top 21) 7
abbrev s_Ledger_drop : Stmt := inClass (top 21) 8
abbrev s_Ledger_pin : Stmt := inClass (top 21) 9
abbrev s_Ledger_unpin : Stmt := inClass (top 21) 10
abbrev s_Ledger_lift : Stmt := inClass (top 21) 11
abbrev s_Ledger_own : Stmt := inClass (top 21) 14
abbrev s_Ledger_segment_of : Stmt := inClass (top 21) 16
abbrev s_put_route : Stmt := top 23
abbrev s_Catalog_init : Stmt := inClass (top 24) 0
abbrev s_Catalog_shard_of : Stmt := inClass (top 24) 2
abbrev s_Catalog_title_of : Stmt := inClass (top 24) 3
abbrev s_Catalog_turns : Stmt := inClass (top 24) 5
abbrev s_Catalog_close : Stmt := inClass (top 24) 6
abbrev s_Catalog_settle : Stmt := inClass (top 24) 7
abbrev s_Catalog_own : Stmt := inClass (top 24) 8
abbrev s_Catalog_forget : Stmt := inClass (top 24) 9
abbrev s_Catalog_write : Stmt := inClass (top 24) 10
abbrev s_Catalog_change : Stmt := inClass (top 24) 11
abbrev s_Catalog_apply : Stmt := inClass (top 24) 12
abbrev s_Norms_init : Stmt := inClass (top 28) 0
abbrev s_Norms_eq : Stmt := inClass (top 28) 4
abbrev s_same_value : Stmt := top 30
abbrev s_same_fields : Stmt := top 31
abbrev s_Record_init : Stmt := inClass (top 32) 0
abbrev s_Record_value : Stmt := inClass (top 32) 1
abbrev s_Record_eq : Stmt := inClass (top 32) 3
abbrev s_is_letter : Stmt := top 38
abbrev s_is_digit : Stmt := top 39
abbrev s_is_field_name : Stmt := top 40
abbrev s_kind_of_value : Stmt := top 41
abbrev s_words_fit : Stmt := top 42
abbrev s_Schema_init : Stmt := inClass (top 43) 0
abbrev s_Schema_least : Stmt := inClass (top 43) 1
abbrev s_Schema_greatest : Stmt := inClass (top 43) 2
abbrev s_Schema_has_vector : Stmt := inClass (top 43) 5
abbrev s_Schema_has_fields : Stmt := inClass (top 43) 6
abbrev s_Schema_contains : Stmt := inClass (top 43) 7
abbrev s_Schema_check : Stmt := inClass (top 43) 8
abbrev s_Schema_eq : Stmt := inClass (top 43) 9
abbrev s_l_row : Stmt := top 45
abbrev s_l_next : Stmt := top 46
abbrev s_l_schema : Stmt := top 47
abbrev s_l_vector : Stmt := top 48
abbrev s_l_record : Stmt := top 49
abbrev s_l_begin : Stmt := top 50
abbrev s_l_close : Stmt := top 51
abbrev s_l_trim : Stmt := top 52
abbrev s_l_shard : Stmt := top 53
abbrev s_l_turns : Stmt := top 54
abbrev s_l_ended : Stmt := top 55
abbrev s_l_own : Stmt := top 56
abbrev s_l_write : Stmt := top 57
abbrev s_l_moments : Stmt := top 58
abbrev s_l_do : Stmt := top 59
abbrev s_l_some : Stmt := top 60
abbrev s_l_deed : Stmt := top 61
abbrev s_l_alike : Stmt := top 62
abbrev s_law : Stmt := top 63
/-! ### addresses -/
/-- a keyword default that is an object -/
def kwAt (p : Str × Option Str) (x : Str) (K : PySem.W.Frag) : Addr := match K.lookup (He.fAd K p) with
  | some ⟨_, _, .func z, _⟩ => (match z.kwdefaults with
    | .ref D => (match PySem.W.nsIn K D x with
      | some (some (.ref a)) => a
      | _ => 0)
    | _ => 0)
  | _ => 0
/-- a tuple of these stands at a -/
def tupAt (K : PySem.W.Frag) (a : Addr) (vs : List He.Dv) : Bool := match K.lookup a with
  | some ⟨.type c, _, .seq its _, _⟩ => decide (c = "tuple") && (decide (its.size ≤ sizeLine) && He.relAll (vs.map (He.Dv.v K)) its.toList)
  | _ => false
theorem tupAt_sq {K : PySem.W.Frag} {a : Addr} {vs : List He.Dv} (h : tupAt K a vs = true) (H : Hp) : SqT K H a (vs.map (He.Dv.v K)) := by
  unfold tupAt at h
  split at h
  · rename_i c d its n sl q
    obtain ⟨h1, h2⟩ := Bool.and_eq_true_iff.mp h
    obtain ⟨h3, h4⟩ := Bool.and_eq_true_iff.mp h2
    exact .inr ⟨_, its, n, q, congrArg Value.type (of_decide_eq_true h1), rfl, of_decide_eq_true h3, He.relAll_ok h4⟩
  · cases h
/-- the value under a key of the table RANGES -/
def rgAt (x : Str) (K : PySem.W.Frag) : Addr := match PySem.W.nsIn K (He.ga K "RANGES") x with
  | some (some (.ref a)) => a
  | _ => 0
/-- the getter of a property -/
def getAt (C f : Str) (K : PySem.W.Frag) : Addr := match PySem.W.recIn K (He.ma K (He.ga K C) f) "property" with
  | some (.ref q :: _) => q
  | _ => 0
/-- the class has a property of that name -/
def propB (K : PySem.W.Frag) (C f : Str) : Bool :=
  decide (PySem.W.findIn K (.ref (He.ga K C)) f = some (some (.ref (He.ma K (He.ga K C) f)))) &&
    (decide (PySem.W.specialIn K (.ref (He.ma K (He.ga K C) f)) "__get__" = some (some (.builtin "property.__get__"))) && (decide (PySem.W.takesIn K (.ref (He.ma K (He.ga K C) f)) = some true) &&
      match PySem.W.recIn K (He.ma K (He.ga K C) f) "property" with
      | some (.ref q :: _) => decide (q = getAt C f K)
      | _ => false))
theorem propB_ok {K : PySem.W.Frag} {C f : Str} (h : propB K C f = true) : PropOf K (He.ga K C) f (He.ma K (He.ga K C) f) (getAt C f K) := by
  unfold propB at h
  obtain ⟨h1, h⟩ := Bool.and_eq_true_iff.mp h
  obtain ⟨h2, h⟩ := Bool.and_eq_true_iff.mp h
  obtain ⟨h3, h⟩ := Bool.and_eq_true_iff.mp h
  refine ⟨of_decide_eq_true h1, of_decide_eq_true h2, of_decide_eq_true h3, ?_⟩
  split at h
  · rename_i q r e
    have e2 := of_decide_eq_true h
    subst e2
    exact ⟨r, e⟩
  · cases h
/-- a def's data by its address -/
def fnAt (K : PySem.W.Frag) (a : Addr) : He.FnW := match K.lookup a with
  | some ⟨_, _, .func z, _⟩ => some (z.name, z.qualname, z.params, z.body, z.scope, z.globals, z.closure, z.builtins)
  | _ => none
def fnAtB (K : PySem.W.Frag) (a : Addr) (q : Str) : Bool := PySem.W.keepIn K (.ref a) && match K.lookup a with
  | some ⟨_, _, .func z, _⟩ => PySem.W.codeIn K z.code q && decide (z.defaults = .none)
  | _ => false
theorem fnAt_ok {K : PySem.W.Frag} {a : Addr} {x q : Str} {ar : Arguments} {b : List Stmt} {sc : Scope} (e : fnAt K a = some (x, q, ar, .stmts b, sc, mainGlobals, [], builtinsNs)) (c : fnAtB K a q = true) :
    ∃ z, FunD K x q ar b sc [] [] a z := by
  unfold fnAtB at c
  obtain ⟨kp, c⟩ := Bool.and_eq_true_iff.mp c
  unfold fnAt at e
  split at c
  · rename_i oc od z sl lk
    rw [lk] at e
    obtain ⟨c1, c2⟩ := Bool.and_eq_true_iff.mp c
    obtain ⟨n1, n2, n3, n4, n5, n6, n7, n8, n9, n10, n11, n12, n13, n14, n15⟩ := z
    have e2 : (some (n1, n2, n3, n4, n5, n6, n7, n15) : He.FnW) = some (x, q, ar, .stmts b, sc, mainGlobals, [], builtinsNs) := e
    simp only [Option.some.injEq, Prod.mk.injEq] at e2
    obtain ⟨h1, h2, h3, h4, h5, h6, h7, h8⟩ := e2
    subst h1 h2 h3 h4 h5 h6 h7 h8
    have e3 : n8 = .none := of_decide_eq_true c2
    subst e3
    exact ⟨_, ⟨oc, od, .none, n9, n10, n11, n12, n13, n14, sl, rfl, lk, c1, .inl ⟨rfl, rfl⟩, .inl rfl⟩, kp⟩
  · cases c
/-! ### the defs -/
def d_string_part : He.DefD := ⟨("string_part", none), "string_part", "string_part", defArgs s_string_part, defBody s_string_part, defScope s_string_part, [], []⟩
def d_value_part : He.DefD := ⟨("value_part", none), "value_part", "value_part", defArgs s_value_part, defBody s_value_part, defScope s_value_part, [], []⟩
def d_row_of : He.DefD := ⟨("row_of", none), "row_of", "row_of", defArgs s_row_of, defBody s_row_of, defScope s_row_of, [], []⟩
def d_check_key : He.DefD := ⟨("check_key", none), "check_key", "check_key", defArgs s_check_key, defBody s_check_key, defScope s_check_key, [], []⟩
def d_fold : He.DefD := ⟨("fold", none), "fold", "fold", defArgs s_fold, defBody s_fold, defScope s_fold, [], []⟩
def d_mark_of : He.DefD := ⟨("mark_of", none), "mark_of", "mark_of", defArgs s_mark_of, defBody s_mark_of, defScope s_mark_of, [], []⟩
def d_Note_init : He.DefD := ⟨("Note", some "__init__"), "__init__", "Note.__init__", defArgs s_Note_init, defBody s_Note_init, defScope s_Note_init, [], [("died", .non), ("record", .non), ("segment", .non), ("leaves", .adr (kwAt ("Note", some "__init__") "leaves"))]⟩
def d_Note_lives_at : He.DefD := ⟨("Note", some "lives_at"), "lives_at", "Note.lives_at", defArgs s_Note_lives_at, defBody s_Note_lives_at, defScope s_Note_lives_at, [], []⟩
def d_Note_closed_by : He.DefD := ⟨("Note", some "closed_by"), "closed_by", "Note.closed_by", defArgs s_Note_closed_by, defBody s_Note_closed_by, defScope s_Note_closed_by, [], []⟩
def d_Note_owned : He.DefD := ⟨("Note", some "owned"), "owned", "Note.owned", defArgs s_Note_owned, defBody s_Note_owned, defScope s_Note_owned, [], []⟩
def d_Segment_init : He.DefD := ⟨("Segment", some "__init__"), "__init__", "Segment.__init__", defArgs s_Segment_init, defBody s_Segment_init, defScope s_Segment_init, [], []⟩
def d_Region_init : He.DefD := ⟨("Region", some "__init__"), "__init__", "Region.__init__", defArgs s_Region_init, defBody s_Region_init, defScope s_Region_init, [], []⟩
def d_Ledger_init : He.DefD := ⟨("Ledger", some "__init__"), "__init__", "Ledger.__init__", defArgs s_Ledger_init, defBody s_Ledger_init, defScope s_Ledger_init, [], []⟩
def d_Ledger_is_needed : He.DefD := ⟨("Ledger", some "is_needed"), "is_needed", "Ledger.is_needed", defArgs s_Ledger_is_needed, defBody s_Ledger_is_needed, defScope s_Ledger_is_needed, [], []⟩
def d_Ledger_tidy : He.DefD := ⟨("Ledger", some "tidy"), "tidy", "Ledger.tidy", defArgs s_Ledger_tidy, defBody s_Ledger_tidy, defScope s_Ledger_tidy, [], []⟩
def d_Ledger_note_of : He.DefD := ⟨("Ledger", some "note_of"), "note_of", "Ledger.note_of", defArgs s_Ledger_note_of, defBody s_Ledger_note_of, defScope s_Ledger_note_of, [], []⟩
def d_Ledger_end : He.DefD := ⟨("Ledger", some "end"), "end", "Ledger.end", defArgs s_Ledger_end, defBody s_Ledger_end, defScope s_Ledger_end, [], []⟩
def d_Ledger_put : He.DefD := ⟨("Ledger", some "put"), "put", "Ledger.put", defArgs s_Ledger_put, defBody s_Ledger_put, defScope s_Ledger_put, [], []⟩
def d_Ledger_drop : He.DefD := ⟨("Ledger", some "drop"), "drop", "Ledger.drop", defArgs s_Ledger_drop, defBody s_Ledger_drop, defScope s_Ledger_drop, [], []⟩
def d_Ledger_pin : He.DefD := ⟨("Ledger", some "pin"), "pin", "Ledger.pin", defArgs s_Ledger_pin, defBody s_Ledger_pin, defScope s_Ledger_pin, [], []⟩
def d_Ledger_unpin : He.DefD := ⟨("Ledger", some "unpin"), "unpin", "Ledger.unpin", defArgs s_Ledger_unpin, defBody s_Ledger_unpin, defScope s_Ledger_unpin, [], []⟩
def d_Ledger_lift : He.DefD := ⟨("Ledger", some "lift"), "lift", "Ledger.lift", defArgs s_Ledger_lift, defBody s_Ledger_lift, defScope s_Ledger_lift, [], []⟩
def d_Ledger_own : He.DefD := ⟨("Ledger", some "own"), "own", "Ledger.own", defArgs s_Ledger_own, defBody s_Ledger_own, defScope s_Ledger_own, [], []⟩
def d_Ledger_segment_of : He.DefD := ⟨("Ledger", some "segment_of"), "segment_of", "Ledger.segment_of", defArgs s_Ledger_segment_of, defBody s_Ledger_segment_of, defScope s_Ledger_segment_of, [], []⟩
def d_put_route : He.DefD := ⟨("put_route", none), "put_route", "put_route", defArgs s_put_route, defBody s_put_route, defScope s_put_route, [], []⟩
def d_Catalog_init : He.DefD := ⟨("Catalog", some "__init__"), "__init__", "Catalog.__init__", defArgs s_Catalog_init, defBody s_Catalog_init, defScope s_Catalog_init, [], []⟩
def d_Catalog_shard_of : He.DefD := ⟨("Catalog", some "shard_of"), "shard_of", "Catalog.shard_of", defArgs s_Catalog_shard_of, defBody s_Catalog_shard_of, defScope s_Catalog_shard_of, [], []⟩
def d_Catalog_title_of : He.DefD := ⟨("Catalog", some "title_of"), "title_of", "Catalog.title_of", defArgs s_Catalog_title_of, defBody s_Catalog_title_of, defScope s_Catalog_title_of, [], []⟩
def d_Catalog_turns : He.DefD := ⟨("Catalog", some "turns"), "turns", "Catalog.turns", defArgs s_Catalog_turns, defBody s_Catalog_turns, defScope s_Catalog_turns, [], []⟩
def d_Catalog_close : He.DefD := ⟨("Catalog", some "close"), "close", "Catalog.close", defArgs s_Catalog_close, defBody s_Catalog_close, defScope s_Catalog_close, [], []⟩
def d_Catalog_settle : He.DefD := ⟨("Catalog", some "settle"), "settle", "Catalog.settle", defArgs s_Catalog_settle, defBody s_Catalog_settle, defScope s_Catalog_settle, [], []⟩
def d_Catalog_own : He.DefD := ⟨("Catalog", some "own"), "own", "Catalog.own", defArgs s_Catalog_own, defBody s_Catalog_own, defScope s_Catalog_own, [], []⟩
def d_Catalog_forget : He.DefD := ⟨("Catalog", some "forget"), "forget", "Catalog.forget", defArgs s_Catalog_forget, defBody s_Catalog_forget, defScope s_Catalog_forget, [], []⟩
def d_Catalog_write : He.DefD := ⟨("Catalog", some "write"), "write", "Catalog.write", defArgs s_Catalog_write, defBody s_Catalog_write, defScope s_Catalog_write, [], []⟩
def d_Catalog_change : He.DefD := ⟨("Catalog", some "change"), "change", "Catalog.change", defArgs s_Catalog_change, defBody s_Catalog_change, defScope s_Catalog_change, [], []⟩
def d_Catalog_apply : He.DefD := ⟨("Catalog", some "apply"), "apply", "Catalog.apply", defArgs s_Catalog_apply, defBody s_Catalog_apply, defScope s_Catalog_apply, [], []⟩
def d_Norms_init : He.DefD := ⟨("Norms", some "__init__"), "__init__", "Norms.__init__", defArgs s_Norms_init, defBody s_Norms_init, defScope s_Norms_init, [], []⟩
def d_same_value : He.DefD := ⟨("same_value", none), "same_value", "same_value", defArgs s_same_value, defBody s_same_value, defScope s_same_value, [], []⟩
def d_same_fields : He.DefD := ⟨("same_fields", none), "same_fields", "same_fields", defArgs s_same_fields, defBody s_same_fields, defScope s_same_fields, [], []⟩
def d_Record_init : He.DefD := ⟨("Record", some "__init__"), "__init__", "Record.__init__", defArgs s_Record_init, defBody s_Record_init, defScope s_Record_init, [], [("fields", .adr (kwAt ("Record", some "__init__") "fields"))]⟩
def d_Record_eq : He.DefD := ⟨("Record", some "__eq__"), "__eq__", "Record.__eq__", defArgs s_Record_eq, defBody s_Record_eq, defScope s_Record_eq, [], []⟩
def d_is_letter : He.DefD := ⟨("is_letter", none), "is_letter", "is_letter", defArgs s_is_letter, defBody s_is_letter, defScope s_is_letter, [], []⟩
def d_is_digit : He.DefD := ⟨("is_digit", none), "is_digit", "is_digit", defArgs s_is_digit, defBody s_is_digit, defScope s_is_digit, [], []⟩
def d_is_field_name : He.DefD := ⟨("is_field_name", none), "is_field_name", "is_field_name", defArgs s_is_field_name, defBody s_is_field_name, defScope s_is_field_name, [], []⟩
def d_kind_of_value : He.DefD := ⟨("kind_of_value", none), "kind_of_value", "kind_of_value", defArgs s_kind_of_value, defBody s_kind_of_value, defScope s_kind_of_value, [], []⟩
def d_words_fit : He.DefD := ⟨("words_fit", none), "words_fit", "words_fit", defArgs s_words_fit, defBody s_words_fit, defScope s_words_fit, [], []⟩
def d_Schema_init : He.DefD := ⟨("Schema", some "__init__"), "__init__", "Schema.__init__", defArgs s_Schema_init, defBody s_Schema_init, defScope s_Schema_init, [], [("width", .str "small")]⟩
def d_Schema_has_vector : He.DefD := ⟨("Schema", some "has_vector"), "has_vector", "Schema.has_vector", defArgs s_Schema_has_vector, defBody s_Schema_has_vector, defScope s_Schema_has_vector, [], []⟩
def d_Schema_has_fields : He.DefD := ⟨("Schema", some "has_fields"), "has_fields", "Schema.has_fields", defArgs s_Schema_has_fields, defBody s_Schema_has_fields, defScope s_Schema_has_fields, [], []⟩
def d_Schema_contains : He.DefD := ⟨("Schema", some "__contains__"), "__contains__", "Schema.__contains__", defArgs s_Schema_contains, defBody s_Schema_contains, defScope s_Schema_contains, [], []⟩
def d_Schema_check : He.DefD := ⟨("Schema", some "check"), "check", "Schema.check", defArgs s_Schema_check, defBody s_Schema_check, defScope s_Schema_check, [], []⟩
def d_l_row : He.DefD := ⟨("_law_row", none), "_law_row", "_law_row", defArgs s_l_row, defBody s_l_row, defScope s_l_row, [], []⟩
def d_l_next : He.DefD := ⟨("_law_next", none), "_law_next", "_law_next", defArgs s_l_next, defBody s_l_next, defScope s_l_next, [], []⟩
def d_l_schema : He.DefD := ⟨("_law_schema", none), "_law_schema", "_law_schema", defArgs s_l_schema, defBody s_l_schema, defScope s_l_schema, [], []⟩
def d_l_vector : He.DefD := ⟨("_law_vector", none), "_law_vector", "_law_vector", defArgs s_l_vector, defBody s_l_vector, defScope s_l_vector, [], []⟩
def d_l_record : He.DefD := ⟨("_law_record", none), "_law_record", "_law_record", defArgs s_l_record, defBody s_l_record, defScope s_l_record, [], []⟩
def d_l_begin : He.DefD := ⟨("_law_begin", none), "_law_begin", "_law_begin", defArgs s_l_begin, defBody s_l_begin, defScope s_l_begin, [], []⟩
def d_l_close : He.DefD := ⟨("_law_close", none), "_law_close", "_law_close", defArgs s_l_close, defBody s_l_close, defScope s_l_close, [], []⟩
def d_l_trim : He.DefD := ⟨("_law_trim", none), "_law_trim", "_law_trim", defArgs s_l_trim, defBody s_l_trim, defScope s_l_trim, [], []⟩
def d_l_shard : He.DefD := ⟨("_law_shard", none), "_law_shard", "_law_shard", defArgs s_l_shard, defBody s_l_shard, defScope s_l_shard, [], []⟩
def d_l_turns : He.DefD := ⟨("_law_turns", none), "_law_turns", "_law_turns", defArgs s_l_turns, defBody s_l_turns, defScope s_l_turns, [], []⟩
def d_l_ended : He.DefD := ⟨("_law_ended", none), "_law_ended", "_law_ended", defArgs s_l_ended, defBody s_l_ended, defScope s_l_ended, [], []⟩
def d_l_own : He.DefD := ⟨("_law_own", none), "_law_own", "_law_own", defArgs s_l_own, defBody s_l_own, defScope s_l_own, [], []⟩
def d_l_write : He.DefD := ⟨("_law_write", none), "_law_write", "_law_write", defArgs s_l_write, defBody s_l_write, defScope s_l_write, [], []⟩
def d_l_moments : He.DefD := ⟨("_law_moments", none), "_law_moments", "_law_moments", defArgs s_l_moments, defBody s_l_moments, defScope s_l_moments, [], []⟩
def d_l_do : He.DefD := ⟨("_law_do", none), "_law_do", "_law_do", defArgs s_l_do, defBody s_l_do, defScope s_l_do, [], []⟩
def d_l_some : He.DefD := ⟨("_law_some", none), "_law_some", "_law_some", defArgs s_l_some, defBody s_l_some, defScope s_l_some, [], []⟩
def d_l_deed : He.DefD := ⟨("_law_deed", none), "_law_deed", "_law_deed", defArgs s_l_deed, defBody s_l_deed, defScope s_l_deed, [], []⟩
def d_l_alike : He.DefD := ⟨("_law_alike", none), "_law_alike", "_law_alike", defArgs s_l_alike, defBody s_l_alike, defScope s_l_alike, [], []⟩
def d_law : He.DefD := ⟨("law", none), "law", "law", defArgs s_law, defBody s_law, defScope s_law, [], []⟩
abbrev FN (K : PySem.W.Frag) (d : He.DefD) : Prop := ∃ z, FunD K d.name d.qual d.params d.body d.scope (d.dvs K) (d.kws K) (He.fAd K d.at_) z
/-! ### what the walk leans on -/
structure Tx (w : World) (K : PySem.W.Frag) (mg : Str → Option Value) : Prop where
  g_string_part : mg "string_part" = some (.ref (He.ga K "string_part"))
  g_value_part : mg "value_part" = some (.ref (He.ga K "value_part"))
  g_row_of : mg "row_of" = some (.ref (He.ga K "row_of"))
  g_check_key : mg "check_key" = some (.ref (He.ga K "check_key"))
  g_fold : mg "fold" = some (.ref (He.ga K "fold"))
  g_mark_of : mg "mark_of" = some (.ref (He.ga K "mark_of"))
  g_put_route : mg "put_route" = some (.ref (He.ga K "put_route"))
  g_same_value : mg "same_value" = some (.ref (He.ga K "same_value"))
  g_same_fields : mg "same_fields" = some (.ref (He.ga K "same_fields"))
  g_is_letter : mg "is_letter" = some (.ref (He.ga K "is_letter"))
  g_is_digit : mg "is_digit" = some (.ref (He.ga K "is_digit"))
  g_is_field_name : mg "is_field_name" = some (.ref (He.ga K "is_field_name"))
  g_kind_of_value : mg "kind_of_value" = some (.ref (He.ga K "kind_of_value"))
  g_words_fit : mg "words_fit" = some (.ref (He.ga K "words_fit"))
  g_l_row : mg "_law_row" = some (.ref (He.ga K "_law_row"))
  g_l_next : mg "_law_next" = some (.ref (He.ga K "_law_next"))
  g_l_schema : mg "_law_schema" = some (.ref (He.ga K "_law_schema"))
  g_l_vector : mg "_law_vector" = some (.ref (He.ga K "_law_vector"))
  g_l_record : mg "_law_record" = some (.ref (He.ga K "_law_record"))
  g_l_begin : mg "_law_begin" = some (.ref (He.ga K "_law_begin"))
  g_l_close : mg "_law_close" = some (.ref (He.ga K "_law_close"))
  g_l_trim : mg "_law_trim" = some (.ref (He.ga K "_law_trim"))
  g_l_shard : mg "_law_shard" = some (.ref (He.ga K "_law_shard"))
  g_l_turns : mg "_law_turns" = some (.ref (He.ga K "_law_turns"))
  g_l_ended : mg "_law_ended" = some (.ref (He.ga K "_law_ended"))
  g_l_own : mg "_law_own" = some (.ref (He.ga K "_law_own"))
  g_l_write : mg "_law_write" = some (.ref (He.ga K "_law_write"))
  g_l_moments : mg "_law_moments" = some (.ref (He.ga K "_law_moments"))
  g_l_do : mg "_law_do" = some (.ref (He.ga K "_law_do"))
  g_l_some : mg "_law_some" = some (.ref (He.ga K "_law_some"))
  g_l_deed : mg "_law_deed" = some (.ref (He.ga K "_law_deed"))
  g_l_alike : mg "_law_alike" = some (.ref (He.ga K "_law_alike"))
  g_law : mg "law" = some (.ref (He.ga K "law"))
  g_Note : mg "Note" = some (.ref (He.ga K "Note"))
  g_Segment : mg "Segment" = some (.ref (He.ga K "Segment"))
  g_Region : mg "Region" = some (.ref (He.ga K "Region"))
  g_Ledger : mg "Ledger" = some (.ref (He.ga K "Ledger"))
  g_Catalog : mg "Catalog" = some (.ref (He.ga K "Catalog"))
  g_Norms : mg "Norms" = some (.ref (He.ga K "Norms"))
  g_Record : mg "Record" = some (.ref (He.ga K "Record"))
  g_Schema : mg "Schema" = some (.ref (He.ga K "Schema"))
  g_RANGES : mg "RANGES" = some (.ref (He.ga K "RANGES"))
  g_MEASURES : mg "MEASURES" = some (.ref (He.ga K "MEASURES"))
  g_KINDS : mg "KINDS" = some (.ref (He.ga K "KINDS"))
  g_WORDS : mg "WORDS" = some (.ref (He.ga K "WORDS"))
  i_PRIME : ∃ t, mg "PRIME" = some (.int 4294967291 t)
  z_len : mg "len" = none
  z_ord : mg "ord" = none
  z_isinstance : mg "isinstance" = none
  z_list : mg "list" = none
  z_tuple : mg "tuple" = none
  z_any : mg "any" = none
  z_max : mg "max" = none
  z_min : mg "min" = none
  z_sorted : mg "sorted" = none
  z_range : mg "range" = none
  z_zip : mg "zip" = none
  z_int : mg "int" = none
  z_bool : mg "bool" = none
  z_str : mg "str" = none
  c_Note : Cls K (He.ga K "Note")
  n_Note_name : NoAttr K (He.ga K "Note") "name"
  n_Note_number : NoAttr K (He.ga K "Note") "number"
  n_Note_mark : NoAttr K (He.ga K "Note") "mark"
  n_Note_died : NoAttr K (He.ga K "Note") "died"
  n_Note_record : NoAttr K (He.ga K "Note") "record"
  n_Note_segment : NoAttr K (He.ga K "Note") "segment"
  n_Note_leaves : NoAttr K (He.ga K "Note") "leaves"
  k_Note : Mk K (He.ga K "Note") (He.ma K (He.ga K "Note") "__init__")
  m_Note_lives_at : Meth K (He.ga K "Note") "lives_at" (He.ma K (He.ga K "Note") "lives_at")
  m_Note_closed_by : Meth K (He.ga K "Note") "closed_by" (He.ma K (He.ga K "Note") "closed_by")
  m_Note_owned : Meth K (He.ga K "Note") "owned" (He.ma K (He.ga K "Note") "owned")
  c_Segment : Cls K (He.ga K "Segment")
  n_Segment_number : NoAttr K (He.ga K "Segment") "number"
  n_Segment_shard : NoAttr K (He.ga K "Segment") "shard"
  n_Segment_partitions : NoAttr K (He.ga K "Segment") "partitions"
  k_Segment : Mk K (He.ga K "Segment") (He.ma K (He.ga K "Segment") "__init__")
  c_Region : Cls K (He.ga K "Region")
  n_Region_parent : NoAttr K (He.ga K "Region") "parent"
  n_Region_facts : NoAttr K (He.ga K "Region") "facts"
  k_Region : Mk K (He.ga K "Region") (He.ma K (He.ga K "Region") "__init__")
  c_Ledger : Cls K (He.ga K "Ledger")
  n_Ledger_schema : NoAttr K (He.ga K "Ledger") "schema"
  n_Ledger_key : NoAttr K (He.ga K "Ledger") "key"
  n_Ledger_now : NoAttr K (He.ga K "Ledger") "now"
  n_Ledger_floor : NoAttr K (He.ga K "Ledger") "floor"
  n_Ledger_pins : NoAttr K (He.ga K "Ledger") "pins"
  n_Ledger_notes : NoAttr K (He.ga K "Ledger") "notes"
  n_Ledger_segments : NoAttr K (He.ga K "Ledger") "segments"
  n_Ledger_upcoming : NoAttr K (He.ga K "Ledger") "upcoming"
  k_Ledger : Mk K (He.ga K "Ledger") (He.ma K (He.ga K "Ledger") "__init__")
  m_Ledger_is_needed : Meth K (He.ga K "Ledger") "is_needed" (He.ma K (He.ga K "Ledger") "is_needed")
  m_Ledger_tidy : Meth K (He.ga K "Ledger") "tidy" (He.ma K (He.ga K "Ledger") "tidy")
  m_Ledger_note_of : Meth K (He.ga K "Ledger") "note_of" (He.ma K (He.ga K "Ledger") "note_of")
  m_Ledger_end : Meth K (He.ga K "Ledger") "end" (He.ma K (He.ga K "Ledger") "end")
  m_Ledger_put : Meth K (He.ga K "Ledger") "put" (He.ma K (He.ga K "Ledger") "put")
  m_Ledger_drop : Meth K (He.ga K "Ledger") "drop" (He.ma K (He.ga K "Ledger") "drop")
  m_Ledger_pin : Meth K (He.ga K "Ledger") "pin" (He.ma K (He.ga K "Ledger") "pin")
  m_Ledger_unpin : Meth K (He.ga K "Ledger") "unpin" (He.ma K (He.ga K "Ledger") "unpin")
  m_Ledger_lift : Meth K (He.ga K "Ledger") "lift" (He.ma K (He.ga K "Ledger") "lift")
  m_Ledger_own : Meth K (He.ga K "Ledger") "own" (He.ma K (He.ga K "Ledger") "own")
  m_Ledger_segment_of : Meth K (He.ga K "Ledger") "segment_of" (He.ma K (He.ga K "Ledger") "segment_of")
  c_Catalog : Cls K (He.ga K "Catalog")
  n_Catalog_ledger : NoAttr K (He.ga K "Catalog") "ledger"
  n_Catalog_titles : NoAttr K (He.ga K "Catalog") "titles"
  n_Catalog_closed : NoAttr K (He.ga K "Catalog") "closed"
  n_Catalog_routes : NoAttr K (He.ga K "Catalog") "routes"
  n_Catalog_begins : NoAttr K (He.ga K "Catalog") "begins"
  k_Catalog : Mk K (He.ga K "Catalog") (He.ma K (He.ga K "Catalog") "__init__")
  m_Catalog_shard_of : Meth K (He.ga K "Catalog") "shard_of" (He.ma K (He.ga K "Catalog") "shard_of")
  m_Catalog_title_of : Meth K (He.ga K "Catalog") "title_of" (He.ma K (He.ga K "Catalog") "title_of")
  m_Catalog_turns : Meth K (He.ga K "Catalog") "turns" (He.ma K (He.ga K "Catalog") "turns")
  m_Catalog_close : Meth K (He.ga K "Catalog") "close" (He.ma K (He.ga K "Catalog") "close")
  m_Catalog_settle : Meth K (He.ga K "Catalog") "settle" (He.ma K (He.ga K "Catalog") "settle")
  m_Catalog_own : Meth K (He.ga K "Catalog") "own" (He.ma K (He.ga K "Catalog") "own")
  m_Catalog_forget : Meth K (He.ga K "Catalog") "forget" (He.ma K (He.ga K "Catalog") "forget")
  m_Catalog_write : Meth K (He.ga K "Catalog") "write" (He.ma K (He.ga K "Catalog") "write")
  m_Catalog_change : Meth K (He.ga K "Catalog") "change" (He.ma K (He.ga K "Catalog") "change")
  m_Catalog_apply : Meth K (He.ga K "Catalog") "apply" (He.ma K (He.ga K "Catalog") "apply")
  c_Norms : Cls K (He.ga K "Norms")
  n_Norms_low : NoAttr K (He.ga K "Norms") "low"
  n_Norms_high : NoAttr K (He.ga K "Norms") "high"
  k_Norms : Mk K (He.ga K "Norms") (He.ma K (He.ga K "Norms") "__init__")
  c_Record : Cls K (He.ga K "Record")
  n_Record_name : NoAttr K (He.ga K "Record") "name"
  n_Record_vector : NoAttr K (He.ga K "Record") "vector"
  n_Record_fields : NoAttr K (He.ga K "Record") "fields"
  n_Record_words : NoAttr K (He.ga K "Record") "words"
  k_Record : Mk K (He.ga K "Record") (He.ma K (He.ga K "Record") "__init__")
  m_Record_eq : Meth K (He.ga K "Record") "__eq__" (He.ma K (He.ga K "Record") "__eq__")
  c_Schema : Cls K (He.ga K "Schema")
  n_Schema_size : NoAttr K (He.ga K "Schema") "size"
  n_Schema_width : NoAttr K (He.ga K "Schema") "width"
  n_Schema_measure : NoAttr K (He.ga K "Schema") "measure"
  n_Schema_fields : NoAttr K (He.ga K "Schema") "fields"
  k_Schema : Mk K (He.ga K "Schema") (He.ma K (He.ga K "Schema") "__init__")
  m_Schema_has_vector : Meth K (He.ga K "Schema") "has_vector" (He.ma K (He.ga K "Schema") "has_vector")
  m_Schema_has_fields : Meth K (He.ga K "Schema") "has_fields" (He.ma K (He.ga K "Schema") "has_fields")
  m_Schema_contains : Meth K (He.ga K "Schema") "__contains__" (He.ma K (He.ga K "Schema") "__contains__")
  m_Schema_check : Meth K (He.ga K "Schema") "check" (He.ma K (He.ga K "Schema") "check")
  d_string_part : FN K d_string_part
  d_value_part : FN K d_value_part
  d_row_of : FN K d_row_of
  d_check_key : FN K d_check_key
  d_fold : FN K d_fold
  d_mark_of : FN K d_mark_of
  d_Note_init : FN K d_Note_init
  d_Note_lives_at : FN K d_Note_lives_at
  d_Note_closed_by : FN K d_Note_closed_by
  d_Note_owned : FN K d_Note_owned
  d_Segment_init : FN K d_Segment_init
  d_Region_init : FN K d_Region_init
  d_Ledger_init : FN K d_Ledger_init
  d_Ledger_is_needed : FN K d_Ledger_is_needed
  d_Ledger_tidy : FN K d_Ledger_tidy
  d_Ledger_note_of : FN K d_Ledger_note_of
  d_Ledger_end : FN K d_Ledger_end
  d_Ledger_put : FN K d_Ledger_put
  d_Ledger_drop : FN K d_Ledger_drop
  d_Ledger_pin : FN K d_Ledger_pin
  d_Ledger_unpin : FN K d_Ledger_unpin
  d_Ledger_lift : FN K d_Ledger_lift
  d_Ledger_own : FN K d_Ledger_own
  d_Ledger_segment_of : FN K d_Ledger_segment_of
  d_put_route : FN K d_put_route
  d_Catalog_init : FN K d_Catalog_init
  d_Catalog_shard_of : FN K d_Catalog_shard_of
  d_Catalog_title_of : FN K d_Catalog_title_of
  d_Catalog_turns : FN K d_Catalog_turns
  d_Catalog_close : FN K d_Catalog_close
  d_Catalog_settle : FN K d_Catalog_settle
  d_Catalog_own : FN K d_Catalog_own
  d_Catalog_forget : FN K d_Catalog_forget
  d_Catalog_write : FN K d_Catalog_write
  d_Catalog_change : FN K d_Catalog_change
  d_Catalog_apply : FN K d_Catalog_apply
  d_Norms_init : FN K d_Norms_init
  d_same_value : FN K d_same_value
  d_same_fields : FN K d_same_fields
  d_Record_init : FN K d_Record_init
  d_Record_eq : FN K d_Record_eq
  d_is_letter : FN K d_is_letter
  d_is_digit : FN K d_is_digit
  d_is_field_name : FN K d_is_field_name
  d_kind_of_value : FN K d_kind_of_value
  d_words_fit : FN K d_words_fit
  d_Schema_init : FN K d_Schema_init
  d_Schema_has_vector : FN K d_Schema_has_vector
  d_Schema_has_fields : FN K d_Schema_has_fields
  d_Schema_contains : FN K d_Schema_contains
  d_Schema_check : FN K d_Schema_check
  d_l_row : FN K d_l_row
  d_l_next : FN K d_l_next
  d_l_schema : FN K d_l_schema
  d_l_vector : FN K d_l_vector
  d_l_record : FN K d_l_record
  d_l_begin : FN K d_l_begin
  d_l_close : FN K d_l_close
  d_l_trim : FN K d_l_trim
  d_l_shard : FN K d_l_shard
  d_l_turns : FN K d_l_turns
  d_l_ended : FN K d_l_ended
  d_l_own : FN K d_l_own
  d_l_write : FN K d_l_write
  d_l_moments : FN K d_l_moments
  d_l_do : FN K d_l_do
  d_l_some : FN K d_l_some
  d_l_deed : FN K d_l_deed
  d_l_alike : FN K d_l_alike
  d_law : FN K d_law
  p_least : PropOf K (He.ga K "Schema") "least" (He.ma K (He.ga K "Schema") "least") (getAt "Schema" "least" K)
  d_Schema_least : ∃ z, FunD K "least" "Schema.least" (defArgs s_Schema_least) (defBody s_Schema_least) (defScope s_Schema_least) [] [] (getAt "Schema" "least" K) z
  p_greatest : PropOf K (He.ga K "Schema") "greatest" (He.ma K (He.ga K "Schema") "greatest") (getAt "Schema" "greatest" K)
  d_Schema_greatest : ∃ z, FunD K "greatest" "Schema.greatest" (defArgs s_Schema_greatest) (defBody s_Schema_greatest) (defScope s_Schema_greatest) [] [] (getAt "Schema" "greatest" K) z
  t_empty : ∀ H, SqT K H (kwAt ("Note", some "__init__") "leaves" K) []
  t_MEASURES : ∀ H, SqT K H (He.ga K "MEASURES") [.str "square", .str "dot", .str "bits"]
  t_KINDS : ∀ H, SqT K H (He.ga K "KINDS") [.str "integer", .str "text", .str "flag"]
  t_WORDS : ∀ H, SqT K H (He.ga K "WORDS") [.str "every", .str "has", .str "in", .str "and", .str "or", .str "not", .str "true", .str "false"]
  r_dict : ∃ es n, KDict K w (He.ga K "RANGES") es n
  r_bit : PySem.W.nsIn K (He.ga K "RANGES") "bit" = some (some (.ref (rgAt "bit" K)))
  r_small : PySem.W.nsIn K (He.ga K "RANGES") "small" = some (some (.ref (rgAt "small" K)))
  t_bit : ∀ H, SqT K H (rgAt "bit" K) [.int 0, .int 1]
  t_small : ∀ H, SqT K H (rgAt "small" K) [.int (-128), .int 127]
  e_ne : PySem.W.findIn K (.ref (He.ga K "Record")) "__ne__" = some (some (.builtin "object.__ne__"))
  e_eq : PySem.W.findIn K (.ref (He.ga K "Record")) "__eq__" = some (some (.ref (He.ma K (He.ga K "Record") "__eq__")))
  e_class : PySem.W.findIn K (.ref (He.ga K "Record")) "__class__" = some (some (.builtin "object.__class__"))
  e_mro : PySem.W.mroIn K (He.ga K "Record") (.type "object") = some true
  e_kit : PySem.W.kitOne K (.ref (He.ga K "Record")) (.ref (He.ga K "Record")) = some true
end K94
/-! The head: the top is run once in the kernel; what is asked of it is read off. -/
namespace K94
open PySem PySem.W PySem.Calls PySem.Spec PyProof.Rows L2
abbrev RR : PySem.W.OpenRow := PySem.W.OpenLaw.row PySem.Challenge.rw_surenear_k94_whole_catalogs_by_a_plain_o
def fa_0 : List He.Fa := [.glo "string_part", .glo "value_part", .glo "row_of", .glo "check_key", .glo "fold", .glo "mark_of", .glo "put_route", .glo "same_value", .glo "same_fields", .glo "is_letter", .glo "is_digit", .glo "is_field_name", .glo "kind_of_value", .glo "words_fit", .glo "_law_row", .glo "_law_next"]
def fa_1 : List He.Fa := [.glo "_law_schema", .glo "_law_vector", .glo "_law_record", .glo "_law_begin", .glo "_law_close", .glo "_law_trim", .glo "_law_shard", .glo "_law_turns", .glo "_law_ended", .glo "_law_own", .glo "_law_write", .glo "_law_moments", .glo "_law_do", .glo "_law_some", .glo "_law_deed", .glo "_law_alike"]
def fa_2 : List He.Fa := [.glo "law", .glo "Note", .glo "Segment", .glo "Region", .glo "Ledger", .glo "Catalog", .glo "Norms", .glo "Record", .glo "Schema", .glo "RANGES", .glo "MEASURES", .glo "KINDS", .glo "WORDS", .int "PRIME" 4294967291, .free "len", .free "ord"]
def fa_3 : List He.Fa := [.free "isinstance", .free "list", .free "tuple", .free "any", .free "max", .free "min", .free "sorted", .free "range", .free "zip", .free "int", .free "bool", .free "str", .cls "Note", .noat "Note" "name", .noat "Note" "number", .noat "Note" "mark"]
def fa_4 : List He.Fa := [.noat "Note" "died", .noat "Note" "record", .noat "Note" "segment", .noat "Note" "leaves", .mkr "Note", .meth "Note" "lives_at", .meth "Note" "closed_by", .meth "Note" "owned", .cls "Segment", .noat "Segment" "number", .noat "Segment" "shard", .noat "Segment" "partitions", .mkr "Segment", .cls "Region", .noat "Region" "parent", .noat "Region" "facts"]
def fa_5 : List He.Fa := [.mkr "Region", .cls "Ledger", .noat "Ledger" "schema", .noat "Ledger" "key", .noat "Ledger" "now", .noat "Ledger" "floor", .noat "Ledger" "pins", .noat "Ledger" "notes", .noat "Ledger" "segments", .noat "Ledger" "upcoming", .mkr "Ledger", .meth "Ledger" "is_needed", .meth "Ledger" "tidy", .meth "Ledger" "note_of", .meth "Ledger" "end", .meth "Ledger" "put"]
def fa_6 : List He.Fa := [.meth "Ledger" "drop", .meth "Ledger" "pin", .meth "Ledger" "unpin", .meth "Ledger" "lift", .meth "Ledger" "own", .meth "Ledger" "segment_of", .cls "Catalog", .noat "Catalog" "ledger", .noat "Catalog" "titles", .noat "Catalog" "closed", .noat "Catalog" "routes", .noat "Catalog" "begins", .mkr "Catalog", .meth "Catalog" "shard_of", .meth "Catalog" "title_of", .meth "Catalog" "turns"]
def fa_7 : List He.Fa := [.meth "Catalog" "close", .meth "Catalog" "settle", .meth "Catalog" "own", .meth "Catalog" "forget", .meth "Catalog" "write", .meth "Catalog" "change", .meth "Catalog" "apply", .cls "Norms", .noat "Norms" "low", .noat "Norms" "high", .mkr "Norms", .cls "Record", .noat "Record" "name", .noat "Record" "vector", .noat "Record" "fields", .noat "Record" "words"]
def fa_8 : List He.Fa := [.mkr "Record", .meth "Record" "__eq__", .cls "Schema", .noat "Schema" "size", .noat "Schema" "width", .noat "Schema" "measure", .noat "Schema" "fields", .mkr "Schema", .meth "Schema" "has_vector", .meth "Schema" "has_fields", .meth "Schema" "__contains__", .meth "Schema" "check"]
def fa : List He.Fa := fa_0 ++ (fa_1 ++ (fa_2 ++ (fa_3 ++ (fa_4 ++ (fa_5 ++ (fa_6 ++ (fa_7 ++ (fa_8))))))))
def fn_0 : List He.DefD := [d_string_part, d_value_part, d_row_of, d_check_key, d_fold, d_mark_of, d_Note_init, d_Note_lives_at, d_Note_closed_by, d_Note_owned, d_Segment_init, d_Region_init, d_Ledger_init, d_Ledger_is_needed, d_Ledger_tidy, d_Ledger_note_of]
def fn_1 : List He.DefD := [d_Ledger_end, d_Ledger_put, d_Ledger_drop, d_Ledger_pin, d_Ledger_unpin, d_Ledger_lift, d_Ledger_own, d_Ledger_segment_of, d_put_route, d_Catalog_init, d_Catalog_shard_of, d_Catalog_title_of, d_Catalog_turns, d_Catalog_close, d_Catalog_settle, d_Catalog_own]
def fn_2 : List He.DefD := [d_Catalog_forget, d_Catalog_write, d_Catalog_change, d_Catalog_apply, d_Norms_init, d_same_value, d_same_fields, d_Record_init, d_Record_eq, d_is_letter, d_is_digit, d_is_field_name, d_kind_of_value, d_words_fit, d_Schema_init, d_Schema_has_vector]
def fn_3 : List He.DefD := [d_Schema_has_fields, d_Schema_contains, d_Schema_check, d_l_row, d_l_next, d_l_schema, d_l_vector, d_l_record, d_l_begin, d_l_close, d_l_trim, d_l_shard, d_l_turns, d_l_ended, d_l_own, d_l_write]
def fn_4 : List He.DefD := [d_l_moments, d_l_do, d_l_some, d_l_deed, d_l_alike, d_law]
def fn : List He.DefD := fn_0 ++ (fn_1 ++ (fn_2 ++ (fn_3 ++ (fn_4))))
def ts : List He.Tab := [(fun K => He.ga K "RANGES", ["bit", "small", "wide"])]
def tf : List He.Defn := [("put_route", none)]
def ex (K : PySem.W.Frag) : Bool :=
  tupAt K (kwAt ("Note", some "__init__") "leaves" K) [] && (tupAt K (He.ga K "MEASURES") [.str "square", .str "dot", .str "bits"] && (tupAt K (He.ga K "KINDS") [.str "integer", .str "text", .str "flag"] &&
  (tupAt K (He.ga K "WORDS") [.str "every", .str "has", .str "in", .str "and", .str "or", .str "not", .str "true", .str "false"] &&
  (decide (PySem.W.nsIn K (He.ga K "RANGES") "bit" = some (some (.ref (rgAt "bit" K)))) && (decide (PySem.W.nsIn K (He.ga K "RANGES") "small" = some (some (.ref (rgAt "small" K)))) &&
  (tupAt K (rgAt "bit" K) [.int 0, .int 1] && (tupAt K (rgAt "small" K) [.int (-128), .int 127] && (propB K "Schema" "least" && (propB K "Schema" "greatest" &&
  (fnAtB K (getAt "Schema" "least" K) "Schema.least" && (fnAtB K (getAt "Schema" "greatest" K) "Schema.greatest" &&
  (decide (PySem.W.findIn K (.ref (He.ga K "Record")) "__ne__" = some (some (.builtin "object.__ne__"))) &&
  (decide (PySem.W.findIn K (.ref (He.ga K "Record")) "__eq__" = some (some (.ref (He.ma K (He.ga K "Record") "__eq__")))) &&
  (decide (PySem.W.findIn K (.ref (He.ga K "Record")) "__class__" = some (some (.builtin "object.__class__"))) &&
  (decide (PySem.W.mroIn K (He.ga K "Record") (.type "object") = some true) &&
  decide (PySem.W.kitOne K (.ref (He.ga K "Record")) (.ref (He.ga K "Record")) = some true))))))))))))))))
/-! which objects are looked at: the module's names, the classes' dicts, the defs' code objects and keyword defaults, the properties' getters -/
def refsV (v : Value) : List Addr := match v with
  | .ref a => [a]
  | _ => []
def refsE (es : Array DictEntry) : List Addr := es.toList.flatMap fun e => refsV e.val
def nx1 (q : Addr → Option Obj) (a : Addr) : List Addr := match q a with
  | some o => (match o.data with
    | .cls cd => [cd.ns]
    | .func z => refsV z.code ++ refsV z.kwdefaults
    | .dict es _ => refsE es
    | .fields vs => (match o.cls with
      | .type t => if t = "property" then vs.toList.flatMap refsV else []
      | _ => [])
    | _ => [])
  | none => []
def nx (q : Addr → Option Obj) (as : List Addr) : List Addr := as.flatMap (nx1 q)
/-- the classes of these -/
def isCls (q : Addr → Option Obj) (a : Addr) : Bool := match q a with
  | some o => (match o.data with
    | .cls _ => true
    | _ => false)
  | none => false
def seeAll (q : Addr → Option Obj) (l1 l2 l3 l4 : List Addr) : List Addr := l1 ++ (l2 ++ (l3 ++ (l4 ++ nx q l4)))
def see3 (q : Addr → Option Obj) (l1 l2 l3 : List Addr) : List Addr := seeAll q l1 l2 l3 (nx q l3)
def see2 (q : Addr → Option Obj) (l1 l2 : List Addr) : List Addr := see3 q l1 l2 (nx q l2)
def see1 (q : Addr → Option Obj) (l1 : List Addr) : List Addr := see2 q l1 (nx q l1)
def see (q : Addr → Option Obj) : List Addr := mainGlobals :: see1 q (nx1 q mainGlobals)
def KQ (q : Addr → Option Obj) : PySem.W.Frag := He.frT q (see q)
abbrev AlK : Type := He.AlT × Bool × He.FnW × He.FnW
def obK (q : Addr → Option Obj) (K : PySem.W.Frag) : AlK := (He.obsT fa fn ts K, ex K && He.tabsB q tf K, fnAt K (getAt "Schema" "least" K), fnAt K (getAt "Schema" "greatest" K))
def obG (q : Addr → Option Obj) : AlK := obK q (KQ q)
def gl : He.FnW := some ("least", "Schema.least", defArgs s_Schema_least, .stmts (defBody s_Schema_least), defScope s_Schema_least, mainGlobals, [], builtinsNs)
def gg : He.FnW := some ("greatest", "Schema.greatest", defArgs s_Schema_greatest, .stmts (defBody s_Schema_greatest), defScope s_Schema_greatest, mainGlobals, [], builtinsNs)
structure SaysK (w : World) (h : Heap) (K : PySem.W.Frag) : Prop where
  x : He.SaysX fa fn ts tf ex w h K
  l : fnAt K (getAt "Schema" "least" K) = gl
  u : fnAt K (getAt "Schema" "greatest" K) = gg
theorem says_of {w : World} {h : Heap} (e : obG h.get? = (He.valT fn ts w, true, gl, gg)) : SaysK w h (KQ h.get?) := by
  have e1 : He.obsT fa fn ts (KQ h.get?) = He.valT fn ts w := congrArg (fun z : AlK => z.1) e
  have e2 : (ex (KQ h.get?) && He.tabsB h.get? tf (KQ h.get?)) = true := congrArg (fun z : AlK => z.2.1) e
  obtain ⟨k1, k2⟩ := Bool.and_eq_true_iff.mp e2
  have key : ∀ p ∈ tf, PySem.W.codeHdIn (KQ h.get?) (He.cT (KQ h.get?) p).1 (He.cT (KQ h.get?) p).2 = true ∧ ∃ o, h.get? (He.cT (KQ h.get?) p).2 = some o ∧ He.emptyTab o = true := fun p hp => by
    obtain ⟨k3, k4⟩ := Bool.and_eq_true_iff.mp (List.all_eq_true.mp k2 p hp)
    refine ⟨k3, ?_⟩
    split at k4
    · rename_i o q
      exact ⟨o, q, k4⟩
    · cases k4
  refine ⟨⟨e1, k1, fun p hp => (key p hp).1, fun p hp => ?_, fun p hp => ?_⟩, congrArg (fun z : AlK => z.2.2.1) e, congrArg (fun z : AlK => z.2.2.2) e⟩
  · obtain ⟨_, o, q, z⟩ := key p hp
    exact He.frT_none q z
  · obtain ⟨_, o, q, z⟩ := key p hp
    rw [q, He.emptyTab_eq z]
def hk : PySem.W.Hook where
  α := AlK
  obs := fun s => obG s.heap.get?
  val := fun w => (He.valT fn ts w, true, gl, gg)
  says := fun w h => ∃ K : PySem.W.Frag, K.In h ∧ SaysK w h K
  of := fun _ _ e => ⟨_, He.frT_in, says_of e⟩
  keeps := fun _ _ _ ⟨K, hK, c⟩ k => ⟨K, PySem.W.Frag.In.keeps hK k, ⟨⟨c.x.t, c.x.more, c.x.hd, c.x.out, fun p hp => k _ _ (c.x.empty p hp)⟩, c.l, c.u⟩⟩
def ob (s : PySem.W.SharedT) : AlK := obG (HandSHeadRun.getT s)
theorem ob_eq (s : PySem.W.SharedT) : ob s = hk.obs s.abs := by
  have e : HandSHeadRun.getT s = s.abs.heap.get? := funext (HandSHeadRun.getT_eq s)
  show obG (HandSHeadRun.getT s) = obG s.abs.heap.get?
  rw [e]
def loose_0 : List Str := ["_wall", "SurenearError", "InvalidSchema", "InvalidRecord", "InvalidKey", "NotPinned", "PRIME", "string_part", "value_part", "row_of", "check_key", "fold", "mark_of", "Note", "Segment", "Region"]
def loose_1 : List Str := ["Ledger", "put_route", "Catalog", "Fact", "Norms", "same_value", "same_fields", "Record", "RANGES", "MEASURES", "KINDS", "WORDS", "is_letter", "is_digit", "is_field_name", "kind_of_value"]
def loose_2 : List Str := ["words_fit", "Schema", "_law_row", "_law_next", "_law_schema", "_law_vector", "_law_record", "_law_begin", "_law_close", "_law_trim", "_law_shard", "_law_turns", "_law_ended", "_law_own", "_law_write", "_law_moments"]
def loose_3 : List Str := ["_law_do", "_law_some", "_law_deed", "_law_alike"]
def loose : List Str := loose_0 ++ (loose_1 ++ (loose_2 ++ (loose_3)))
theorem run_f (w : World) : HandSHeadRun.RunEq RR (PySem.W.view RR.prog [63]) hk ob 20000 loose (w.withFollow "special-get-raises" false) := by
  intro os
  kernel_rfl
theorem run_t (w : World) : HandSHeadRun.RunEq RR (PySem.W.view RR.prog [63]) hk ob 20000 loose (w.withFollow "special-get-raises" true) := by
  intro os
  kernel_rfl
theorem run (w : World) : HandSHeadRun.RunEq RR (PySem.W.view RR.prog [63]) hk ob 20000 loose w :=
  PySem.W.byRow2 "special-get-raises" (P := fun w => HandSHeadRun.RunEq RR (PySem.W.view RR.prog [63]) hk ob 20000 loose w) run_f run_t w
end K94
/-! What the walk leans on, from what the head says. -/
namespace K94
open PySem PySem.Spec PyProof.Rows L2
theorem fn_of_says {fa : List He.Fa} {fn : List He.DefD} {K : PySem.W.Frag} (c : He.SaysD fa fn K) (i : Nat) {d : He.DefD} (h : fn[i]? = some d) : FN K d := c.def_ i h
theorem tx_of {w : World} {h : Heap} {K : PySem.W.Frag} {mg : Str → Option Value} (X : K.In h) (G : h.Ns mainGlobals mg) (c : SaysK w h K) : Tx w K mg := by
  have d := c.x.t.d
  have e := c.x.more
  simp only [ex, Bool.and_eq_true] at e
  obtain ⟨e1, e2, e3, e4, e5, e6, e7, e8, e9, e10, e11, e12, e13, e14, e15, e16, e17⟩ := e
  exact {
    g_string_part := He.glo_ok X G (d.fact 0 (f := .glo "string_part") rfl),
    g_value_part := He.glo_ok X G (d.fact 1 (f := .glo "value_part") rfl),
    g_row_of := He.glo_ok X G (d.fact 2 (f := .glo "row_of") rfl),
    g_check_key := He.glo_ok X G (d.fact 3 (f := .glo "check_key") rfl),
    g_fold := He.glo_ok X G (d.fact 4 (f := .glo "fold") rfl),
    g_mark_of := He.glo_ok X G (d.fact 5 (f := .glo "mark_of") rfl),
    g_put_route := He.glo_ok X G (d.fact 6 (f := .glo "put_route") rfl),
    g_same_value := He.glo_ok X G (d.fact 7 (f := .glo "same_value") rfl),
    g_same_fields := He.glo_ok X G (d.fact 8 (f := .glo "same_fields") rfl),
    g_is_letter := He.glo_ok X G (d.fact 9 (f := .glo "is_letter") rfl),
    g_is_digit := He.glo_ok X G (d.fact 10 (f := .glo "is_digit") rfl),
    g_is_field_name := He.glo_ok X G (d.fact 11 (f := .glo "is_field_name") rfl),
    g_kind_of_value := He.glo_ok X G (d.fact 12 (f := .glo "kind_of_value") rfl),
    g_words_fit := He.glo_ok X G (d.fact 13 (f := .glo "words_fit") rfl),
    g_l_row := He.glo_ok X G (d.fact 14 (f := .glo "_law_row") rfl),
    g_l_next := He.glo_ok X G (d.fact 15 (f := .glo "_law_next") rfl),
    g_l_schema := He.glo_ok X G (d.fact 16 (f := .glo "_law_schema") rfl),
    g_l_vector := He.glo_ok X G (d.fact 17 (f := .glo "_law_vector") rfl),
    g_l_record := He.glo_ok X G (d.fact 18 (f := .glo "_law_record") rfl),
    g_l_begin := He.glo_ok X G (d.fact 19 (f := .glo "_law_begin") rfl),
    g_l_close := He.glo_ok X G (d.fact 20 (f := .glo "_law_close") rfl),
    g_l_trim := He.glo_ok X G (d.fact 21 (f := .glo "_law_trim") rfl),
    g_l_shard := He.glo_ok X G (d.fact 22 (f := .glo "_law_shard") rfl),
    g_l_turns := He.glo_ok X G (d.fact 23 (f := .glo "_law_turns") rfl),
    g_l_ended := He.glo_ok X G (d.fact 24 (f := .glo "_law_ended") rfl),
    g_l_own := He.glo_ok X G (d.fact 25 (f := .glo "_law_own") rfl),
    g_l_write := He.glo_ok X G (d.fact 26 (f := .glo "_law_write") rfl),
    g_l_moments := He.glo_ok X G (d.fact 27 (f := .glo "_law_moments") rfl),
    g_l_do := He.glo_ok X G (d.fact 28 (f := .glo "_law_do") rfl),
    g_l_some := He.glo_ok X G (d.fact 29 (f := .glo "_law_some") rfl),
    g_l_deed := He.glo_ok X G (d.fact 30 (f := .glo "_law_deed") rfl),
    g_l_alike := He.glo_ok X G (d.fact 31 (f := .glo "_law_alike") rfl),
    g_law := He.glo_ok X G (d.fact 32 (f := .glo "law") rfl),
    g_Note := He.glo_ok X G (d.fact 33 (f := .glo "Note") rfl),
    g_Segment := He.glo_ok X G (d.fact 34 (f := .glo "Segment") rfl),
    g_Region := He.glo_ok X G (d.fact 35 (f := .glo "Region") rfl),
    g_Ledger := He.glo_ok X G (d.fact 36 (f := .glo "Ledger") rfl),
    g_Catalog := He.glo_ok X G (d.fact 37 (f := .glo "Catalog") rfl),
    g_Norms := He.glo_ok X G (d.fact 38 (f := .glo "Norms") rfl),
    g_Record := He.glo_ok X G (d.fact 39 (f := .glo "Record") rfl),
    g_Schema := He.glo_ok X G (d.fact 40 (f := .glo "Schema") rfl),
    g_RANGES := He.glo_ok X G (d.fact 41 (f := .glo "RANGES") rfl),
    g_MEASURES := He.glo_ok X G (d.fact 42 (f := .glo "MEASURES") rfl),
    g_KINDS := He.glo_ok X G (d.fact 43 (f := .glo "KINDS") rfl),
    g_WORDS := He.glo_ok X G (d.fact 44 (f := .glo "WORDS") rfl),
    i_PRIME := He.int_ok X G (d.fact 45 (f := .int "PRIME" 4294967291) rfl),
    z_len := He.free_ok X G (d.fact 46 (f := .free "len") rfl),
    z_ord := He.free_ok X G (d.fact 47 (f := .free "ord") rfl),
    z_isinstance := He.free_ok X G (d.fact 48 (f := .free "isinstance") rfl),
    z_list := He.free_ok X G (d.fact 49 (f := .free "list") rfl),
    z_tuple := He.free_ok X G (d.fact 50 (f := .free "tuple") rfl),
    z_any := He.free_ok X G (d.fact 51 (f := .free "any") rfl),
    z_max := He.free_ok X G (d.fact 52 (f := .free "max") rfl),
    z_min := He.free_ok X G (d.fact 53 (f := .free "min") rfl),
    z_sorted := He.free_ok X G (d.fact 54 (f := .free "sorted") rfl),
    z_range := He.free_ok X G (d.fact 55 (f := .free "range") rfl),
    z_zip := He.free_ok X G (d.fact 56 (f := .free "zip") rfl),
    z_int := He.free_ok X G (d.fact 57 (f := .free "int") rfl),
    z_bool := He.free_ok X G (d.fact 58 (f := .free "bool") rfl),
    z_str := He.free_ok X G (d.fact 59 (f := .free "str") rfl),
    c_Note := He.cls_ok (d.fact 60 (f := .cls "Note") rfl),
    n_Note_name := He.noat_ok (d.fact 61 (f := .noat "Note" "name") rfl),
    n_Note_number := He.noat_ok (d.fact 62 (f := .noat "Note" "number") rfl),
    n_Note_mark := He.noat_ok (d.fact 63 (f := .noat "Note" "mark") rfl),
    n_Note_died := He.noat_ok (d.fact 64 (f := .noat "Note" "died") rfl),
    n_Note_record := He.noat_ok (d.fact 65 (f := .noat "Note" "record") rfl),
    n_Note_segment := He.noat_ok (d.fact 66 (f := .noat "Note" "segment") rfl),
    n_Note_leaves := He.noat_ok (d.fact 67 (f := .noat "Note" "leaves") rfl),
    k_Note := He.mkr_ok (d.fact 68 (f := .mkr "Note") rfl),
    m_Note_lives_at := He.meth_ok (d.fact 69 (f := .meth "Note" "lives_at") rfl),
    m_Note_closed_by := He.meth_ok (d.fact 70 (f := .meth "Note" "closed_by") rfl),
    m_Note_owned := He.meth_ok (d.fact 71 (f := .meth "Note" "owned") rfl),
    c_Segment := He.cls_ok (d.fact 72 (f := .cls "Segment") rfl),
    n_Segment_number := He.noat_ok (d.fact 73 (f := .noat "Segment" "number") rfl),
    n_Segment_shard := He.noat_ok (d.fact 74 (f := .noat "Segment" "shard") rfl),
    n_Segment_partitions := He.noat_ok (d.fact 75 (f := .noat "Segment" "partitions") rfl),
    k_Segment := He.mkr_ok (d.fact 76 (f := .mkr "Segment") rfl),
    c_Region := He.cls_ok (d.fact 77 (f := .cls "Region") rfl),
    n_Region_parent := He.noat_ok (d.fact 78 (f := .noat "Region" "parent") rfl),
    n_Region_facts := He.noat_ok (d.fact 79 (f := .noat "Region" "facts") rfl),
    k_Region := He.mkr_ok (d.fact 80 (f := .mkr "Region") rfl),
    c_Ledger := He.cls_ok (d.fact 81 (f := .cls "Ledger") rfl),
    n_Ledger_schema := He.noat_ok (d.fact 82 (f := .noat "Ledger" "schema") rfl),
    n_Ledger_key := He.noat_ok (d.fact 83 (f := .noat "Ledger" "key") rfl),
    n_Ledger_now := He.noat_ok (d.fact 84 (f := .noat "Ledger" "now") rfl),
    n_Ledger_floor := He.noat_ok (d.fact 85 (f := .noat "Ledger" "floor") rfl),
    n_Ledger_pins := He.noat_ok (d.fact 86 (f := .noat "Ledger" "pins") rfl),
    n_Ledger_notes := He.noat_ok (d.fact 87 (f := .noat "Ledger" "notes") rfl),
    n_Ledger_segments := He.noat_ok (d.fact 88 (f := .noat "Ledger" "segments") rfl),
    n_Ledger_upcoming := He.noat_ok (d.fact 89 (f := .noat "Ledger" "upcoming") rfl),
    k_Ledger := He.mkr_ok (d.fact 90 (f := .mkr "Ledger") rfl),
    m_Ledger_is_needed := He.meth_ok (d.fact 91 (f := .meth "Ledger" "is_needed") rfl),
    m_Ledger_tidy := He.meth_ok (d.fact 92 (f := .meth "Ledger" "tidy") rfl),
    m_Ledger_note_of := He.meth_ok (d.fact 93 (f := .meth "Ledger" "note_of") rfl),
    m_Ledger_end := He.meth_ok (d.fact 94 (f := .meth "Ledger" "end") rfl),
    m_Ledger_put := He.meth_ok (d.fact 95 (f := .meth "Ledger" "put") rfl),
    m_Ledger_drop := He.meth_ok (d.fact 96 (f := .meth "Ledger" "drop") rfl),
    m_Ledger_pin := He.meth_ok (d.fact 97 (f := .meth "Ledger" "pin") rfl),
    m_Ledger_unpin := He.meth_ok (d.fact 98 (f := .meth "Ledger" "unpin") rfl),
    m_Ledger_lift := He.meth_ok (d.fact 99 (f := .meth "Ledger" "lift") rfl),
    m_Ledger_own := He.meth_ok (d.fact 100 (f := .meth "Ledger" "own") rfl),
    m_Ledger_segment_of := He.meth_ok (d.fact 101 (f := .meth "Ledger" "segment_of") rfl),
    c_Catalog := He.cls_ok (d.fact 102 (f := .cls "Catalog") rfl),
    n_Catalog_ledger := He.noat_ok (d.fact 103 (f := .noat "Catalog" "ledger") rfl),
    n_Catalog_titles := He.noat_ok (d.fact 104 (f := .noat "Catalog" "titles") rfl),
    n_Catalog_closed := He.noat_ok (d.fact 105 (f := .noat "Catalog" "closed") rfl),
    n_Catalog_routes := He.noat_ok (d.fact 106 (f := .noat "Catalog" "routes") rfl),
    n_Catalog_begins := He.noat_ok (d.fact 107 (f := .noat "Catalog" "begins") rfl),
    k_Catalog := He.mkr_ok (d.fact 108 (f := .mkr "Catalog") rfl),
    m_Catalog_shard_of := He.meth_ok (d.fact 109 (f := .meth "Catalog" "shard_of") rfl),
    m_Catalog_title_of := He.meth_ok (d.fact 110 (f := .meth "Catalog" "title_of") rfl),
    m_Catalog_turns := He.meth_ok (d.fact 111 (f := .meth "Catalog" "turns") rfl),
    m_Catalog_close := He.meth_ok (d.fact 112 (f := .meth "Catalog" "close") rfl),
    m_Catalog_settle := He.meth_ok (d.fact 113 (f := .meth "Catalog" "settle") rfl),
    m_Catalog_own := He.meth_ok (d.fact 114 (f := .meth "Catalog" "own") rfl),
    m_Catalog_forget := He.meth_ok (d.fact 115 (f := .meth "Catalog" "forget") rfl),
    m_Catalog_write := He.meth_ok (d.fact 116 (f := .meth "Catalog" "write") rfl),
    m_Catalog_change := He.meth_ok (d.fact 117 (f := .meth "Catalog" "change") rfl),
    m_Catalog_apply := He.meth_ok (d.fact 118 (f := .meth "Catalog" "apply") rfl),
    c_Norms := He.cls_ok (d.fact 119 (f := .cls "Norms") rfl),
    n_Norms_low := He.noat_ok (d.fact 120 (f := .noat "Norms" "low") rfl),
    n_Norms_high := He.noat_ok (d.fact 121 (f := .noat "Norms" "high") rfl),
    k_Norms := He.mkr_ok (d.fact 122 (f := .mkr "Norms") rfl),
    c_Record := He.cls_ok (d.fact 123 (f := .cls "Record") rfl),
    n_Record_name := He.noat_ok (d.fact 124 (f := .noat "Record" "name") rfl),
    n_Record_vector := He.noat_ok (d.fact 125 (f := .noat "Record" "vector") rfl),
    n_Record_fields := He.noat_ok (d.fact 126 (f := .noat "Record" "fields") rfl),
    n_Record_words := He.noat_ok (d.fact 127 (f := .noat "Record" "words") rfl),
    k_Record := He.mkr_ok (d.fact 128 (f := .mkr "Record") rfl),
    m_Record_eq := He.meth_ok (d.fact 129 (f := .meth "Record" "__eq__") rfl),
    c_Schema := He.cls_ok (d.fact 130 (f := .cls "Schema") rfl),
    n_Schema_size := He.noat_ok (d.fact 131 (f := .noat "Schema" "size") rfl),
    n_Schema_width := He.noat_ok (d.fact 132 (f := .noat "Schema" "width") rfl),
    n_Schema_measure := He.noat_ok (d.fact 133 (f := .noat "Schema" "measure") rfl),
    n_Schema_fields := He.noat_ok (d.fact 134 (f := .noat "Schema" "fields") rfl),
    k_Schema := He.mkr_ok (d.fact 135 (f := .mkr "Schema") rfl),
    m_Schema_has_vector := He.meth_ok (d.fact 136 (f := .meth "Schema" "has_vector") rfl),
    m_Schema_has_fields := He.meth_ok (d.fact 137 (f := .meth "Schema" "has_fields") rfl),
    m_Schema_contains := He.meth_ok (d.fact 138 (f := .meth "Schema" "__contains__") rfl),
    m_Schema_check := He.meth_ok (d.fact 139 (f := .meth "Schema" "check") rfl),
    d_string_part := fn_of_says d 0 rfl,
    d_value_part := fn_of_says d 1 rfl,
    d_row_of := fn_of_says d 2 rfl,
    d_check_key := fn_of_says d 3 rfl,
    d_fold := fn_of_says d 4 rfl,
    d_mark_of := fn_of_says d 5 rfl,
    d_Note_init := fn_of_says d 6 rfl,
    d_Note_lives_at := fn_of_says d 7 rfl,
    d_Note_closed_by := fn_of_says d 8 rfl,
    d_Note_owned := fn_of_says d 9 rfl,
    d_Segment_init := fn_of_says d 10 rfl,
    d_Region_init := fn_of_says d 11 rfl,
    d_Ledger_init := fn_of_says d 12 rfl,
    d_Ledger_is_needed := fn_of_says d 13 rfl,
    d_Ledger_tidy := fn_of_says d 14 rfl,
    d_Ledger_note_of := fn_of_says d 15 rfl,
    d_Ledger_end := fn_of_says d 16 rfl,
    d_Ledger_put := fn_of_says d 17 rfl,
    d_Ledger_drop := fn_of_says d 18 rfl,
    d_Ledger_pin := fn_of_says d 19 rfl,
    d_Ledger_unpin := fn_of_says d 20 rfl,
    d_Ledger_lift := fn_of_says d 21 rfl,
    d_Ledger_own := fn_of_says d 22 rfl,
    d_Ledger_segment_of := fn_of_says d 23 rfl,
    d_put_route := fn_of_says d 24 rfl,
    d_Catalog_init := fn_of_says d 25 rfl,
    d_Catalog_shard_of := fn_of_says d 26 rfl,
    d_Catalog_title_of := fn_of_says d 27 rfl,
    d_Catalog_turns := fn_of_says d 28 rfl,
    d_Catalog_close := fn_of_says d 29 rfl,
    d_Catalog_settle := fn_of_says d 30 rfl,
    d_Catalog_own := fn_of_says d 31 rfl,
    d_Catalog_forget := fn_of_says d 32 rfl,
    d_Catalog_write := fn_of_says d 33 rfl,
    d_Catalog_change := fn_of_says d 34 rfl,
    d_Catalog_apply := fn_of_says d 35 rfl,
    d_Norms_init := fn_of_says d 36 rfl,
    d_same_value := fn_of_says d 37 rfl,
    d_same_fields := fn_of_says d 38 rfl,
    d_Record_init := fn_of_says d 39 rfl,
    d_Record_eq := fn_of_says d 40 rfl,
    d_is_letter := fn_of_says d 41 rfl,
    d_is_digit := fn_of_says d 42 rfl,
    d_is_field_name := fn_of_says d 43 rfl,
    d_kind_of_value := fn_of_says d 44 rfl,
    d_words_fit := fn_of_says d 45 rfl,
    d_Schema_init := fn_of_says d 46 rfl,
    d_Schema_has_vector := fn_of_says d 47 rfl,
    d_Schema_has_fields := fn_of_says d 48 rfl,
    d_Schema_contains := fn_of_says d 49 rfl,
    d_Schema_check := fn_of_says d 50 rfl,
    d_l_row := fn_of_says d 51 rfl,
    d_l_next := fn_of_says d 52 rfl,
    d_l_schema := fn_of_says d 53 rfl,
    d_l_vector := fn_of_says d 54 rfl,
    d_l_record := fn_of_says d 55 rfl,
    d_l_begin := fn_of_says d 56 rfl,
    d_l_close := fn_of_says d 57 rfl,
    d_l_trim := fn_of_says d 58 rfl,
    d_l_shard := fn_of_says d 59 rfl,
    d_l_turns := fn_of_says d 60 rfl,
    d_l_ended := fn_of_says d 61 rfl,
    d_l_own := fn_of_says d 62 rfl,
    d_l_write := fn_of_says d 63 rfl,
    d_l_moments := fn_of_says d 64 rfl,
    d_l_do := fn_of_says d 65 rfl,
    d_l_some := fn_of_says d 66 rfl,
    d_l_deed := fn_of_says d 67 rfl,
    d_l_alike := fn_of_says d 68 rfl,
    d_law := fn_of_says d 69 rfl,
    p_least := propB_ok e9,
    p_greatest := propB_ok e10,
    d_Schema_least := fnAt_ok c.l e11,
    d_Schema_greatest := fnAt_ok c.u e12,
    t_empty := tupAt_sq e1,
    t_MEASURES := tupAt_sq e2,
    t_KINDS := tupAt_sq e3,
    t_WORDS := tupAt_sq e4,
    r_dict := c.x.t.tab 0 rfl,
    r_bit := of_decide_eq_true e5,
    r_small := of_decide_eq_true e6,
    t_bit := tupAt_sq e7,
    t_small := tupAt_sq e8,
    e_ne := of_decide_eq_true e13,
    e_eq := of_decide_eq_true e14,
    e_class := of_decide_eq_true e15,
    e_mro := of_decide_eq_true e16,
    e_kit := of_decide_eq_true e17 }
end K94
/-! Heaps, promises, how a def of the text is called. -/
namespace K94
open PySem PySem.Spec PyProof.Rows L2
/-! ### heaps: F what never changes, H the heap; S what may be changed -/
/-- not a table of code objects -/
def NoTab (o : HO) : Prop := ∀ ps, o ≠ .tbl ps
structure Gr (S : List Addr) (F H F' H' : Hp) : Prop where
  ff : Same F F'
  fh : Same F' H'
  keep : ∀ a o, H a = some o → a ∉ S → H' a = some o
  new : ∀ a o, F' a = some o → F a = some o ∨ H a = none
  dom : ∀ a o, H a = some o → ∃ o', H' a = some o'
  nt : ∀ a ps, F' a = some (.tbl ps) → F a = some (.tbl ps)
  tb : ∀ a ps, H' a = some (.tbl ps) → H a = some (.tbl ps) ∨ H a = none
theorem Gr.refl {S : List Addr} {F H : Hp} (h : Same F H) : Gr S F H F H := ⟨Same.refl F, h, fun _ _ e _ => e, fun _ _ e => .inl e, fun _ o e => ⟨o, e⟩, fun _ _ e => e, fun _ _ e => .inl e⟩
theorem Gr.trans {S : List Addr} {F H F1 H1 F2 H2 : Hp} (a : Gr S F H F1 H1) (b : Gr S F1 H1 F2 H2) : Gr S F H F2 H2 := by
  have none_ : ∀ c, H1 c = none → H c = none := fun c h => by
    cases q : H c with
    | none => rfl
    | some u =>
      obtain ⟨o', e'⟩ := a.dom c u q
      rw [h] at e'
      cases e'
  refine ⟨a.ff.trans b.ff, b.fh, fun c o e n => b.keep c o (a.keep c o e n) n, fun c o e => ?_, fun c o e => ?_, fun c ps e => a.nt c ps (b.nt c ps e), fun c ps e => ?_⟩
  · rcases b.new c o e with h | h
    · exact a.new c o h
    · exact .inr (none_ c h)
  · obtain ⟨o1, e1⟩ := a.dom c o e
    exact b.dom c o1 e1
  · rcases b.tb c ps e with h | h
    · exact a.tb c ps h
    · exact .inr (none_ c h)
theorem Gr.mono {S S' : List Addr} {F H F' H' : Hp} (g : Gr S F H F' H') (h : ∀ a ∈ S, a ∈ S') : Gr S' F H F' H' := ⟨g.ff, g.fh, fun a o e n => g.keep a o e fun z => n (h a z), g.new, g.dom, g.nt, g.tb⟩
theorem same_tb {H H' : Hp} (e : Same H H') : ∀ a ps, H' a = some (.tbl ps) → H a = some (.tbl ps) ∨ H a = none := fun a ps q => by
  cases h : H a with
  | none => exact .inr rfl
  | some o =>
    rw [e a o h] at q
    exact .inl q
/-- nothing was changed, nothing was told -/
theorem Gr.same {S : List Addr} {F H H' : Hp} (h : Same F H) (e : Same H H') : Gr S F H F H' := ⟨Same.refl F, h.trans e, fun a o q _ => e a o q, fun _ _ q => .inl q, fun a o q => ⟨o, e a o q⟩, fun _ _ q => q, same_tb e⟩
theorem Gr.hh {F H F' H' : Hp} (g : Gr [] F H F' H') : Same H H' := fun a o e => g.keep a o e (by simp)
/-- what stands in H but not in F is not told later -/
theorem Gr.out {S : List Addr} {F H F' H' : Hp} {a : Addr} {o : HO} (g : Gr S F H F' H') (h : H a = some o) (n : F a = none) : F' a = none := by
  cases q : F' a with
  | none => rfl
  | some u =>
    rcases g.new a u q with e | e
    · rw [n] at e
      cases e
    · rw [h] at e
      cases e
theorem same_new {H : Hp} {p : Addr} {o : HO} (h : H p = none) : Same H (upd H p o) := fun b x e => by
  rw [upd_ne (ne_of_none e h)]
  exact e
theorem same_none {F H : Hp} {p : Addr} (s : Same F H) (h : H p = none) : F p = none := s.free h
theorem upd_nt {F : Hp} {p : Addr} {o : HO} (ho : NoTab o) : ∀ a ps, upd F p o a = some (.tbl ps) → F a = some (.tbl ps) := fun a ps e => by
  by_cases hb : a = p
  · rw [hb, upd_same] at e
    exact absurd (Option.some.inj e) (ho ps)
  · rw [upd_ne hb] at e
    exact e
/-- a new thing is made, and told -/
theorem Gr.tell {S : List Addr} {F H : Hp} {p : Addr} {o : HO} (s : Same F H) (h : H p = none) (ho : NoTab o := by intro _ h; cases h) : Gr S F H (upd F p o) (upd H p o) := by
  have n := s.free h
  refine ⟨same_new n, fun b x e => ?_, fun a x e _ => same_new h a x e, fun a x e => ?_, fun a x e => ⟨x, same_new h a x e⟩, upd_nt ho, fun a ps e => .inl (upd_nt ho a ps e)⟩
  · by_cases hb : b = p
    · subst hb
      rw [upd_same] at e ⊢
      exact e
    · rw [upd_ne hb] at e ⊢
      exact s b x e
  · by_cases hb : a = p
    · rw [hb]
      exact .inr h
    · rw [upd_ne hb] at e
      exact .inl e
/-- a thing of H is told that was not before H0 -/
theorem Gr.told {S : List Addr} {F0 H0 F H : Hp} {p : Addr} {o : HO} (g : Gr S F0 H0 F H) (e : H p = some o) (n : F p = none) (h0 : H0 p = none) (ho : NoTab o := by intro _ h; cases h) : Gr S F0 H0 (upd F p o) H := by
  refine ⟨g.ff.trans (same_new n), fun b x q => ?_, g.keep, fun a x q => ?_, g.dom, fun a ps q => g.nt a ps (upd_nt ho a ps q), g.tb⟩
  · by_cases hb : b = p
    · subst hb
      rw [upd_same] at q
      rw [e]
      exact q
    · rw [upd_ne hb] at q
      exact g.fh b x q
  · by_cases hb : a = p
    · rw [hb]
      exact .inr h0
    · rw [upd_ne hb] at q
      exact g.new a x q
/-- a new thing is made, not told -/
theorem Gr.made {S : List Addr} {F0 H0 F H : Hp} {p : Addr} {o : HO} (g : Gr S F0 H0 F H) (h : H p = none) : Gr S F0 H0 F (upd H p o) := g.trans (Gr.same g.fh (same_new h))
/-- a thing that H0 did not have, or that may be changed, is changed -/
theorem Gr.put {S : List Addr} {F0 H0 F H : Hp} {p : Addr} {o : HO} (g : Gr S F0 H0 F H) (n : F p = none) (h0 : H0 p = none ∨ p ∈ S) (ho : NoTab o := by intro _ h; cases h) : Gr S F0 H0 F (upd H p o) := by
  refine ⟨g.ff, fun b x q => ?_, fun a x q m => ?_, g.new, fun a x q => ?_, g.nt, fun a ps q => g.tb a ps (upd_nt ho a ps q)⟩
  · rw [upd_ne fun z => by rw [z, n] at q; cases q]
    exact g.fh b x q
  · rw [upd_ne fun z => by
      subst z
      rcases h0 with e | e
      · rw [q] at e; cases e
      · exact m e]
    exact g.keep a x q m
  · by_cases hb : a = p
    · rw [hb]
      exact ⟨o, upd_same⟩
    · obtain ⟨o', e'⟩ := g.dom a x q
      exact ⟨o', by rw [upd_ne hb]; exact e'⟩
/-- told from an earlier heap on -/
theorem Gr.from_ {S : List Addr} {F H0 H F' H' : Hp} (s : Same H0 H) (g : Gr S F H F' H') : Gr S F H0 F' H' := by
  refine ⟨g.ff, g.fh, fun a o e n => g.keep a o (s a o e) n, fun a o e => ?_, fun a o e => g.dom a o (s a o e), g.nt, fun a ps e => ?_⟩
  · rcases g.new a o e with h | h
    · exact .inl h
    · exact .inr (s.free h)
  · rcases g.tb a ps e with h | h
    · exact same_tb s a ps h
    · exact .inr (s.free h)
theorem mk_same {H0 : Hp} {x dx : Addr} {C : Addr} (hx : H0 x = none) (hd : H0 dx = none) : Same H0 (upd (upd H0 dx (.own x)) x (.ins C dx [])) := fun b o e => by
  rw [upd_ne (ne_of_none e hx), upd_ne (ne_of_none e hd)]
  exact e
theorem same_put {H0 H : Hp} {x : Addr} {o : HO} (s : Same H0 H) (hx : H0 x = none) : Same H0 (upd H x o) := fun b u e => by
  rw [upd_ne (ne_of_none e hx)]
  exact s _ _ e
theorem sqT_same {K : PySem.W.Frag} {H H' : Hp} {a : Addr} {xs : List V} (e : Same H H') (h : SqT K H a xs) : SqT K H' a xs := SqT.ext h e
theorem sqL_same {K : PySem.W.Frag} {H H' : Hp} {a : Addr} {xs : List V} (e : Same H H') (h : SqL K H a xs) : SqL K H' a xs := SqL.ext h e
/-! ### calls -/
section
variable {P : Program} {w : World} {K : PySem.W.Frag} {mg : Str → Option Value} {base : Heap}
theorem cal_mk {x : Str} {st : Stmt} {f : Addr} {N ps : List Str} {k : Nat} {sp : Sp} (F : ∃ z, FunD K x x (defArgs st) (defBody st) (defScope st) [] [] f z) (hm : mg x = some (.ref f)) (S : FnScope N ps (defScope st))
    (hb : ∀ (kV doc pm : Value) (an : Option Addr) (cdv ct : Value) (us : List Value), us.length = ps.length → bindArgs (PySem.W.fnOf x x (defArgs st) (defBody st) (defScope st) .none kV doc pm an cdv ct) ⟨us, []⟩ = pure (ps.zip us))
    (len : ∀ vs H Q E, sp vs H Q E → vs.length = ps.length)
    (hbody : ∀ (f : Addr) (cdv : Value) (A : Around) (outer : List Env) (s : Shared) (H : Hp) (vs : List V) (Q : VK) (E : XK), Room k (A.deeper (envOfC x (defScope st) s.heap.objs.size f cdv)) → sp vs H Q E →
      ∃ t, PSs (cxOf C8.CX0 P w K mg base N x (defScope st) f cdv A outer s H E).nox (defBody st) t ∧ t { nx := fun _ H' => Q .non H', rt := Q } (start N vs) H) : C8.Cal P w K mg base (k + 1) x sp [] := by
  obtain ⟨z, F⟩ := F
  refine ⟨f, z, ps, [], F.ok S len fun cdv A outer s H vs Q E hr h => ?_, hm, F.kp, F.bindsN hb, .nil⟩
  obtain ⟨t, h1, h2⟩ := hbody f cdv A outer s H vs Q E hr h
  exact ⟨t, h1.nox, h2⟩
theorem met_mk {m q : Str} {C f : Addr} {st : Stmt} {N ps : List Str} {k : Nat} {sp : Sp} (F : ∃ z, FunD K m q (defArgs st) (defBody st) (defScope st) [] [] f z) (c : Cls K C) (me : Meth K C m f) (S : FnScope N ps (defScope st))
    (hb : ∀ (kV doc pm : Value) (an : Option Addr) (cdv ct : Value) (us : List Value), us.length = ps.length → bindArgs (PySem.W.fnOf m q (defArgs st) (defBody st) (defScope st) .none kV doc pm an cdv ct) ⟨us, []⟩ = pure (ps.zip us))
    (len : ∀ vs H Q E, sp vs H Q E → vs.length = ps.length)
    (hbody : ∀ (f : Addr) (cdv : Value) (A : Around) (outer : List Env) (s : Shared) (H : Hp) (vs : List V) (Q : VK) (E : XK), Room k (A.deeper (envOfC q (defScope st) s.heap.objs.size f cdv)) → sp vs H Q E →
      ∃ t, PSs (cxOf C8.CX0 P w K mg base N q (defScope st) f cdv A outer s H E).nox (defBody st) t ∧ t { nx := fun _ H' => Q .non H', rt := Q } (start N vs) H) : C8.Met P w K mg base (k + 1) C m sp [] := by
  obtain ⟨z, F⟩ := F
  refine ⟨f, z, ps, [], c, me, F.ok S len fun cdv A outer s H vs Q E hr h => ?_, F.bindsN hb, .nil⟩
  obtain ⟨t, h1, h2⟩ := hbody f cdv A outer s H vs Q E hr h
  exact ⟨t, h1.nox, h2⟩
theorem mak_mk {x q : Str} {C f : Addr} {st : Stmt} {N ps : List Str} {k : Nat} {sp : Sp} (F : ∃ z, FunD K "__init__" q (defArgs st) (defBody st) (defScope st) [] [] f z) (M : Mk K C f) (hm : mg x = some (.ref C)) (S : FnScope N ps (defScope st))
    (hb : ∀ (kV doc pm : Value) (an : Option Addr) (cdv ct : Value) (us : List Value), us.length = ps.length → bindArgs (PySem.W.fnOf "__init__" q (defArgs st) (defBody st) (defScope st) .none kV doc pm an cdv ct) ⟨us, []⟩ = pure (ps.zip us))
    (len : ∀ vs H Q E, sp vs H Q E → vs.length = ps.length)
    (hbody : ∀ (f : Addr) (cdv : Value) (A : Around) (outer : List Env) (s : Shared) (H : Hp) (vs : List V) (Q : VK) (E : XK), Room k (A.deeper (envOfC q (defScope st) s.heap.objs.size f cdv)) → sp vs H Q E →
      ∃ t, PSs (cxOf C8.CX0 P w K mg base N q (defScope st) f cdv A outer s H E).nox (defBody st) t ∧ t { nx := fun _ H' => Q .non H', rt := Q } (start N vs) H) : C8.Mak P w K mg base (k + 1) x C sp [] := by
  obtain ⟨z, F⟩ := F
  refine ⟨f, z, ps, [], M, F.ok S len fun cdv A outer s H vs Q E hr h => ?_, hm, F.bindsN hb, .nil⟩
  obtain ⟨t, h1, h2⟩ := hbody f cdv A outer s H vs Q E hr h
  exact ⟨t, h1.nox, h2⟩
end
theorem hu65_of {A : Around} {k : Nat} (hr : Room k A) : A.units + 65 < cLine := by
  have := hr.un
  omega
/-! ### small things -/
theorem ite_b {c : Bool} {A B : Prop} (ht : c = true → A) (hf : c = false → B) : if c = true then A else B := by
  cases c with
  | true => exact iteT (ht rfl)
  | false => exact iteF (hf rfl)
theorem le1000 {n : Nat} (h : n ≤ 100000) : n ≤ sizeLine := Nat.le_trans h (by decide)
theorem lt1000 {n : Nat} (h : n ≤ 100000) : n < sizeLine := Nat.lt_of_le_of_lt h (by decide)
theorem bl_eq {a b : V} (h : a = b) : decide (a = b) = true := decide_eq_true h
theorem map_at {α : Type} {f : α → V} {xs : List α} {i : Nat} {v : V} (h : (xs.map f)[i]? = some v) : ∃ x, xs[i]? = some x ∧ v = f x := by
  rw [List.getElem?_map] at h
  cases e : xs[i]? with
  | none =>
    rw [e] at h
    cases h
  | some x =>
    rw [e] at h
    exact ⟨x, rfl, (Option.some.inj h).symm⟩
theorem paired_at {α β : Type} {R : α → β → Prop} : ∀ {xs : List α} {ys : List β} {i : Nat} {x : α}, Paired R xs ys → xs[i]? = some x → ∃ y, ys[i]? = some y ∧ R x y
  | _, _, _, _, .nil, e => by simp at e
  | _, _, 0, _, .cons r _, e => by
    simp at e
    subst e
    exact ⟨_, rfl, r⟩
  | _, _, i + 1, x, .cons _ t, e => by
    obtain ⟨y, h1, h2⟩ := paired_at (i := i) (x := x) t (by simpa using e)
    exact ⟨y, by simpa using h1, h2⟩
theorem paired_at2 {α β : Type} {R : α → β → Prop} : ∀ {xs : List α} {ys : List β} {i : Nat} {y : β}, Paired R xs ys → ys[i]? = some y → ∃ x, xs[i]? = some x ∧ R x y
  | _, _, _, _, .nil, e => by simp at e
  | _, _, 0, _, .cons r _, e => by
    simp at e
    subst e
    exact ⟨_, rfl, r⟩
  | _, _, i + 1, x, .cons _ t, e => by
    obtain ⟨y, h1, h2⟩ := paired_at2 (i := i) (y := x) t (by simpa using e)
    exact ⟨y, by simpa using h1, h2⟩
theorem paired_append {α β : Type} {R : α → β → Prop} : ∀ {xs : List α} {ys : List β} {xs2 : List α} {ys2 : List β}, Paired R xs ys → Paired R xs2 ys2 → Paired R (xs ++ xs2) (ys ++ ys2)
  | _, _, _, _, .nil, s => s
  | _, _, _, _, .cons r t, s => .cons r (paired_append t s)
theorem take_succ_of {α : Type} {xs : List α} {i : Nat} {x : α} (h : xs[i]? = some x) : xs.take (i + 1) = xs.take i ++ [x] := by
  rw [List.take_add_one, h]
  rfl
/-! ### comprehensions that only read (and perhaps make things) -/
theorem lc_pure {α : Type} {J : It} {n : Nat} {G : Hp → Prop} {Y : Nat → Hp → V → Hp → Prop} (w : Walk J n G Y) {g : TG} {tt : TT} {te : TE} {vs : List Nat} {σ : L2.St} {H1 : Hp} {D : Addr} {Qd : Hp → Prop} (hD : H1 D = none) (R : Nat → V → Prop)
    (hG : ∀ H, Same H1 H → G H) (hy : ∀ i H x H', Y i H x H' → H' = H ∧ R i x) (zs : List α) (hn : zs.length = n) (hz : n ≤ 100000) (f : α → Option V)
    (hs : ∀ (i : Nat) (x : V) (z : α) (H : Hp) (Qn : Hp → Prop) (Qy : V → Hp → Prop), R i x → zs[i]? = some z → Same H1 H → (f z = none → ∀ H', Same H H' → Qn H') → (∀ y, f z = some y → ∀ H', Same H H' → Qy y H') →
      g x (wipe σ vs) H fun σ2 H2 => wipe σ2 vs = wipe σ vs ∧ tt σ2 H2 fun b H3 => if b = true then te σ2 H3 Qy else Qn H3)
    (hd : ∀ H', Same H1 H' → H' D = some (.lst (zs.filterMap f)) → Qd H') :
    ∃ W : Nat → Nat → Hp → Prop, (∃ m, W 0 m (upd H1 D (.lst []))) ∧ ∀ i m H, W i m H →
      (J.stop i H ∧ Qd H) ∨ (J.go i H ∧ ∃ Nx : Hp → Prop, (∀ H', Nx H' → ∃ m', m' < m ∧ W (i + 1) m' H') ∧ ∀ x H', J.yld i H x H' → g x (wipe σ vs) H' fun σ2 H2 => wipe σ2 vs = wipe σ vs ∧ tt σ2 H2 fun b H3 =>
        if b = true then te σ2 H3 fun y H4 => ∃ acc, H4 D = some (.lst acc) ∧ acc.length < sizeLine ∧ Nx (upd H4 D (.lst (acc ++ [y]))) else Nx H3) := by
  refine lc_it w (fun i H => Same H1 H ∧ H D = some (.lst ((zs.take i).filterMap f))) ⟨same_new hD, upd_same⟩ (fun i H _ p => hG H p.1) (fun i x H H' hi p y => ?_) (fun H p => hd H p.1 ?_)
  · obtain ⟨rfl, r⟩ := hy _ _ _ _ y
    have hi' : i < zs.length := by omega
    have hz2 : zs[i]? = some zs[i] := List.getElem?_eq_getElem hi'
    refine hs i x zs[i] H' _ _ r hz2 p.1 (fun e H2 s => ⟨p.1.trans s, ?_⟩) (fun v e H2 s => ⟨_, s _ _ p.2, ?_, ?_, ?_⟩)
    · rw [take_succ_of hz2, List.filterMap_append, s _ _ p.2]
      simp [e]
    · exact lt1000 (Nat.le_trans (List.length_filterMap_le f _) (Nat.le_trans (List.length_take_le _ _) (by omega)))
    · intro b o q
      rw [upd_ne (ne_of_none q hD)]
      exact s _ _ (p.1 _ _ q)
    · rw [upd_same, take_succ_of hz2, List.filterMap_append]
      simp [e]
  · rw [p.2, List.take_of_length_le (by omega)]
theorem lc_yes {te : TE} {σ : L2.St} {H : Hp} {Qy : V → Hp → Prop} {Qn : Hp → Prop} (h : te σ H Qy) : tYes σ H fun b H3 => if b = true then te σ H3 Qy else Qn H3 := iteT (B := Qn H) h
theorem same_two {H H1 H2 : Hp} {p : Addr} (s : Same H1 H2) (e : Same H H1) (n : H2 p = none) : H p = none := (e.trans s).free n
theorem same_app {H H1 : Hp} {q : Addr} {o : HO} (s : Same H H1) (n : H1 q = none) : Same H (upd H1 q o) := s.trans (same_new n)
theorem lc_list_pure {α : Type} {K : PySem.W.Frag} {a : Addr} {xs : List V} {g : TG} {tt : TT} {te : TE} {vs : List Nat} {σ : L2.St} {H1 : Hp} {D : Addr} {Qd : Hp → Prop} (hD : H1 D = none) (hL : SqL K H1 a xs) (zs : List α) (hn : zs.length = xs.length) (hz : xs.length ≤ 100000) (f : α → Option V)
    (hs : ∀ (i : Nat) (x : V) (z : α) (H : Hp) (Qn : Hp → Prop) (Qy : V → Hp → Prop), xs[i]? = some x → zs[i]? = some z → Same H1 H → (f z = none → ∀ H', Same H H' → Qn H') → (∀ y, f z = some y → ∀ H', Same H H' → Qy y H') →
      g x (wipe σ vs) H fun σ2 H2 => wipe σ2 vs = wipe σ vs ∧ tt σ2 H2 fun b H3 => if b = true then te σ2 H3 Qy else Qn H3)
    (hd : ∀ H', Same H1 H' → H' D = some (.lst (zs.filterMap f)) → Qd H') :
    ∃ W : Nat → Nat → Hp → Prop, (∃ m, W 0 m (upd H1 D (.lst []))) ∧ ∀ i m H, W i m H →
      ((Itl K a).stop i H ∧ Qd H) ∨ ((Itl K a).go i H ∧ ∃ Nx : Hp → Prop, (∀ H', Nx H' → ∃ m', m' < m ∧ W (i + 1) m' H') ∧ ∀ x H', (Itl K a).yld i H x H' → g x (wipe σ vs) H' fun σ2 H2 => wipe σ2 vs = wipe σ vs ∧ tt σ2 H2 fun b H3 =>
        if b = true then te σ2 H3 fun y H4 => ∃ acc, H4 D = some (.lst acc) ∧ acc.length < sizeLine ∧ Nx (upd H4 D (.lst (acc ++ [y]))) else Nx H3) :=
  lc_pure walk_list hD (fun i x => xs[i]? = some x) (fun _ s => sqL_same s hL) (fun _ _ _ _ y => y) zs hn hz f hs hd
/-! ### comprehensions that make things -/
theorem lc_grow {α β : Type} {J : It} {n : Nat} {G : Hp → Prop} {Y : Nat → Hp → V → Hp → Prop} (w : Walk J n G Y) {g : TG} {tt : TT} {te : TE} {vs : List Nat} {σ : L2.St} {F H1 : Hp} {D : Addr} {Qd : Hp → Prop} (hD : H1 D = none) (hF : Same F H1) (Rx : Nat → V → Prop)
    (hG : ∀ H, Same H1 H → G H) (hy : ∀ i H x H', Y i H x H' → H' = H ∧ Rx i x) (zs : List α) (hn : zs.length = n) (hz : n ≤ 100000) (f : α → Option β) (R : Hp → Addr → β → Prop) (mono : ∀ {F F' : Hp} {p : Addr} {b : β}, Same F F' → R F p b → R F' p b)
    (hs : ∀ (i : Nat) (x : V) (z : α) (Fi H : Hp) (Qn : Hp → Prop) (Qy : V → Hp → Prop), Rx i x → zs[i]? = some z → Gr [] F H1 Fi H → (f z = none → ∀ F' H', Gr [] Fi H F' H' → Qn H') → (∀ b, f z = some b → ∀ p F' H', Gr [] Fi H F' H' → R F' p b → Qy (.ref p) H') →
      g x (wipe σ vs) H fun σ2 H2 => wipe σ2 vs = wipe σ vs ∧ tt σ2 H2 fun b H3 => if b = true then te σ2 H3 Qy else Qn H3)
    (hd : ∀ F' H' (ps : List Addr), Gr [] F H1 F' H' → F' D = none → H' D = some (.lst (ps.map V.ref)) → Paired (R F') ps (zs.filterMap f) → Qd H') :
    ∃ W : Nat → Nat → Hp → Prop, (∃ m, W 0 m (upd H1 D (.lst []))) ∧ ∀ i m H, W i m H →
      (J.stop i H ∧ Qd H) ∨ (J.go i H ∧ ∃ Nx : Hp → Prop, (∀ H', Nx H' → ∃ m', m' < m ∧ W (i + 1) m' H') ∧ ∀ x H', J.yld i H x H' → g x (wipe σ vs) H' fun σ2 H2 => wipe σ2 vs = wipe σ vs ∧ tt σ2 H2 fun b H3 =>
        if b = true then te σ2 H3 fun y H4 => ∃ acc, H4 D = some (.lst acc) ∧ acc.length < sizeLine ∧ Nx (upd H4 D (.lst (acc ++ [y]))) else Nx H3) := by
  refine lc_it w (fun i H => ∃ (Fi : Hp) (ps : List Addr), Gr [] F H1 Fi H ∧ Fi D = none ∧ H D = some (.lst (ps.map V.ref)) ∧ Paired (R Fi) ps ((zs.take i).filterMap f))
    ⟨F, [], (Gr.refl hF).made hD, hF.free hD, upd_same, .nil⟩ (fun i H _ p => by obtain ⟨Fi, ps, g, _⟩ := p; exact hG H g.hh) (fun i x H H' hi p y => ?_) (fun H p => ?_)
  · obtain ⟨rfl, r⟩ := hy _ _ _ _ y
    obtain ⟨Fi, ps, gr, nD, hl, pr⟩ := p
    have hi' : i < zs.length := by omega
    have hz2 : zs[i]? = some zs[i] := List.getElem?_eq_getElem hi'
    refine hs i x zs[i] Fi H' _ _ r hz2 gr (fun e F2 H2 s => ⟨F2, ps, gr.trans s, s.out hl nD, s.hh _ _ hl, ?_⟩) (fun b e p F2 H2 s rp => ⟨_, s.hh _ _ hl, ?_, F2, ps ++ [p], (gr.trans s).put (s.out hl nD) (.inl hD), s.out hl nD, ?_, ?_⟩)
    · rw [take_succ_of hz2, List.filterMap_append]
      simp only [List.filterMap_cons, e, List.filterMap_nil, List.append_nil]
      exact Paired.mono (fun _ _ q => mono s.ff q) pr
    · have h1 := pr.length
      have h2 : ((zs.take i).filterMap f).length ≤ (zs.take i).length := List.length_filterMap_le f _
      have h3 : (zs.take i).length ≤ i := by
        rw [List.length_take]
        exact Nat.min_le_left _ _
      rw [List.length_map]
      exact lt1000 (by omega)
    · rw [upd_same, List.map_append]
      rfl
    · rw [take_succ_of hz2, List.filterMap_append]
      simp only [List.filterMap_cons, e, List.filterMap_nil]
      exact paired_append (Paired.mono (fun _ _ q => mono s.ff q) pr) (.cons rp .nil)
  · obtain ⟨Fi, ps, gr, nD, hl, pr⟩ := p
    rw [List.take_of_length_le (by omega)] at pr
    exact hd Fi H ps gr nD hl pr
end K94
/-! Rules of the layer's kind that this law wants besides. -/
namespace K94
open PySem PySem.Spec PyProof.Rows L2
section
variable {X : Cx}
/-- what the proof never comes to -/
theorem pe_nv {e : Expr} : PE X e (fun _ _ _ => False) := ⟨fun _ _ _ _ _ _ h => h.elim⟩
theorem pt_nv {e : Expr} : PT X e (fun _ _ _ => False) := ⟨fun _ _ _ _ _ _ h => h.elim⟩
theorem pw_nv {e : Expr} : PW X e (fun _ _ _ => False) := ⟨fun _ _ _ _ _ _ _ h => h.elim⟩
/-- d[x], d a dict of the module with text keys -/
theorem ix_kd {d : Addr} {es : Array DictEntry} {n : Nat} (D : KDict X.K X.w d es n) : IxR X (fun x y H Q => ∃ (z : Str) (u0 : Value) (v0 : V), x = .ref d ∧ y = .str z ∧ PySem.W.nsIn X.K d z = some (some u0) ∧ RelV v0 u0 ∧ Q v0 H) := by
  intro value slice pins s σ H x y v u Q I rx ry h hs
  have h0 := h
  obtain ⟨z, u0, v0, rfl, rfl, e, r, q⟩ := h
  cases rx
  obtain ⟨t, rfl⟩ := ry
  refine subscriptTail_builtinR (x := u0) (kd_type D I) PySem.F.slot_dict_getitem.lookup ?_ hs
  exact wpAny_getItem_of (PySem.strKind_is X.prog X.w z t) (PySem.W.mapOf_K (prog := X.prog) I.kIn D.at_ D.lit) (PySem.W.find_K D.at_ e) ⟨rfl, v0, H, I.tok _, r, q⟩
/-- x not in o, by an own __contains__ -/
def rNotInOwn (C : Addr) (sp : Sp) : R2 := fun x y H Q => ∃ a dx fs, y = .ref a ∧ H a = some (.ins C dx fs) ∧ sp [.ref a, x] H (fun v H' => ∃ b, v = .bl b ∧ Q (.bl (!b)) H') C8.E0
theorem op_notIn_own {k : Nat} {C : Addr} {sp : Sp} (c : C8.Met X.prog X.w X.K X.mg X.base k C "__contains__" sp []) {j : Nat} (hr : Room j X.A) (hk : k ≤ j) : OpR X (compareOp .NotIn) (rNotInOwn C sp) := by
  obtain ⟨f, fd, ps, ds, cl, me, F, b, d⟩ := c.ex
  intro pins s σ H x y v u Q I rx ry h
  obtain ⟨a, dx, fs, rfl, ha, h⟩ := h
  cases ry
  obtain ⟨mA, J, _⟩ := ins_get I.hok ha
  obtain ⟨od, J, _⟩ := J.look
  obtain ⟨m, hF⟩ := I.fr
  refine PySem.W.notIn_K hF I.ok.mod.kin J me.at_ me.fn ?_
  refine thn (run_fn (vs := [.ref a, x]) F (hr.mono hk) b d C8.pass0 I (.cons rfl (.cons rx .nil)) h) fun w' s' q => ?_
  obtain ⟨z, H', I', rz, b', rfl, q⟩ := q
  cases rz
  exact wpAny_truthy_bool ⟨.bl (!b'), H', I', rfl, q⟩
end
/-- tuple(x), its reading told by K alone -/
def rTupleK (K : PySem.W.Frag) : List V → Hp → VK → Prop := fun xs H Q => ∃ p ys, xs = [.ref p] ∧ ((SqL K H p ys ∧ ∀ l, H l = none → Q (.ref l) (upd H l (.tup ys))) ∨ (SqT K H p ys ∧ Q (.ref p) H))
theorem call_tuple_K {X : Cx} {K : PySem.W.Frag} (e : X.K = K) : CallR X (.type "tuple") (rTupleK K) := by
  subst e
  exact call_tuple_of
/-! rules whose reading is told by K alone: they stand in a comprehension -/
theorem pe_fldK {X : Cx} {K : PySem.W.Frag} (k : X.K = K) {e : Expr} {f : Str} {pos : Pos} {ta : TE} (he : PE X e ta) (hb : attributeBase e f X.env (eval e X.env) = eval e X.env) : PE X (.Attribute e f pos) (tFld K ta f) := by
  subst k
  exact pe_fld he hb
theorem ix_tupK {X : Cx} {K : PySem.W.Frag} (k : X.K = K) : IxR X (rIxT K) := by
  subst k
  exact ix_tup
theorem op_in_seqK {X : Cx} {K : PySem.W.Frag} (k : X.K = K) : OpR X (compareOp .In) (rIn K false) := by
  subst k
  exact op_in_seq
theorem op_notIn_seqK {X : Cx} {K : PySem.W.Frag} (k : X.K = K) : OpR X (compareOp .NotIn) (rIn K true) := by
  subst k
  exact op_notIn_seq
theorem sl_tupK {X : Cx} {K : PySem.W.Frag} (k : X.K = K) : SlR X (rSlT K) := by
  subst k
  exact sl_tup
theorem op_ltTK {X : Cx} {K : PySem.W.Frag} (k : X.K = K) (hu : X.A.units < cLine) : OpR X (compareOp .Lt) (rLtT K) := by
  subst k
  exact op_ltT hu
/-! ### a property -/
section
variable {P : Program} {w : World} {K : PySem.W.Frag} {mg : Str → Option Value} {base : Heap}
structure Prp (P : Program) (w : World) (K : PySem.W.Frag) (mg : Str → Option Value) (base : Heap) (k : Nat) (C : Addr) (f : Str) (sp : Sp) : Prop where
  ex : ∃ (p g : Addr) (fd : FuncData) (ps : List Str), Cls K C ∧ PropOf K C f p g ∧ FnOk P w K mg base C8.CX0 k g fd ps sp ∧ Binds K fd ps []
theorem prp_mk {m q : Str} {C p f : Addr} {st : Stmt} {N ps : List Str} {k : Nat} {sp : Sp} (F : ∃ z, FunD K m q (defArgs st) (defBody st) (defScope st) [] [] f z) (c : Cls K C) (me : PropOf K C m p f) (S : FnScope N ps (defScope st))
    (hb : ∀ (kV doc pm : Value) (an : Option Addr) (cdv ct : Value) (us : List Value), us.length = ps.length → bindArgs (PySem.W.fnOf m q (defArgs st) (defBody st) (defScope st) .none kV doc pm an cdv ct) ⟨us, []⟩ = pure (ps.zip us))
    (len : ∀ vs H Q E, sp vs H Q E → vs.length = ps.length)
    (hbody : ∀ (f : Addr) (cdv : Value) (A : Around) (outer : List Env) (s : Shared) (H : Hp) (vs : List V) (Q : VK) (E : XK), Room k (A.deeper (envOfC q (defScope st) s.heap.objs.size f cdv)) → sp vs H Q E →
      ∃ t, PSs (cxOf C8.CX0 P w K mg base N q (defScope st) f cdv A outer s H E).nox (defBody st) t ∧ t { nx := fun _ H' => Q .non H', rt := Q } (start N vs) H) : Prp P w K mg base (k + 1) C m sp := by
  obtain ⟨z, F⟩ := F
  refine ⟨p, f, z, ps, c, me, F.ok S len fun cdv A outer s H vs Q E hr h => ?_, F.bindsN hb⟩
  obtain ⟨t, h1, h2⟩ := hbody f cdv A outer s H vs Q E hr h
  exact ⟨t, h1.nox, h2⟩
end
theorem pe_prp {X : Cx} {k j : Nat} {C : Addr} {f : Str} {sp : Sp} {e : Expr} {ta : TE} {pos : Pos} (c : Prp X.prog X.w X.K X.mg X.base k C f sp) (hr : Room j X.A) (hk : k + 1 ≤ j) (he : PE X e ta) (hab : attributeBase e f X.env (eval e X.env) = eval e X.env := by rfl) :
    PE X (.Attribute e f pos) (tProp C sp [] C8.E0 ta) := by
  obtain ⟨p, g, fd, ps, cl, hp, F, b⟩ := c.ex
  exact pe_prop he cl hp F (hr.mono hk) b .nil C8.pass0 hab
/-! ### a class made by a call with keywords -/
structure MakN (P : Program) (w : World) (K : PySem.W.Frag) (mg : Str → Option Value) (base : Heap) (k : Nat) (x : Str) (C : Addr) (n : Nat) (ks : List Str) (gV : List V → List V → List V) (sp : Sp) : Prop where
  ex : ∃ (f : Addr) (fd : FuncData) (ps : List Str) (g : List Value → List Value → List Value), Mk K C f ∧ FnOk P w K mg base C8.CX0 k f fd ps sp ∧ mg x = some (.ref C) ∧ KBn K fd ps (n + 1) ks g gV
theorem pe_mkN {X : Cx} {k j n : Nat} {x : Str} {C : Addr} {ks : List Str} {gV : List V → List V → List V} {sp : Sp} {p pos : Pos} {e : Expr} {es : List Expr} {kws : List Keyword} {t tk : TA} (c : MakN X.prog X.w X.K X.mg X.base k x C n ks gV sp) (hr : Room j X.A) (hk : k + 1 ≤ j) (hg : Gl X x) (ha : PA X (e :: es) t) (hkw : PK X kws tk)
    (hall : (backToKw pos (keywordEach kws X.env)).all (·.1.isSome) = true := by rfl) (hks : (backToKw pos (keywordEach kws X.env)).filterMap (·.1) = ks := by rfl) (hdb : (x == ("__debug__" : Str)) = false := by decide)
    (he : starEach (e :: es) X.env = (false, eval e X.env) :: starEach es X.env := by rfl) (hpl : ((backTo pos (starEach (e :: es) X.env)).any (·.1) || (backToKw pos (keywordEach kws X.env)).any (·.1.isNone)) = false := by rfl) :
    PE X (.Call (.Name x p) (e :: es) kws pos) (tMakeK C n ks.length sp gV C8.E0 t tk) := by
  obtain ⟨f, fd, ps, g, M, F, hm, kb⟩ := c.ex
  exact pe_makeK M F (hr.mono hk) hg hm kb C8.pass0 ha hkw hall hks hdb he hpl
section
variable {P : Program} {w : World} {K : PySem.W.Frag} {mg : Str → Option Value} {base : Heap}
/-- the promise of an __init__ with keyword-only parameters, however it is called -/
structure Ini (P : Program) (w : World) (K : PySem.W.Frag) (mg : Str → Option Value) (base : Heap) (k : Nat) (f : Addr) (q : Str) (ps : List Str) (st : Stmt) (kw : List (Str × V)) (sp : Sp) : Prop where
  ex : ∃ fd, FunD K "__init__" q (defArgs st) (defBody st) (defScope st) [] kw f fd ∧ FnOk P w K mg base C8.CX0 k f fd ps sp
theorem ini_mk {q : Str} {f : Addr} {st : Stmt} {N ps : List Str} {k : Nat} {sp : Sp} {kw : List (Str × V)} (F : ∃ z, FunD K "__init__" q (defArgs st) (defBody st) (defScope st) [] kw f z) (S : FnScope N ps (defScope st))
    (len : ∀ vs H Q E, sp vs H Q E → vs.length = ps.length)
    (hbody : ∀ (f : Addr) (cdv : Value) (A : Around) (outer : List Env) (s : Shared) (H : Hp) (vs : List V) (Q : VK) (E : XK), Room k (A.deeper (envOfC q (defScope st) s.heap.objs.size f cdv)) → sp vs H Q E →
      ∃ t, PSs (cxOf C8.CX0 P w K mg base N q (defScope st) f cdv A outer s H E).nox (defBody st) t ∧ t { nx := fun _ H' => Q .non H', rt := Q } (start N vs) H) : Ini P w K mg base (k + 1) f q ps st kw sp := by
  obtain ⟨z, F⟩ := F
  refine ⟨z, F, F.ok S len fun cdv A outer s H vs Q E hr h => ?_⟩
  obtain ⟨t, h1, h2⟩ := hbody f cdv A outer s H vs Q E hr h
  exact ⟨t, h1.nox, h2⟩
end
end K94
/-! ==, !=, in, not in of data with a Lean type. -/
namespace K94
open PySem PySem.Spec PyProof.Rows L2
/-- a tuple of three -/
structure T3 (α β γ : Type) where
  a : α
  b : β
  c : γ
  deriving DecidableEq
open PySem.W (Datum)
instance {α β γ : Type} [DecidableEq α] [Datum α] [DecidableEq β] [Datum β] [DecidableEq γ] [Datum γ] : Datum (T3 α β γ) where
  toD p := .tuple [Datum.toD p.a, Datum.toD p.b, Datum.toD p.c]
  plain p := by simp only [PyData.plain, PyData.plainAll, Datum.plain, Bool.and_self]
  eqv p q := by
    simp only [PyData.eqv, PyData.eqvAll]
    rw [Datum.eqv, Datum.eqv, Datum.eqv, Bool.and_true, ← Bool.decide_and, ← Bool.decide_and]
    exact decide_eq_decide.mpr ⟨fun e => by cases p; cases q; obtain ⟨e1, e2, e3⟩ := e; cases e1; cases e2; cases e3; rfl, fun e => by rw [e]; exact ⟨rfl, rfl, rfl⟩⟩
  depth := max (Datum.depth α) (max (Datum.depth β) (Datum.depth γ)) + 1
  depth_le p := by
    simp only [PyData.depth, PyData.depthAll]
    have h1 := Datum.depth_le p.a
    have h2 := Datum.depth_le p.b
    have h3 := Datum.depth_le p.c
    omega
instance : Datum (Option Int) where
  toD := fun o => match o with
    | none => .none
    | some i => .int i
  plain o := by cases o <;> rfl
  eqv a b := by
    cases a <;> cases b <;> simp [PyData.eqv]
    exact PySem.W.beq_decide _ _
  depth := 0
  depth_le o := by cases o <;> exact Nat.le_refl _
/-- v is x -/
def Is {α : Type} [DecidableEq α] [Datum α] (K : PySem.W.Frag) (H : Hp) (v : V) (x : α) : Prop := Dp K H v (Datum.toD x)
section
variable {α : Type} [DecidableEq α] [Datum α] {X : Cx}
theorem Is.holds {pins : List (Addr × Obj)} {σ : L2.St} {H : Hp} {s : Shared} (I : Inv X pins σ H s) {v : V} {u : Value} {x : α} (h : Is X.K H v x) (r : RelV v u) : PySem.W.Holds s.heap u x := Dp.reads I _ _ _ h r
def rEqT (α : Type) [DecidableEq α] [Datum α] (K : PySem.W.Frag) : R2 := fun v u H Q => ∃ x y : α, Is K H v x ∧ Is K H u y ∧ Q (.bl (decide (x = y))) H
def rNeT (α : Type) [DecidableEq α] [Datum α] (K : PySem.W.Frag) : R2 := fun v u H Q => ∃ x y : α, Is K H v x ∧ Is K H u y ∧ Q (.bl (decide (x ≠ y))) H
def rInT (α : Type) [DecidableEq α] [Datum α] (K : PySem.W.Frag) : R2 := fun v u H Q => ∃ (x : α) (xs : List α), Is K H v x ∧ Is K H u xs ∧ Q (.bl (decide (x ∈ xs))) H
def rNotInT (α : Type) [DecidableEq α] [Datum α] (K : PySem.W.Frag) : R2 := fun v u H Q => ∃ (x : α) (xs : List α), Is K H v x ∧ Is K H u xs ∧ Q (.bl (decide (x ∉ xs))) H
theorem op_eqT {K : PySem.W.Frag} (e : X.K = K) (hd : Datum.depth α ≤ 60) (hu : X.A.units + 64 < cLine) : OpR X (compareOp .Eq) (rEqT α K) := by
  subst e
  intro pins s σ H x y v u Q I rx ry h
  obtain ⟨a, b, h1, h2, q⟩ := h
  exact PySem.W.eq_datum (h1.holds I rx) (h2.holds I ry) (by omega) ⟨.bl _, H, I, rfl, q⟩
theorem op_neT {K : PySem.W.Frag} (e : X.K = K) (hd : Datum.depth α ≤ 60) (hu : X.A.units + 64 < cLine) : OpR X (compareOp .NotEq) (rNeT α K) := by
  subst e
  intro pins s σ H x y v u Q I rx ry h
  obtain ⟨a, b, h1, h2, q⟩ := h
  exact PySem.W.ne_datum (h1.holds I rx) (h2.holds I ry) (by omega) ⟨.bl _, H, I, rfl, q⟩
theorem op_inT {K : PySem.W.Frag} (e : X.K = K) (hd : Datum.depth α ≤ 60) (hu : X.A.units + 64 < cLine) : OpR X (compareOp .In) (rInT α K) := by
  subst e
  intro pins s σ H x y v u Q I rx ry h
  obtain ⟨a, b, h1, h2, q⟩ := h
  obtain ⟨l, vs, rfl, hl, ha⟩ := PySem.W.list_of_holds (h2.holds I ry)
  exact PySem.W.in_list_datum hl ha (h1.holds I rx) (by omega) ⟨.bl _, H, I, rfl, q⟩
theorem op_notInT {K : PySem.W.Frag} (e : X.K = K) (hd : Datum.depth α ≤ 60) (hu : X.A.units + 64 < cLine) : OpR X (compareOp .NotIn) (rNotInT α K) := by
  subst e
  intro pins s σ H x y v u Q I rx ry h
  obtain ⟨a, b, h1, h2, q⟩ := h
  obtain ⟨l, vs, rfl, hl, ha⟩ := PySem.W.list_of_holds (h2.holds I ry)
  exact PySem.W.notIn_list_datum hl ha (h1.holds I rx) (by omega) ⟨.bl _, H, I, rfl, q⟩
end
section
variable {K : PySem.W.Frag} {H H' : Hp}
theorem is_int (n : Int) : Is K H (.int n) n := .int n
theorem is_str (x : Str) : Is K H (.str x) x := .str x
theorem is_opt (o : Option Int) : Is K H (match o with | none => V.non | some i => .int i) o := by
  cases o with
  | none => exact .non
  | some i => exact .int i
theorem dpAll_map {α : Type} [DecidableEq α] [Datum α] {f : α → V} (h : ∀ x, Is K H (f x) x) : ∀ xs : List α, DpAll K H (xs.map f) (xs.map Datum.toD)
  | [] => .nil
  | x :: xs => .cons (h x) (dpAll_map h xs)
theorem dpAll_pair {α : Type} [DecidableEq α] [Datum α] {At : Addr → α → Prop} (h : ∀ {p x}, At p x → Is K H (.ref p) x) : ∀ {ps : List Addr} {xs : List α}, Paired At ps xs → DpAll K H (ps.map V.ref) (xs.map Datum.toD)
  | _, _, .nil => .nil
  | _, _, .cons r t => .cons (h r) (dpAll_pair h t)
theorem is_ints {a : Addr} {ns : List Int} (h : SqL K H a (ns.map V.int)) : Is K H (.ref a) ns := .lst h (dpAll_map is_int ns)
theorem is_tupI {a : Addr} {ns : List Int} (h : SqT K H a (ns.map V.int)) : Is K H (.ref a) (PySem.W.Tup.mk ns) := .tup h (dpAll_map is_int ns)
theorem is_list {α : Type} [DecidableEq α] [Datum α] {At : Addr → α → Prop} {a : Addr} {ps : List Addr} {xs : List α} (hl : SqL K H a (ps.map V.ref)) (p : Paired At ps xs) (h : ∀ {p x}, At p x → Is K H (.ref p) x) : Is K H (.ref a) xs := .lst hl (dpAll_pair h p)
theorem is_tup {α : Type} [DecidableEq α] [Datum α] {At : Addr → α → Prop} {a : Addr} {ps : List Addr} {xs : List α} (hl : SqT K H a (ps.map V.ref)) (p : Paired At ps xs) (h : ∀ {p x}, At p x → Is K H (.ref p) x) : Is K H (.ref a) (PySem.W.Tup.mk xs) := .tup hl (dpAll_pair h p)
theorem is_pair {α β : Type} [DecidableEq α] [Datum α] [DecidableEq β] [Datum β] {a : Addr} {u v : V} {x : α} {y : β} (h : SqT K H a [u, v]) (hu : Is K H u x) (hv : Is K H v y) : Is K H (.ref a) (x, y) := .tup h (.cons hu (.cons hv .nil))
theorem is_t3 {α β γ : Type} [DecidableEq α] [Datum α] [DecidableEq β] [Datum β] [DecidableEq γ] [Datum γ] {a : Addr} {u v w : V} {x : α} {y : β} {z : γ} (h : SqT K H a [u, v, w]) (hu : Is K H u x) (hv : Is K H v y) (hw : Is K H w z) : Is K H (.ref a) (T3.mk x y z) := .tup h (.cons hu (.cons hv (.cons hw .nil)))
end
end K94
/-! Records and their marks. -/
namespace K94
open PySem PySem.Spec PyProof.Rows L2
/-! ### the data -/
/-- a field's value -/
inductive FV where
  | i (n : Int)
  | s (x : Str)
def FV.v : FV → V
  | .i n => .int n
  | .s x => .str x
structure Rec where
  name : Str
  vec : List Int
  fields : List (Str × FV)
  words : List (Str × Int)
def strPart (x : Str) : List Int := (x.length : Int) :: x.cps.toList.map fun (c : Nat) => (c : Int)
def valPart : FV → List Int
  | .i n => [0, n]
  | .s x => 1 :: strPart x
def fieldsPart (fs : List (Str × FV)) : List Int := fs.flatMap fun q => strPart q.1 ++ valPart q.2
def wordsPart (ws : List (Str × Int)) : List Int := ws.flatMap fun q => strPart q.1 ++ [q.2]
def rowOf (n : Int) (r : Rec) : List Int := n :: (strPart r.name ++ ((r.vec.length : Int) :: (r.vec ++ ((r.fields.length : Int) :: (fieldsPart r.fields ++ ((r.words.length : Int) :: wordsPart r.words))))))
def foldRow (row : List Int) (k : Int) : Int := row.foldl (fun s c => (s * k + c + 1) % 4294967291) 0
def markOf (k : Int × Int) (n : Int) (r : Rec) : List Int := [foldRow (rowOf n r) k.1, foldRow (rowOf n r) k.2]
/-- what stands at a record's address -/
def recF (nm : Str) (vt ft wt : Addr) : List (Str × V) := [("name", .str nm), ("vector", .ref vt), ("fields", .ref ft), ("words", .ref wt)]
theorem recF_name (nm : Str) (vt ft wt : Addr) : (recF nm vt ft wt).lookup ("name" : Str) = some (.str nm) := by kernel_rfl
theorem recF_vector (nm : Str) (vt ft wt : Addr) : (recF nm vt ft wt).lookup ("vector" : Str) = some (.ref vt) := by kernel_rfl
theorem recF_fields (nm : Str) (vt ft wt : Addr) : (recF nm vt ft wt).lookup ("fields" : Str) = some (.ref ft) := by kernel_rfl
theorem recF_words (nm : Str) (vt ft wt : Addr) : (recF nm vt ft wt).lookup ("words" : Str) = some (.ref wt) := by kernel_rfl
def FAt (F : Hp) (a : Addr) (q : Str × FV) : Prop := F a = some (.tup [.str q.1, q.2.v])
def WAt (F : Hp) (a : Addr) (q : Str × Int) : Prop := F a = some (.tup [.str q.1, .int q.2])
structure RecAt (K : PySem.W.Frag) (F : Hp) (a : Addr) (r : Rec) : Prop where
  ex : ∃ (dx vt ft wt : Addr) (fas was : List Addr), F a = some (.ins (He.ga K "Record") dx (recF r.name vt ft wt)) ∧ F vt = some (.tup (r.vec.map V.int)) ∧
    F ft = some (.tup (fas.map V.ref)) ∧ Paired (FAt F) fas r.fields ∧ F wt = some (.tup (was.map V.ref)) ∧ Paired (WAt F) was r.words
theorem RecAt.mono {K : PySem.W.Frag} {F F' : Hp} {a : Addr} {r : Rec} (h : RecAt K F a r) (s : Same F F') : RecAt K F' a r := by
  obtain ⟨dx, vt, ft, wt, fas, was, h1, h2, h3, h4, h5, h6⟩ := h.ex
  exact ⟨dx, vt, ft, wt, fas, was, s _ _ h1, s _ _ h2, s _ _ h3, Paired.mono (fun _ _ e => s _ _ e) h4, s _ _ h5, Paired.mono (fun _ _ e => s _ _ e) h6⟩
/-- a record of few small things -/
structure Small (r : Rec) : Prop where
  name : r.name.length ≤ 20
  vec : r.vec.length ≤ 20
  fields : r.fields.length ≤ 20
  words : r.words.length ≤ 20
  fs : ∀ q ∈ r.fields, q.1.length ≤ 20 ∧ ∀ x, q.2 = .s x → x.length ≤ 20
  ws : ∀ q ∈ r.words, q.1.length ≤ 20
theorem strPart_len (x : Str) : (strPart x).length = x.length + 1 := by
  unfold strPart
  rw [List.length_cons, List.length_map, Array.length_toList]
  rfl
theorem valPart_len {v : FV} (h : ∀ x, v = .s x → x.length ≤ 20) : (valPart v).length ≤ 22 := by
  cases v with
  | i n =>
    show 2 ≤ 22
    omega
  | s x =>
    show (strPart x).length + 1 ≤ 22
    rw [strPart_len]
    have := h x rfl
    omega
section
variable {P : Program} {w : World} {K : PySem.W.Frag} {mg : Str → Option Value} {base : Heap}
/-! ### string_part -/
theorem sc_string_part : FnScope ["text", "sign"] ["text"] (defScope s_string_part) := ⟨rfl, rfl, rfl, by decide +kernel, rfl, by decide +kernel, by decide +kernel⟩
def sp_string_part : Sp := fun vs H Q _ => ∃ x : Str, vs = [.str x] ∧ x.length ≤ 1000 ∧ ∀ H' p, Same H H' → H p = none → H' p = some (.lst ((strPart x).map V.int)) → Q (.ref p) H'
theorem ok_string_part (T : Tx w K mg) : C8.Cal P w K mg base 1 "string_part" sp_string_part [] := by
  refine cal_mk (st := s_string_part) T.d_string_part T.g_string_part sc_string_part (fun _ _ _ _ _ _ us hl => match us, hl with | [_], _ => rfl) (fun vs H Q E h => ?_) (fun f cdv A outer s H vs Q E hr h => ?_)
  · obtain ⟨x, rfl, _⟩ := h
    rfl
  · obtain ⟨x, rfl, hx, k⟩ := h
    refine ⟨_, (pss_one (ps_ret (pe_op op_cat (pe_lst (pa_cons (pe_callB call_len_str (by rfl) T.z_len PySem.boot_len (pa_cons (pv 0) pa_nil)) pa_nil)) (pe_lc (own := [("sign", 1)]) (g := gName 1) (tt := tYes) rfl sc_string_part.nd (pi_str (pv 0)) (blkOk_by (N := ["text", "sign"]) (sc := defScope s_string_part) (by decide +kernel)) (fun _ _ _ _ _ => pg_name (i := 1) sc_string_part.nd rfl (.inl rfl)) (fun _ _ _ _ _ => pts_nil) (fun _ _ _ _ _ => (pe_callB call_ord (by rfl) T.z_ord (by decide +kernel) (pa_cons (pv 1) pa_nil))))))), ?_⟩
    refine ⟨_, rfl, _, rfl, le1000 (by omega), (by show 1 ≤ sizeLine; decide), fun p np => ?_⟩
    refine ⟨_, rfl, x, rfl, fun D nD => ?_⟩
    have npD : p ≠ D := fun z => by
      rw [← z, upd_same] at nD
      cases nD
    refine lc_pure walk_str nD (fun i v => ∃ c, x.cps[i]? = some c ∧ v = .str ⟨#[c]⟩) (fun _ _ => trivial) (fun _ _ _ _ y => y) x.cps.toList (by rw [Array.length_toList]) (by have : x.length = x.cps.size := rfl; omega) (fun c => some (.int (c : Nat)))
      (fun i v c H2 Qn Qy r hz s1 hn hy => ?_) (fun H2 s1 e => ?_)
    · obtain ⟨c', e1, rfl⟩ := r
      have ec : c' = c := by
        rw [Array.getElem?_toList] at hz
        exact Option.some.inj (e1.symm.trans hz)
      subst ec
      refine ⟨rfl, lc_yes ?_⟩
      refine ⟨_, rfl, _, rfl, rfl, ?_⟩
      exact hy _ rfl H2 (Same.refl _)
    · have e2 : x.cps.toList.filterMap (fun c => some (V.int ((c : Nat) : Int))) = (x.cps.toList.map fun (c : Nat) => (c : Int)).map V.int := by
        rw [List.filterMap_eq_map', List.map_map]
        rfl
      rw [e2] at e
      refine ⟨p, D, _, _, rfl, rfl, s1 _ _ upd_same, e, ?_, fun q nq => ?_⟩
      · refine le1000 ?_
        have e3 : (strPart x).length = x.length + 1 := strPart_len x
        have e4 : (strPart x).length = (x.cps.toList.map fun (c : Nat) => (c : Int)).length + 1 := rfl
        rw [List.length_map]
        show 1 + _ ≤ _
        omega
      · exact k _ q (same_app ((same_new np).trans s1) nq) (((same_new np).trans s1).free nq) upd_same
/-! ### value_part -/
theorem sc_value_part : FnScope ["worth"] ["worth"] (defScope s_value_part) := ⟨rfl, rfl, rfl, by decide +kernel, rfl, by decide +kernel, by decide +kernel⟩
def sp_value_part : Sp := fun vs H Q _ => ∃ v : FV, vs = [v.v] ∧ (∀ x, v = .s x → x.length ≤ 1000) ∧ ∀ H' p, Same H H' → H p = none → H' p = some (.lst ((valPart v).map V.int)) → Q (.ref p) H'
theorem ok_value_part (T : Tx w K mg) : C8.Cal P w K mg base 2 "value_part" sp_value_part [] := by
  have c_string_part := ok_string_part (P := P) (base := base) T
  refine cal_mk (st := s_value_part) T.d_value_part T.g_value_part sc_value_part (fun _ _ _ _ _ _ us hl => match us, hl with | [_], _ => rfl) (fun vs H Q E h => ?_) (fun f cdv A outer s H vs Q E hr h => ?_)
  · obtain ⟨x, rfl, _⟩ := h
    rfl
  · obtain ⟨v, rfl, hx, k⟩ := h
    refine ⟨_, (pss_cons (ps_if (pt_val (pe_callB call_isi (by rfl) T.z_isinstance (by decide +kernel) (pa_cons (pv 0) (pa_cons (pe_bltn (v := .ty "bool") (by rfl) T.z_bool (by decide +kernel) rfl) pa_nil))))
        (pss_one (ps_ret (pe_lst (pa_cons pe_int (pa_cons (pe_ifExp (pt_val (pv 0)) pe_int pe_int) pa_nil)))))
        pss_nil)
      (pss_cons (ps_if (pt_val (pe_callB call_isi (by rfl) T.z_isinstance (by decide +kernel) (pa_cons (pv 0) (pa_cons (pe_bltn (v := .ty "str") (by rfl) T.z_str (by decide +kernel) rfl) pa_nil))))
        (pss_one (ps_ret (pe_op op_cat (pe_lst (pa_cons pe_int pa_nil)) (C8.pe_c c_string_part hr (by decide) (by rfl) (pa_cons (pv 0) pa_nil)))))
        pss_nil)
      (pss_one (ps_ret (pe_lst (pa_cons pe_int (pa_cons (pv 0) pa_nil))))))), ?_⟩
    cases v with
    | i n =>
      refine ⟨_, rfl, _, _, _, _, false, rfl, .ty "bool", .base (.int n), kit_ty (by decide +kernel), _, rfl, iteF ?_⟩
      refine ⟨_, rfl, _, _, _, _, false, rfl, .ty "str", .base (.int n), kit_ty (by decide +kernel), _, rfl, iteF ?_⟩
      refine ⟨_, rfl, (by show 2 ≤ sizeLine; decide), fun p np => ?_⟩
      exact k _ p (same_new np) np upd_same
    | s x =>
      refine ⟨_, rfl, _, _, _, _, false, rfl, .ty "bool", .base (.str x), kit_ty (by decide +kernel), _, rfl, iteF ?_⟩
      refine ⟨_, rfl, _, _, _, _, true, rfl, .ty "str", .base (.str x), kit_ty (by decide +kernel), _, rfl, iteT ?_⟩
      refine ⟨(by show 1 ≤ sizeLine; decide), fun p np => ?_⟩
      refine ⟨_, rfl, x, rfl, hx x rfl, fun H1 q s1 nq e => ?_⟩
      refine ⟨p, q, _, _, rfl, rfl, s1 _ _ upd_same, e, ?_, fun r nr => ?_⟩
      · refine le1000 ?_
        have e3 := strPart_len x
        have := hx x rfl
        rw [List.length_map]
        show 1 + _ ≤ _
        omega
      · exact k _ r (same_app ((same_new np).trans s1) nr) (((same_new np).trans s1).free nr) upd_same
/-! ### fold -/
theorem sc_fold : FnScope ["row", "factor", "state", "number"] ["row", "factor"] (defScope s_fold) := ⟨rfl, rfl, rfl, by decide +kernel, rfl, by decide +kernel, by decide +kernel⟩
def sp_fold (K : PySem.W.Frag) : Sp := fun vs H Q _ => ∃ (a : Addr) (ns : List Int) (k : Int), vs = [.ref a, .int k] ∧ SqL K H a (ns.map V.int) ∧ ∀ H', Same H H' → Q (.int (foldRow ns k)) H'
theorem foldl_mod (k : Int) : ∀ (l : List Int) (s : Int), 0 ≤ s ∧ s < 4294967291 → 0 ≤ l.foldl (fun s c => (s * k + c + 1) % 4294967291) s ∧ l.foldl (fun s c => (s * k + c + 1) % 4294967291) s < 4294967291
  | [], s, h => h
  | c :: l, s, _ => foldl_mod k l _ ⟨Int.emod_nonneg _ (by decide), Int.emod_lt_of_pos _ (by decide)⟩
theorem ok_fold (T : Tx w K mg) : C8.Cal P w K mg base 1 "fold" (sp_fold K) [] := by
  obtain ⟨tP, hP⟩ := T.i_PRIME
  refine cal_mk (st := s_fold) T.d_fold T.g_fold sc_fold (fun _ _ _ _ _ _ us hl => match us, hl with | [_, _], _ => rfl) (fun vs H Q E h => ?_) (fun f cdv A outer s H vs Q E hr h => ?_)
  · obtain ⟨a, ns, k, rfl, _⟩ := h
    rfl
  · obtain ⟨a, ns, k, rfl, hS, q⟩ := h
    refine ⟨_, (pss_cons (ps_set (i := 2) sc_fold.nd rfl (.inl rfl) pe_int)
      (pss_cons (ps_for PassesOwn.never rfl (pi_list (pv 0)) (pg_name (i := 3) sc_fold.nd rfl (.inl rfl))
        (pss_one (ps_set (i := 2) sc_fold.nd rfl (.inl rfl) (pe_op op_mod (pe_op op_add (pe_op op_add (pe_op op_mul (pv 2) (pv 1)) (pv 3)) pe_int) (pe_glob (v := .int 4294967291) (by rfl) hP ⟨_, rfl⟩)))))
      (pss_one (ps_ret (pv 2))))), ?_⟩
    refine ⟨_, rfl, a, rfl, ⟨_, hS⟩, for_list (K := K) (a := a) (xs := ns.map V.int) (fun i σ H2 => H2 = H ∧ ∃ y, σ = [some (.ref a), some (.int k), some (.int ((ns.take i).foldl (fun s c => (s * k + c + 1) % 4294967291) 0)), y])
      ⟨rfl, none, rfl⟩ (fun i σ H2 _ p => by rw [p.1]; exact hS) ?_ ?_⟩
    · rintro i v σ H2 hi ⟨rfl, y, rfl⟩
      obtain ⟨c, hc, rfl⟩ := map_at hi
      have hb := foldl_mod k (ns.take i) 0 (by decide)
      refine ⟨_, rfl, _, rfl, _, _, rfl, rfl, .inl ⟨by omega, by omega⟩, _, rfl, _, _, rfl, rfl, _, _, rfl, rfl, _, _, rfl, rfl, (by show (0 : Int) < 4294967291; decide), ?_⟩
      refine ⟨rfl, some (.int c), ?_⟩
      rw [take_succ_of hc, List.foldl_append]
      rfl
    · rintro σ H2 ⟨rfl, y, rfl⟩
      refine ⟨_, rfl, ?_⟩
      have e : (ns.take (ns.map V.int).length).foldl (fun s c => (s * k + c + 1) % 4294967291) 0 = foldRow ns k := by
        rw [List.length_map, List.take_length]
        rfl
      rw [e]
      exact q _ (Same.refl _)
/-! ### row_of -/
theorem sc_row_of : FnScope ["number", "record", "row", "name", "worth", "word", "count"] ["number", "record"] (defScope s_row_of) := ⟨rfl, rfl, rfl, by decide +kernel, rfl, by decide +kernel, by decide +kernel⟩
def sp_row_of (K : PySem.W.Frag) : Sp := fun vs H Q _ => ∃ (a : Addr) (n : Int) (r : Rec), vs = [.int n, .ref a] ∧ RecAt K H a r ∧ Small r ∧ ∀ H' p, Same H H' → H p = none → H' p = some (.lst ((rowOf n r).map V.int)) → Q (.ref p) H'
theorem fieldsPart_len : ∀ {fs : List (Str × FV)}, (∀ q ∈ fs, q.1.length ≤ 20 ∧ ∀ x, q.2 = .s x → x.length ≤ 20) → (fieldsPart fs).length ≤ 43 * fs.length
  | [], _ => Nat.zero_le _
  | q :: fs, h => by
    have h1 := h q (List.mem_cons_self ..)
    have h2 := fieldsPart_len (fs := fs) fun x hx => h x (List.mem_cons_of_mem _ hx)
    have h3 := valPart_len h1.2
    have e : fieldsPart (q :: fs) = (strPart q.1 ++ valPart q.2) ++ fieldsPart fs := rfl
    rw [e, List.length_append, List.length_append, strPart_len, List.length_cons]
    omega
theorem wordsPart_len : ∀ {ws : List (Str × Int)}, (∀ q ∈ ws, q.1.length ≤ 20) → (wordsPart ws).length ≤ 22 * ws.length
  | [], _ => Nat.zero_le _
  | q :: ws, h => by
    have h1 := h q (List.mem_cons_self ..)
    have h2 := wordsPart_len (ws := ws) fun x hx => h x (List.mem_cons_of_mem _ hx)
    have e : wordsPart (q :: ws) = (strPart q.1 ++ [q.2]) ++ wordsPart ws := rfl
    rw [e, List.length_append, List.length_append, strPart_len]
    simp only [List.length_cons, List.length_nil]
    omega
theorem fieldsPart_snoc (fs : List (Str × FV)) (q : Str × FV) : fieldsPart (fs ++ [q]) = fieldsPart fs ++ (strPart q.1 ++ valPart q.2) := by
  unfold fieldsPart
  rw [List.flatMap_append, List.flatMap_singleton]
theorem wordsPart_snoc (fs : List (Str × Int)) (q : Str × Int) : wordsPart (fs ++ [q]) = wordsPart fs ++ (strPart q.1 ++ [q.2]) := by
  unfold wordsPart
  rw [List.flatMap_append, List.flatMap_singleton]
theorem ok_row_of (T : Tx w K mg) : C8.Cal P w K mg base 3 "row_of" (sp_row_of K) [] := by
  have c_string_part := ok_string_part (P := P) (base := base) T
  have c_value_part := ok_value_part (P := P) (base := base) T
  refine cal_mk (st := s_row_of) T.d_row_of T.g_row_of sc_row_of (fun _ _ _ _ _ _ us hl => match us, hl with | [_, _], _ => rfl) (fun vs H Q E h => ?_) (fun f cdv A outer s H vs Q E hr h => ?_)
  · obtain ⟨a, n, r, rfl, _⟩ := h
    rfl
  · obtain ⟨a, n, r, rfl, hR, hs, k⟩ := h
    obtain ⟨dx, vt, ft, wt, fas, was, h1, h2, h3, h4, h5, h6⟩ := hR.ex
    have lf : fas.length = r.fields.length := h4.length
    have lw : was.length = r.words.length := h6.length
    have s1 := hs.name
    have s2 := hs.vec
    have s3 := hs.fields
    have s4 := hs.words
    have ln := strPart_len r.name
    refine ⟨_, (pss_cons (ps_set (i := 2) sc_row_of.nd rfl (.inl rfl) (pe_op op_cat (pe_op op_cat (pe_op op_cat (pe_op op_cat (pe_lst (pa_cons (pv 0) pa_nil)) (C8.pe_c c_string_part hr (by decide) (by rfl) (pa_cons (pe_fldK (K := K) rfl (pv 1) rfl) pa_nil))) (pe_lst (pa_cons (pe_callB call_len_seq (by rfl) T.z_len PySem.boot_len (pa_cons (pe_fldK (K := K) rfl (pv 1) rfl) pa_nil)) pa_nil))) (pe_callTy call_list_of (by rfl) T.z_list (by decide +kernel) (pa_cons (pe_fldK (K := K) rfl (pv 1) rfl) pa_nil))) (pe_lst (pa_cons (pe_callB call_len_seq (by rfl) T.z_len PySem.boot_len (pa_cons (pe_fldK (K := K) rfl (pv 1) rfl) pa_nil)) pa_nil))))
      (pss_cons (ps_for PassesOwn.never rfl (pi_tup (pe_fldK (K := K) rfl (pv 1) rfl)) (pg_tup rfl (pgs_cons (pg_name (i := 3) sc_row_of.nd rfl (.inl rfl)) (pgs_cons (pg_name (i := 4) sc_row_of.nd rfl (.inl rfl)) pgs_nil)))
        (pss_one (ps_set (i := 2) sc_row_of.nd rfl (.inl rfl) (pe_op op_cat (pe_op op_cat (pv 2) (C8.pe_c c_string_part hr (by decide) (by rfl) (pa_cons (pv 3) pa_nil))) (C8.pe_c c_value_part hr (by decide) (by rfl) (pa_cons (pv 4) pa_nil))))))
      (pss_cons (ps_set (i := 2) sc_row_of.nd rfl (.inl rfl) (pe_op op_cat (pv 2) (pe_lst (pa_cons (pe_callB call_len_seq (by rfl) T.z_len PySem.boot_len (pa_cons (pe_fldK (K := K) rfl (pv 1) rfl) pa_nil)) pa_nil))))
      (pss_cons (ps_for PassesOwn.never rfl (pi_tup (pe_fldK (K := K) rfl (pv 1) rfl)) (pg_tup rfl (pgs_cons (pg_name (i := 5) sc_row_of.nd rfl (.inl rfl)) (pgs_cons (pg_name (i := 6) sc_row_of.nd rfl (.inl rfl)) pgs_nil)))
        (pss_one (ps_set (i := 2) sc_row_of.nd rfl (.inl rfl) (pe_op op_cat (pe_op op_cat (pv 2) (C8.pe_c c_string_part hr (by decide) (by rfl) (pa_cons (pv 5) pa_nil))) (pe_lst (pa_cons (pv 6) pa_nil))))))
      (pss_one (ps_ret (pv 2))))))), ?_⟩
    refine ⟨_, rfl, (by show 1 ≤ sizeLine; decide), fun p1 n1 => ?_⟩
    have g1 : Same H _ := same_new (o := .lst [.int n]) n1
    refine ⟨_, rfl, a, _, dx, _, _, rfl, g1 _ _ h1, T.c_Record, T.n_Record_name, recF_name _ _ _ _, r.name, rfl, by omega, fun H2 p2 t2 n2 e2 => ?_⟩
    have g2 := g1.trans t2
    refine ⟨p1, p2, _, _, rfl, rfl, t2 _ _ upd_same, e2, le1000 (by rw [List.length_map]; show 1 + _ ≤ _; omega), fun p3 n3 => ?_⟩
    have g3 := same_app g2 (q := p3) (o := .lst ([V.int n] ++ (strPart r.name).map V.int)) n3
    refine ⟨_, rfl, a, _, dx, _, _, rfl, g3 _ _ h1, T.c_Record, T.n_Record_vector, recF_vector _ _ _ _, vt, _, rfl, .inr (.inl (.inl (g3 _ _ h2))), (by show 1 ≤ sizeLine; decide), fun p4 n4 => ?_⟩
    have g4 := same_app g3 (q := p4) (o := .lst [.int ((r.vec.map V.int).length : Nat)]) n4
    refine ⟨p3, p4, _, _, rfl, rfl, same_new n4 _ _ upd_same, upd_same, le1000 (by simp; omega), fun p5 n5 => ?_⟩
    have g5 := same_app g4 (q := p5) (o := .lst (([V.int n] ++ (strPart r.name).map V.int) ++ [.int ((r.vec.map V.int).length : Nat)])) n5
    refine ⟨_, rfl, a, _, dx, _, _, rfl, g5 _ _ h1, T.c_Record, T.n_Record_vector, recF_vector _ _ _ _, vt, _, rfl, .inr (.inl (.inl (g5 _ _ h2))), fun p6 n6 => ?_⟩
    have g6 := same_app g5 (q := p6) (o := .lst (r.vec.map V.int)) n6
    refine ⟨p5, p6, _, _, rfl, rfl, same_new n6 _ _ upd_same, upd_same, le1000 (by simp; omega), fun p7 n7 => ?_⟩
    have g7 := same_app g6 (q := p7) (o := .lst ((([V.int n] ++ (strPart r.name).map V.int) ++ [.int ((r.vec.map V.int).length : Nat)]) ++ r.vec.map V.int)) n7
    refine ⟨_, rfl, a, _, dx, _, _, rfl, g7 _ _ h1, T.c_Record, T.n_Record_fields, recF_fields _ _ _ _, ft, _, rfl, .inr (.inl (.inl (g7 _ _ h3))), (by show 1 ≤ sizeLine; decide), fun p8 n8 => ?_⟩
    have g8 := same_app g7 (q := p8) (o := .lst [.int ((fas.map V.ref).length : Nat)]) n8
    refine ⟨p7, p8, _, _, rfl, rfl, same_new n8 _ _ upd_same, upd_same, le1000 (by simp; omega), fun p9 n9 => ?_⟩
    have g9 := same_app g8 (q := p9) (o := .lst (((([V.int n] ++ (strPart r.name).map V.int) ++ [.int ((r.vec.map V.int).length : Nat)]) ++ r.vec.map V.int) ++ [.int ((fas.map V.ref).length : Nat)])) n9
    have ew : ((([V.int n] ++ (strPart r.name).map V.int) ++ [.int ((r.vec.map V.int).length : Nat)]) ++ r.vec.map V.int) ++ [.int ((fas.map V.ref).length : Nat)] = (n :: (strPart r.name ++ ((r.vec.length : Int) :: (r.vec ++ [(r.fields.length : Int)])))).map V.int := by
      simp [lf]
    rw [ew]
    rw [ew] at g9
    have lenA : (n :: (strPart r.name ++ ((r.vec.length : Int) :: (r.vec ++ [(r.fields.length : Int)])))).length ≤ 100 := by
      simp
      omega
    generalize hA : n :: (strPart r.name ++ ((r.vec.length : Int) :: (r.vec ++ [(r.fields.length : Int)]))) = ra at *
    refine ⟨_, rfl, a, _, dx, _, _, rfl, g9 _ _ h1, T.c_Record, T.n_Record_fields, recF_fields _ _ _ _, ft, rfl, ⟨_, .inl (.inl (g9 _ _ h3))⟩,
      for_tup (K := K) (a := ft) (xs := fas.map V.ref) (fun i σ H2 => Same H H2 ∧ ∃ p y3 y4 y5 y6, H p = none ∧ H2 p = some (.lst ((ra ++ fieldsPart (r.fields.take i)).map V.int)) ∧ σ = [some (.int n), some (.ref a), some (.ref p), y3, y4, y5, y6])
      ⟨g9, p9, none, none, none, none, g8.free n9, by rw [upd_same]; simp [fieldsPart], rfl⟩ (fun i σ H2 _ p => .inl (.inl (p.1 _ _ h3))) ?_ ?_⟩
    · rintro i v σ H2 hi ⟨g, p, y3, y4, y5, y6, np, ep, rfl⟩
      obtain ⟨fa, hfa, rfl⟩ := map_at hi
      obtain ⟨q, hq, rq⟩ := paired_at h4 hfa
      have hm := hs.fs q (List.mem_of_getElem? hq)
      have lp := fieldsPart_len (fs := r.fields.take i) fun x hx => hs.fs x (List.mem_of_mem_take hx)
      have lt : (r.fields.take i).length ≤ r.fields.length := by rw [List.length_take]; exact Nat.min_le_right _ _
      refine ⟨fa, _, rfl, .inl (.inl (g _ _ rq)), rfl, _, _, rfl, _, _, rfl, rfl, ?_⟩
      refine ⟨_, rfl, _, rfl, q.1, rfl, by omega, fun H3 a1 t1 m1 e1 => ?_⟩
      have l1 := strPart_len q.1
      refine ⟨p, a1, _, _, rfl, rfl, t1 _ _ ep, e1, le1000 (by simp; omega), fun a2 m2 => ?_⟩
      have k2 := same_app t1 (q := a2) (o := .lst ((ra ++ fieldsPart (r.fields.take i)).map V.int ++ (strPart q.1).map V.int)) m2
      refine ⟨_, rfl, q.2, rfl, fun x hx => by have := hm.2 x hx; omega, fun H4 a3 t3 m3 e3 => ?_⟩
      have l3 := valPart_len hm.2
      refine ⟨a2, a3, _, _, rfl, rfl, t3 _ _ upd_same, e3, le1000 (by simp; omega), fun a4 m4 => ?_⟩
      have k4 := same_app (k2.trans t3) (q := a4) (o := .lst (((ra ++ fieldsPart (r.fields.take i)).map V.int ++ (strPart q.1).map V.int) ++ (valPart q.2).map V.int)) m4
      refine ⟨g.trans k4, a4, _, _, _, _, ((g.trans k2).trans t3).free m4, ?_, rfl⟩
      rw [upd_same, take_succ_of hq, fieldsPart_snoc]
      simp
    · rintro σ H2 ⟨g, p, y3, y4, y5, y6, np, ep, rfl⟩
      rw [List.length_map, List.take_of_length_le (by omega)] at ep
      have lp := fieldsPart_len hs.fs
      refine ⟨_, rfl, _, rfl, a, _, dx, _, _, rfl, g _ _ h1, T.c_Record, T.n_Record_words, recF_words _ _ _ _, wt, _, rfl, .inr (.inl (.inl (g _ _ h5))), (by show 1 ≤ sizeLine; decide), fun b1 m1 => ?_⟩
      have k1 := same_new (o := .lst [.int ((was.map V.ref).length : Nat)]) m1
      refine ⟨p, b1, _, _, rfl, rfl, k1 _ _ ep, upd_same, le1000 (by simp; omega), fun b2 m2 => ?_⟩
      have k2 := same_app k1 (q := b2) (o := .lst ((ra ++ fieldsPart r.fields).map V.int ++ [.int ((was.map V.ref).length : Nat)])) m2
      have ew2 : (ra ++ fieldsPart r.fields).map V.int ++ [.int ((was.map V.ref).length : Nat)] = (ra ++ (fieldsPart r.fields ++ [(r.words.length : Int)])).map V.int := by simp [lw]
      rw [ew2]
      rw [ew2] at k2
      have lenB : (ra ++ (fieldsPart r.fields ++ [(r.words.length : Int)])).length ≤ 1100 := by
        simp
        omega
      generalize hB : ra ++ (fieldsPart r.fields ++ [(r.words.length : Int)]) = rb at *
      have g' := g.trans k2
      refine ⟨_, rfl, a, _, dx, _, _, rfl, g' _ _ h1, T.c_Record, T.n_Record_words, recF_words _ _ _ _, wt, rfl, ⟨_, .inl (.inl (g' _ _ h5))⟩,
        for_tup (K := K) (a := wt) (xs := was.map V.ref) (fun i σ H2 => Same H H2 ∧ ∃ p y3 y4 y5 y6, H p = none ∧ H2 p = some (.lst ((rb ++ wordsPart (r.words.take i)).map V.int)) ∧ σ = [some (.int n), some (.ref a), some (.ref p), y3, y4, y5, y6])
        ⟨g', b2, _, _, _, _, (g.trans k1).free m2, by rw [upd_same]; simp [wordsPart], rfl⟩ (fun i σ H2 _ p => .inl (.inl (p.1 _ _ h5))) ?_ ?_⟩
      · rintro i v σ H3 hi ⟨g, p, y3, y4, y5, y6, np, ep, rfl⟩
        obtain ⟨fa, hfa, rfl⟩ := map_at hi
        obtain ⟨q, hq, rq⟩ := paired_at h6 hfa
        have hm := hs.ws q (List.mem_of_getElem? hq)
        have lp := wordsPart_len (ws := r.words.take i) fun x hx => hs.ws x (List.mem_of_mem_take hx)
        have lt : (r.words.take i).length ≤ r.words.length := by rw [List.length_take]; exact Nat.min_le_right _ _
        refine ⟨fa, _, rfl, .inl (.inl (g _ _ rq)), rfl, _, _, rfl, _, _, rfl, rfl, ?_⟩
        refine ⟨_, rfl, _, rfl, q.1, rfl, by omega, fun H3 a1 t1 m1 e1 => ?_⟩
        have l1 := strPart_len q.1
        refine ⟨p, a1, _, _, rfl, rfl, t1 _ _ ep, e1, le1000 (by simp; omega), fun a2 m2 => ?_⟩
        have k2 := same_app t1 (q := a2) (o := .lst ((rb ++ wordsPart (r.words.take i)).map V.int ++ (strPart q.1).map V.int)) m2
        refine ⟨_, rfl, (by show 1 ≤ sizeLine; decide), fun a3 m3 => ?_⟩
        have k3 := same_app k2 (q := a3) (o := .lst [.int q.2]) m3
        refine ⟨a2, a3, _, _, rfl, rfl, same_new m3 _ _ upd_same, upd_same, le1000 (by simp; omega), fun a4 m4 => ?_⟩
        have k4 := same_app k3 (q := a4) (o := .lst (((rb ++ wordsPart (r.words.take i)).map V.int ++ (strPart q.1).map V.int) ++ [.int q.2])) m4
        refine ⟨g.trans k4, a4, _, _, _, _, (g.trans k3).free m4, ?_, rfl⟩
        rw [upd_same, take_succ_of hq, wordsPart_snoc]
        simp
      · rintro σ H3 ⟨g, p, y3, y4, y5, y6, np, ep, rfl⟩
        refine ⟨_, rfl, ?_⟩
        rw [List.length_map, List.take_of_length_le (by omega)] at ep
        refine k _ p g np ?_
        rw [ep, ← hB, ← hA]
        simp [rowOf]
/-! ### mark_of -/
theorem sc_mark_of : FnScope ["key", "number", "record", "row"] ["key", "number", "record"] (defScope s_mark_of) := ⟨rfl, rfl, rfl, by decide +kernel, rfl, by decide +kernel, by decide +kernel⟩
def sp_mark_of (K : PySem.W.Frag) : Sp := fun vs H Q _ => ∃ (kt a : Addr) (kk : Int × Int) (n : Int) (r : Rec), vs = [.ref kt, .int n, .ref a] ∧ SqT K H kt [.int kk.1, .int kk.2] ∧ RecAt K H a r ∧ Small r ∧
  ∀ H' p, Same H H' → H' p = none → Q (.ref p) (upd H' p (.tup ((markOf kk n r).map V.int)))
theorem ok_mark_of (T : Tx w K mg) : C8.Cal P w K mg base 4 "mark_of" (sp_mark_of K) [] := by
  have c_row_of := ok_row_of (P := P) (base := base) T
  have c_fold := ok_fold (P := P) (base := base) T
  refine cal_mk (st := s_mark_of) T.d_mark_of T.g_mark_of sc_mark_of (fun _ _ _ _ _ _ us hl => match us, hl with | [_, _, _], _ => rfl) (fun vs H Q E h => ?_) (fun f cdv A outer s H vs Q E hr h => ?_)
  · obtain ⟨kt, a, kk, n, r, rfl, _⟩ := h
    rfl
  · obtain ⟨kt, a, kk, n, r, rfl, hk, hR, hs, k⟩ := h
    refine ⟨_, (pss_cons (ps_set (i := 3) sc_mark_of.nd rfl (.inl rfl) (C8.pe_c c_row_of hr (by decide) (by rfl) (pa_cons (pv 1) (pa_cons (pv 2) pa_nil))))
      (pss_one (ps_ret (pe_tup (pa_cons (C8.pe_c c_fold hr (by decide) (by rfl) (pa_cons (pv 3) (pa_cons (pe_ix (ix_tupK (K := K) rfl) (pv 0) pe_int (fun _ _ => rfl)) pa_nil))) (pa_cons (C8.pe_c c_fold hr (by decide) (by rfl) (pa_cons (pv 3) (pa_cons (pe_ix (ix_tupK (K := K) rfl) (pv 0) pe_int (fun _ _ => rfl)) pa_nil))) pa_nil)))))), ?_⟩
    refine ⟨_, rfl, _, rfl, a, n, r, rfl, hR, hs, fun H1 p s1 np ep => ?_⟩
    refine ⟨_, rfl, _, rfl, kt, _, 0, _, rfl, rfl, sqT_same s1 hk, atI_nat (j := 0) rfl, p, rowOf n r, kk.1, rfl, .inl (.inl ep), fun H2 s2 => ?_⟩
    refine ⟨_, rfl, _, rfl, kt, _, 1, _, rfl, rfl, sqT_same (s1.trans s2) hk, atI_nat (j := 1) rfl, p, rowOf n r, kk.2, rfl, .inl (.inl (s2 _ _ ep)), fun H3 s3 => ?_⟩
    refine ⟨(by show 2 ≤ sizeLine; decide), fun q nq => ?_⟩
    exact k H3 q ((s1.trans s2).trans s3) nq
/-! ### check_key -/
theorem sc_check_key : FnScope ["key", "number"] ["key"] (defScope s_check_key) := ⟨rfl, rfl, rfl, by decide +kernel, rfl, by decide +kernel, by decide +kernel⟩
def sp_check_key (K : PySem.W.Frag) : Sp := fun vs H Q _ => ∃ (kt : Addr) (kk : Int × Int), vs = [.ref kt] ∧ SqT K H kt [.int kk.1, .int kk.2] ∧ (0 ≤ kk.1 ∧ kk.1 < 4294967291) ∧ (0 ≤ kk.2 ∧ kk.2 < 4294967291) ∧ Q .non H
theorem ok_check_key (T : Tx w K mg) : C8.Cal P w K mg base 1 "check_key" (sp_check_key K) [] := by
  obtain ⟨tP, hP⟩ := T.i_PRIME
  refine cal_mk (st := s_check_key) T.d_check_key T.g_check_key sc_check_key (fun _ _ _ _ _ _ us hl => match us, hl with | [_], _ => rfl) (fun vs H Q E h => ?_) (fun f cdv A outer s H vs Q E hr h => ?_)
  · obtain ⟨kt, kk, rfl, _⟩ := h
    rfl
  · obtain ⟨kt, kk, rfl, hk, b1, b2, k⟩ := h
    refine ⟨_, (pss_one (ps_for PassesOwn.never rfl (pi_tup (pv 0)) (pg_name (i := 1) sc_check_key.nd rfl (.inl rfl))
        (pss_one (ps_if (PW.pt (pw_or (pt_cmpR op_lt (pv 1) pe_int (nomark _)) (pw_or1 (pt_cmpR op_ge (pv 1) (pe_glob (v := .int 4294967291) (by rfl) hP ⟨_, rfl⟩) (nomark _)))))
          (pss_one (ps_never))
          pss_nil)))), ?_⟩
    refine ⟨_, rfl, kt, rfl, ⟨_, hk⟩, for_tup (K := K) (a := kt) (xs := [V.int kk.1, V.int kk.2]) (fun i σ H2 => H2 = H ∧ ∃ y, σ = [some (.ref kt), y]) ⟨rfl, none, rfl⟩ (fun i σ H2 _ p => by rw [p.1]; exact hk) ?_ ?_⟩
    · rintro i v σ H2 hi ⟨rfl, y, rfl⟩
      obtain ⟨z, rfl, hz⟩ : ∃ z : Int, v = .int z ∧ 0 ≤ z ∧ z < 4294967291 := by
        match i, hi with
        | 0, hi => exact ⟨kk.1, (Option.some.inj hi).symm, b1⟩
        | 1, hi => exact ⟨kk.2, (Option.some.inj hi).symm, b2⟩
        | i + 2, hi => simp at hi
      refine ⟨_, rfl, _, _, rfl, rfl, _, rfl, ?_⟩
      rw [decide_eq_false (show ¬ z < 0 by omega)]
      refine iteF ⟨_, rfl, _, _, rfl, rfl, _, rfl, ?_⟩
      rw [decide_eq_false (show ¬ 4294967291 ≤ z by omega)]
      refine iteF ?_
      exact ⟨rfl, _, rfl⟩
    · rintro σ H2 ⟨rfl, y, rfl⟩
      exact k
end
end K94
/-! The schema, and how it looks at a record. -/
namespace K94
open PySem PySem.Spec PyProof.Rows L2
/-! ### the data -/
structure SchD where
  size : Int
  width : Str
  meas : Str
structure SchD.Ok (d : SchD) : Prop where
  size : 1 ≤ d.size ∧ d.size ≤ 3
  kind : (d.width = "bit" ∧ d.meas = "bits") ∨ (d.width = "small" ∧ (d.meas = "square" ∨ d.meas = "dot"))
def schF (d : SchD) (ft : Addr) : List (Str × V) := [("size", .int d.size), ("width", .str d.width), ("measure", .str d.meas), ("fields", .ref ft)]
theorem schF_size (d : SchD) (ft : Addr) : (schF d ft).lookup ("size" : Str) = some (.int d.size) := by kernel_rfl
theorem schF_width (d : SchD) (ft : Addr) : (schF d ft).lookup ("width" : Str) = some (.str d.width) := by kernel_rfl
theorem schF_fields (d : SchD) (ft : Addr) : (schF d ft).lookup ("fields" : Str) = some (.ref ft) := by kernel_rfl
theorem schF_no (d : SchD) (ft : Addr) : (schF d ft).lookup ("has_vector" : Str) = none ∧ (schF d ft).lookup ("has_fields" : Str) = none ∧ (schF d ft).lookup ("check" : Str) = none := by
  refine ⟨?_, ?_, ?_⟩ <;> kernel_rfl
structure SchAt (K : PySem.W.Frag) (F : Hp) (a : Addr) (d : SchD) : Prop where
  ex : ∃ (dx ft t1 t2 : Addr), F a = some (.ins (He.ga K "Schema") dx (schF d ft)) ∧ F ft = some (.tup [.ref t1, .ref t2]) ∧ F t1 = some (.tup [.str "k", .str "integer"]) ∧ F t2 = some (.tup [.str "t", .str "text"])
theorem SchAt.mono {K : PySem.W.Frag} {F F' : Hp} {a : Addr} {d : SchD} (h : SchAt K F a d) (s : Same F F') : SchAt K F' a d := by
  obtain ⟨dx, ft, t1, t2, h1, h2, h3, h4⟩ := h.ex
  exact ⟨dx, ft, t1, t2, s _ _ h1, s _ _ h2, s _ _ h3, s _ _ h4⟩
def SchD.lo (d : SchD) : Int := if d.width = "bit" then 0 else -128
def SchD.hi (d : SchD) : Int := if d.width = "bit" then 1 else 127
/-- the words of a record: in order, with counts -/
def wordsOk : Str → List (Str × Int) → Prop
  | _, [] => True
  | b, (x, c) :: r => b.cps.toList < x.cps.toList ∧ 1 ≤ c ∧ wordsOk x r
/-- the fields of a record: some of k, t in this order -/
inductive FieldsOk : List (Str × FV) → Prop where
  | nil : FieldsOk []
  | k (n : Int) : FieldsOk [("k", .i n)]
  | t (x : Str) : FieldsOk [("t", .s x)]
  | kt (n : Int) (x : Str) : FieldsOk [("k", .i n), ("t", .s x)]
structure RecOk (d : SchD) (r : Rec) : Prop where
  name : r.name ≠ ""
  len : (r.vec.length : Int) = d.size
  vec : ∀ n ∈ r.vec, d.lo ≤ n ∧ n ≤ d.hi
  fields : FieldsOk r.fields
  words : wordsOk "" r.words
section
variable {P : Program} {w : World} {K : PySem.W.Frag} {mg : Str → Option Value} {base : Heap}
/-! ### names of fields -/
theorem sc_is_letter : FnScope ["sign"] ["sign"] (defScope s_is_letter) := ⟨rfl, rfl, rfl, by decide +kernel, rfl, by decide +kernel, by decide +kernel⟩
def sp_is_letter : Sp := fun vs H Q _ => (vs = [.str "k"] ∨ vs = [.str "t"]) ∧ Q (.bl true) H
theorem ok_is_letter (T : Tx w K mg) : C8.Cal P w K mg base 1 "is_letter" sp_is_letter [] := by
  refine cal_mk (st := s_is_letter) T.d_is_letter T.g_is_letter sc_is_letter (fun _ _ _ _ _ _ us hl => match us, hl with | [_], _ => rfl) (fun vs H Q E h => ?_) (fun f cdv A outer s H vs Q E hr h => ?_)
  · rcases h.1 with rfl | rfl <;> rfl
  · obtain ⟨h, k⟩ := h
    refine ⟨_, (pss_one (ps_ret (pe_or (pe_chain op_le_str op_le_str pe_str (pv 0) pe_str) (pe_or (pe_chain op_le_str op_le_str pe_str (pv 0) pe_str) (pe_one (pe_cmpR op_eq (pv 0) pe_str (nomark _))))))), ?_⟩
    rcases h with rfl | rfl
    · refine ⟨_, rfl, _, _, rfl, rfl, _, rfl, ?_⟩
      rw [show (decide (("k" : Str).cps.toList < ("a" : Str).cps.toList)) = false by decide +kernel]
      refine iteT ⟨_, _, rfl, rfl, ?_⟩
      rw [show (decide (("z" : Str).cps.toList < ("k" : Str).cps.toList)) = false by decide +kernel]
      exact ⟨_, rfl, iteT k⟩
    · refine ⟨_, rfl, _, _, rfl, rfl, _, rfl, ?_⟩
      rw [show (decide (("t" : Str).cps.toList < ("a" : Str).cps.toList)) = false by decide +kernel]
      refine iteT ⟨_, _, rfl, rfl, ?_⟩
      rw [show (decide (("z" : Str).cps.toList < ("t" : Str).cps.toList)) = false by decide +kernel]
      exact ⟨_, rfl, iteT k⟩
theorem sc_is_field_name : FnScope ["name", "sign"] ["name"] (defScope s_is_field_name) := ⟨rfl, rfl, rfl, by decide +kernel, rfl, by decide +kernel, by decide +kernel⟩
def sp_is_field_name : Sp := fun vs H Q _ => (vs = [.str "k"] ∨ vs = [.str "t"]) ∧ Q (.bl true) H
theorem ok_is_field_name (T : Tx w K mg) : C8.Cal P w K mg base 2 "is_field_name" sp_is_field_name [] := by
  have c_is_letter := ok_is_letter (P := P) (base := base) T
  refine cal_mk (st := s_is_field_name) T.d_is_field_name T.g_is_field_name sc_is_field_name (fun _ _ _ _ _ _ us hl => match us, hl with | [_], _ => rfl) (fun vs H Q E h => ?_) (fun f cdv A outer s H vs Q E hr h => ?_)
  · rcases h.1 with rfl | rfl <;> rfl
  · obtain ⟨h, k⟩ := h
    refine ⟨_, (pss_cons (ps_if (PW.pt (pw_or (pt_cmpR op_eq (pv 0) pe_str (nomark _)) (pw_or (pt_not (pt_val (C8.pe_c c_is_letter hr (by decide) (by rfl) (pa_cons (pe_ix ix_str (pv 0) pe_int (fun _ _ => rfl)) pa_nil)))) (pw_or1 (pt_cmpR (op_in_seqK (K := K) rfl) (pv 0) (pe_glob (v := .ref (He.ga K "WORDS")) (by rfl) T.g_WORDS rfl) (by rfl))))))
        (pss_one (ps_ret pe_bl))
        pss_nil)
      (pss_cons (ps_for PassesOwn.never rfl (pi_str (pv 0)) (pg_name (i := 1) sc_is_field_name.nd rfl (.inl rfl))
        (pss_one (ps_if (PW.pt (pw_and (pt_not (pt_val (C8.pe_c c_is_letter hr (by decide) (by rfl) (pa_cons (pv 1) pa_nil)))) pw_nv))
          (pss_one (ps_ret pe_bl))
          pss_nil)))
      (pss_one (ps_ret pe_bl)))), ?_⟩
    rcases h with rfl | rfl
    · refine ⟨_, rfl, rfl, _, rfl, ?_⟩
      rw [show decide (V.str "k" = V.str "") = false by decide +kernel]
      refine iteF ⟨_, rfl, _, 0, 107, rfl, rfl, (by decide +kernel), (by decide +kernel), .inl (by decide +kernel), _, rfl, iteF ?_⟩
      refine ⟨_, rfl, _, _, rfl, .inr (T.t_WORDS _), rfl, rfl, _, rfl, ?_⟩
      rw [show (if false = true then !inV (V.str "k") [.str "every", .str "has", .str "in", .str "and", .str "or", .str "not", .str "true", .str "false"] else inV (V.str "k") [.str "every", .str "has", .str "in", .str "and", .str "or", .str "not", .str "true", .str "false"]) = false by decide +kernel]
      refine iteF ?_
      refine ⟨_, rfl, _, rfl, for_it walk_str (fun i σ H2 => H2 = H ∧ ∃ y, σ = [some (.str "k"), y]) ⟨rfl, _, rfl⟩ (fun _ _ _ _ _ => trivial) ?_ ?_⟩
      · rintro i x σ H2 H3 hi ⟨rfl, y, rfl⟩ ⟨rfl, c, hc, rfl⟩
        have h1 : i = 0 := by
          have : i < 1 := hi
          omega
        subst h1
        have h2 : c = 107 := (Option.some.inj hc).symm
        subst h2
        refine ⟨_, rfl, .inl (by decide +kernel), _, rfl, iteF ?_⟩
        exact iteF ⟨rfl, _, rfl⟩
      · rintro σ H2 ⟨rfl, y, rfl⟩
        exact k
    · refine ⟨_, rfl, rfl, _, rfl, ?_⟩
      rw [show decide (V.str "t" = V.str "") = false by decide +kernel]
      refine iteF ⟨_, rfl, _, 0, 116, rfl, rfl, (by decide +kernel), (by decide +kernel), .inr (by decide +kernel), _, rfl, iteF ?_⟩
      refine ⟨_, rfl, _, _, rfl, .inr (T.t_WORDS _), rfl, rfl, _, rfl, ?_⟩
      rw [show (if false = true then !inV (V.str "t") [.str "every", .str "has", .str "in", .str "and", .str "or", .str "not", .str "true", .str "false"] else inV (V.str "t") [.str "every", .str "has", .str "in", .str "and", .str "or", .str "not", .str "true", .str "false"]) = false by decide +kernel]
      refine iteF ?_
      refine ⟨_, rfl, _, rfl, for_it walk_str (fun i σ H2 => H2 = H ∧ ∃ y, σ = [some (.str "t"), y]) ⟨rfl, _, rfl⟩ (fun _ _ _ _ _ => trivial) ?_ ?_⟩
      · rintro i x σ H2 H3 hi ⟨rfl, y, rfl⟩ ⟨rfl, c, hc, rfl⟩
        have h1 : i = 0 := by
          have : i < 1 := hi
          omega
        subst h1
        have h2 : c = 116 := (Option.some.inj hc).symm
        subst h2
        refine ⟨_, rfl, .inr (by decide +kernel), _, rfl, iteF ?_⟩
        exact iteF ⟨rfl, _, rfl⟩
      · rintro σ H2 ⟨rfl, y, rfl⟩
        exact k
/-! ### kinds of values, words -/
theorem sc_kind_of_value : FnScope ["worth"] ["worth"] (defScope s_kind_of_value) := ⟨rfl, rfl, rfl, by decide +kernel, rfl, by decide +kernel, by decide +kernel⟩
def FV.kind : FV → Str
  | .i _ => "integer"
  | .s _ => "text"
def sp_kind_of_value : Sp := fun vs H Q _ => ∃ v : FV, vs = [v.v] ∧ Q (.str v.kind) H
theorem ok_kind_of_value (T : Tx w K mg) : C8.Cal P w K mg base 1 "kind_of_value" sp_kind_of_value [] := by
  refine cal_mk (st := s_kind_of_value) T.d_kind_of_value T.g_kind_of_value sc_kind_of_value (fun _ _ _ _ _ _ us hl => match us, hl with | [_], _ => rfl) (fun vs H Q E h => ?_) (fun f cdv A outer s H vs Q E hr h => ?_)
  · obtain ⟨v, rfl, _⟩ := h
    rfl
  · obtain ⟨v, rfl, k⟩ := h
    refine ⟨_, (pss_cons (ps_if (pt_val (pe_callB call_isi (by rfl) T.z_isinstance (by decide +kernel) (pa_cons (pv 0) (pa_cons (pe_bltn (v := .ty "bool") (by rfl) T.z_bool (by decide +kernel) rfl) pa_nil))))
        (pss_one (ps_ret pe_str))
        pss_nil)
      (pss_cons (ps_if (pt_val (pe_callB call_isi (by rfl) T.z_isinstance (by decide +kernel) (pa_cons (pv 0) (pa_cons (pe_bltn (v := .ty "str") (by rfl) T.z_str (by decide +kernel) rfl) pa_nil))))
        (pss_one (ps_ret pe_str))
        pss_nil)
      (pss_one (ps_ret pe_str)))), ?_⟩
    cases v with
    | i n =>
      refine ⟨_, rfl, _, _, _, _, false, rfl, .ty "bool", .base (.int n), kit_ty (by decide +kernel), _, rfl, iteF ?_⟩
      refine ⟨_, rfl, _, _, _, _, false, rfl, .ty "str", .base (.int n), kit_ty (by decide +kernel), _, rfl, iteF ?_⟩
      exact k
    | s x =>
      refine ⟨_, rfl, _, _, _, _, false, rfl, .ty "bool", .base (.str x), kit_ty (by decide +kernel), _, rfl, iteF ?_⟩
      refine ⟨_, rfl, _, _, _, _, true, rfl, .ty "str", .base (.str x), kit_ty (by decide +kernel), _, rfl, iteT ?_⟩
      exact k
theorem sc_words_fit : FnScope ["words", "before", "word", "count"] ["words"] (defScope s_words_fit) := ⟨rfl, rfl, rfl, by decide +kernel, rfl, by decide +kernel, by decide +kernel⟩
def sp_words_fit (K : PySem.W.Frag) : Sp := fun vs H Q _ => ∃ (a : Addr) (as : List Addr) (ws : List (Str × Int)), vs = [.ref a] ∧ H a = some (.tup (as.map V.ref)) ∧ Paired (WAt H) as ws ∧ wordsOk "" ws ∧ Q (.bl true) H
def lastW : List (Str × Int) → Str → Str
  | [], b => b
  | (x, _) :: r, _ => lastW r x
theorem wordsOk_at : ∀ {ws : List (Str × Int)} {b : Str} {i : Nat} {q : Str × Int}, wordsOk b ws → ws[i]? = some q → (lastW (ws.take i) b).cps.toList < q.1.cps.toList ∧ 1 ≤ q.2 ∧ lastW (ws.take (i + 1)) b = q.1
  | [], _, _, _, _, e => by simp at e
  | (x, c) :: r, b, 0, q, h, e => by
    simp at e
    subst e
    exact ⟨h.1, h.2.1, rfl⟩
  | (x, c) :: r, b, i + 1, q, h, e => wordsOk_at (ws := r) (b := x) (i := i) h.2.2 (by simpa using e)
theorem ok_words_fit (T : Tx w K mg) : C8.Cal P w K mg base 1 "words_fit" (sp_words_fit K) [] := by
  refine cal_mk (st := s_words_fit) T.d_words_fit T.g_words_fit sc_words_fit (fun _ _ _ _ _ _ us hl => match us, hl with | [_], _ => rfl) (fun vs H Q E h => ?_) (fun f cdv A outer s H vs Q E hr h => ?_)
  · obtain ⟨a, as, ws, rfl, _⟩ := h
    rfl
  · obtain ⟨a, as, ws, rfl, ha, hp, hw, k⟩ := h
    refine ⟨_, (pss_cons (ps_set (i := 1) sc_words_fit.nd rfl (.inl rfl) pe_str)
      (pss_cons (ps_for PassesOwn.never rfl (pi_tup (pv 0)) (pg_tup rfl (pgs_cons (pg_name (i := 2) sc_words_fit.nd rfl (.inl rfl)) (pgs_cons (pg_name (i := 3) sc_words_fit.nd rfl (.inl rfl)) pgs_nil)))
        (pss_cons (ps_if (PW.pt (pw_or (pt_cmpR op_le_str (pv 2) (pv 1) (nomark _)) (pw_or1 (pt_cmpR op_lt (pv 3) pe_int (nomark _)))))
          (pss_one (ps_ret pe_bl))
          pss_nil)
        (pss_one (ps_set (i := 1) sc_words_fit.nd rfl (.inl rfl) (pv 2)))))
      (pss_one (ps_ret pe_bl)))), ?_⟩
    refine ⟨_, rfl, a, rfl, ⟨_, .inl (.inl ha)⟩, for_tup (K := K) (a := a) (xs := as.map V.ref) (fun i σ H2 => H2 = H ∧ ∃ y z, σ = [some (.ref a), some (.str (lastW (ws.take i) "")), y, z]) ⟨rfl, none, none, rfl⟩ (fun i σ H2 _ p => by rw [p.1]; exact .inl (.inl ha)) ?_ ?_⟩
    · rintro i v σ H2 hi ⟨rfl, y, z, rfl⟩
      obtain ⟨t, ht, rfl⟩ := map_at hi
      obtain ⟨q, hq, rq⟩ := paired_at hp ht
      obtain ⟨l1, l2, l3⟩ := wordsOk_at hw hq
      refine ⟨t, _, rfl, .inl (.inl rq), rfl, _, _, rfl, _, _, rfl, rfl, ?_⟩
      refine ⟨_, rfl, _, rfl, _, _, rfl, rfl, _, rfl, ?_⟩
      rw [decide_eq_true l1]
      refine iteF ⟨_, rfl, _, _, rfl, rfl, _, rfl, ?_⟩
      rw [decide_eq_false (show ¬ q.2 < 1 by omega)]
      refine iteF ⟨_, rfl, rfl, some (.str q.1), some (.int q.2), ?_⟩
      rw [l3]
      rfl
    · rintro σ H2 ⟨rfl, y, z, rfl⟩
      exact k
/-! ### Schema.__init__ -/
theorem sc_Schema_init : FnScope ["self", "size", "width", "measure", "fields", "names", "name", "kind"] ["self", "size", "width", "measure", "fields"] (defScope s_Schema_init) := ⟨rfl, rfl, rfl, by decide +kernel, rfl, by decide +kernel, by decide +kernel⟩
/-- H0: the heap ahead of the instance -/
def sp_Schema_init (K : PySem.W.Frag) : Sp := fun vs H Q _ => ∃ (F H0 : Hp) (x dx fa t1 t2 : Addr) (d : SchD), vs = [.ref x, .int d.size, .str d.width, .str d.meas, .ref fa] ∧ d.Ok ∧ Same F H0 ∧ H0 x = none ∧ H0 dx = none ∧ dx ≠ x ∧ H = upd (upd H0 dx (.own x)) x (.ins (He.ga K "Schema") dx []) ∧
  H0 fa = some (.tup [.ref t1, .ref t2]) ∧ H0 t1 = some (.tup [.str "k", .str "integer"]) ∧ H0 t2 = some (.tup [.str "t", .str "text"]) ∧ ∀ F' H', Gr [] F H0 F' H' → SchAt K F' x d → Q .non H'
theorem ok_Schema_init (T : Tx w K mg) : Ini P w K mg base 3 (He.ma K (He.ga K "Schema") "__init__") "Schema.__init__" ["self", "size", "width", "measure", "fields"] s_Schema_init [("width", .str "small")] (sp_Schema_init K) := by
  have c_is_field_name := ok_is_field_name (P := P) (base := base) T
  obtain ⟨es, n, D⟩ := T.r_dict
  refine ini_mk (st := s_Schema_init) T.d_Schema_init sc_Schema_init (fun vs H Q E h => ?_) (fun f cdv A outer s H vs Q E hr h => ?_)
  · obtain ⟨F, H0, x, dx, fa, t1, t2, d, rfl, _⟩ := h
    rfl
  · obtain ⟨F, H0, x, dx, fa, t1, t2, d, rfl, ok, hF, hx, hdx, ndx, rfl, e1, e2, e3, k⟩ := h
    have m := mk_same (C := He.ga K "Schema") hx hdx
    refine ⟨_, (pss_cons (ps_if (PW.pt (pw_or (pt_cmpR op_lt (pv 1) pe_int (nomark _)) (pw_or (pt_cmpR (op_notIn_kd D) (pv 2) (pe_glob (v := .ref (He.ga K "RANGES")) (by rfl) T.g_RANGES rfl) (by rfl)) (pw_or1 (pt_cmpR (op_notIn_seqK (K := K) rfl) (pv 3) (pe_glob (v := .ref (He.ga K "MEASURES")) (by rfl) T.g_MEASURES rfl) (by rfl))))))
        (pss_one (ps_never))
        pss_nil)
      (pss_cons (ps_if (PW.pt (pw_and (pt_cmpR op_eq (pv 3) pe_str (nomark _)) (pw_and1 (pt_cmpR op_ne (pv 2) pe_str (nomark _)))))
        (pss_one (ps_never))
        pss_nil)
      (pss_cons (ps_set (i := 5) sc_Schema_init.nd rfl (.inl rfl) (pe_lst pa_nil))
      (pss_cons (ps_for PassesOwn.never rfl (pi_tup (pv 4)) (pg_tup rfl (pgs_cons (pg_name (i := 6) sc_Schema_init.nd rfl (.inl rfl)) (pgs_cons (pg_name (i := 7) sc_Schema_init.nd rfl (.inl rfl)) pgs_nil)))
        (pss_cons (ps_if (PW.pt (pw_or (pt_cmpR (op_notIn_seqK (K := K) rfl) (pv 7) (pe_glob (v := .ref (He.ga K "KINDS")) (by rfl) T.g_KINDS rfl) (by rfl)) (pw_or (pt_not (pt_val (C8.pe_c c_is_field_name hr (by decide) (by rfl) (pa_cons (pv 6) pa_nil)))) (pw_or1 (pt_cmpR (op_in_seqK (K := K) rfl) (pv 6) (pv 5) (by rfl))))))
          (pss_one (ps_never))
          pss_nil)
        (pss_one (ps_expr (pe_bm PySem.F.plainAttrs_list PySem.F.slot_list_append PySem.F.type_list_append mt_append (pv 5) (pa_cons (pv 6) pa_nil))))))
      (pss_cons (ps_fld (pv 0) (pv 1) rfl)
      (pss_cons (ps_fld (pv 0) (pv 2) rfl)
      (pss_cons (ps_fld (pv 0) (pv 3) rfl)
      (pss_one (ps_fld (pv 0) (pe_callTy (call_tuple_K (K := K) rfl) (by rfl) T.z_tuple (by decide +kernel) (pa_cons (pe_lc (own := [("name", 6), ("kind", 7)]) (g := gTup K 2 (gCons (gName 6) (gCons (gName 7) gNil))) (tt := tYes) rfl sc_Schema_init.nd (pi_tup (pv 4)) (blkOk_by (N := ["self", "size", "width", "measure", "fields", "names", "name", "kind"]) (sc := defScope s_Schema_init) (by decide +kernel)) (fun _ _ _ _ _ => (pg_tup rfl (pgs_cons (pg_name (i := 6) sc_Schema_init.nd rfl (.inl rfl) (.inr rfl)) (pgs_cons (pg_name (i := 7) sc_Schema_init.nd rfl (.inl rfl) (.inr rfl)) pgs_nil)))) (fun _ _ _ _ _ => pts_nil) (fun _ _ _ _ _ => (pe_tup (pa_cons (pv 6) (pa_cons (pv 7) pa_nil))))) pa_nil)) rfl))))))))), ?_⟩
    have s1 := ok.size
    refine ⟨_, rfl, _, _, rfl, rfl, _, rfl, ?_⟩
    rw [decide_eq_false (show ¬ d.size < 1 by omega)]
    refine iteF ?_
    have hw : ∃ u, PySem.W.nsIn K (He.ga K "RANGES") d.width = some (some u) := by
      rcases ok.kind with ⟨q, _⟩ | ⟨q, _⟩
      · rw [q]
        exact ⟨_, T.r_bit⟩
      · rw [q]
        exact ⟨_, T.r_small⟩
    obtain ⟨u, hu2⟩ := hw
    refine ⟨_, rfl, _, _, rfl, rfl, hu2, _, rfl, iteF ?_⟩
    refine ⟨_, rfl, _, _, rfl, .inr (T.t_MEASURES _), rfl, rfl, _, rfl, ?_⟩
    have hme : (if true = true then !inV (V.str d.meas) [.str "square", .str "dot", .str "bits"] else inV (V.str d.meas) [.str "square", .str "dot", .str "bits"]) = false := by
      rcases ok.kind with ⟨_, q⟩ | ⟨_, q | q⟩ <;> rw [q] <;> decide +kernel
    rw [hme]
    refine iteF ?_
    refine ⟨_, rfl, rfl, _, rfl, ?_⟩
    have go : ∀ Z : Prop, Z → (if decide (V.str d.meas = V.str "bits") = true then (tTest (tOp rNe (tVar 2) (tC (V.str "bit")))) [some (V.ref x), some (V.int d.size), some (V.str d.width), some (V.str d.meas), some (V.ref fa), none, none, none] (upd (upd H0 dx (.own x)) x (.ins (He.ga K "Schema") dx [])) (fun b _ => if b = true then False else Z) else (if false = true then False else Z)) := by
      intro Z z
      rcases ok.kind with ⟨q1, q2⟩ | ⟨_, q | q⟩
      · rw [q1, q2, decide_eq_true rfl]
        refine iteT ⟨_, rfl, rfl, _, rfl, ?_⟩
        rw [decide_eq_true rfl]
        exact iteF z
      · rw [q, show decide (V.str "square" = V.str "bits") = false by decide +kernel]
        exact iteF (iteF z)
      · rw [q, show decide (V.str "dot" = V.str "bits") = false by decide +kernel]
        exact iteF (iteF z)
    refine go _ ?_
    refine ⟨Nat.zero_le _, fun nl nnl => ?_⟩
    have sA : Same H0 (upd (upd (upd H0 dx (.own x)) x (.ins (He.ga K "Schema") dx [])) nl (.lst [])) := same_app m nnl
    have nlx : nl ≠ x := fun z => by
      rw [z, upd_same] at nnl
      cases nnl
    have nl0 : H0 nl = none := m.free nnl
    have ft : ∀ H2, Same H0 H2 → SqT K H2 fa [.ref t1, .ref t2] := fun H2 g => .inl (.inl (g _ _ e1))
    refine ⟨_, rfl, fa, rfl, ⟨_, ft _ sA⟩, for_tup (K := K) (a := fa) (xs := [V.ref t1, V.ref t2])
      (fun i σ H2 => Same H0 H2 ∧ H2 x = some (.ins (He.ga K "Schema") dx []) ∧ H2 nl = some (.lst (([V.str "k", V.str "t"]).take i)) ∧ ∃ y z, σ = [some (V.ref x), some (V.int d.size), some (V.str d.width), some (V.str d.meas), some (V.ref fa), some (.ref nl), y, z])
      ⟨sA, by rw [upd_ne nlx.symm, upd_same], upd_same, none, none, rfl⟩ (fun i σ H2 _ p => ft _ p.1) ?_ ?_⟩
    · rintro i v σ H2 hi ⟨g, hx2, hl, y, z, rfl⟩
      have pp : ∀ b o, H0 b = some o → upd H2 nl o b = upd H2 nl o b := fun _ _ _ => rfl
      have put : ∀ q : List V, Same H0 (upd H2 nl (.lst q)) := fun q b o e => by
        rw [upd_ne (ne_of_none e nl0)]
        exact g _ _ e
      match i, hi with
      | 0, hi =>
        have hv : v = .ref t1 := (Option.some.inj hi).symm
        subst hv
        refine ⟨t1, _, rfl, .inl (.inl (g _ _ e2)), rfl, _, _, rfl, _, _, rfl, rfl, ?_⟩
        refine ⟨_, rfl, _, _, rfl, .inr (T.t_KINDS _), rfl, rfl, _, rfl, ?_⟩
        rw [show (if true = true then !inV (V.str "integer") [.str "integer", .str "text", .str "flag"] else inV (V.str "integer") [.str "integer", .str "text", .str "flag"]) = false by decide +kernel]
        refine iteF ⟨_, rfl, .inl rfl, _, rfl, iteF ?_⟩
        refine ⟨_, rfl, _, rfl, nl, _, rfl, .inl (.inl (.inl hl)), rfl, rfl, _, rfl, ?_⟩
        rw [show (if false = true then !inV (V.str "k") (([V.str "k", V.str "t"]).take 0) else inV (V.str "k") (([V.str "k", V.str "t"]).take 0)) = false by decide +kernel]
        refine iteF ⟨_, rfl, .inl ⟨rfl, _, SqL.of hl⟩, _, rfl, nl, _, _, rfl, rfl, hl, (by show 0 < sizeLine; decide), ?_⟩
        exact ⟨put _, by rw [upd_ne nlx.symm]; exact hx2, upd_same, _, _, rfl⟩
      | 1, hi =>
        have hv : v = .ref t2 := (Option.some.inj hi).symm
        subst hv
        refine ⟨t2, _, rfl, .inl (.inl (g _ _ e3)), rfl, _, _, rfl, _, _, rfl, rfl, ?_⟩
        refine ⟨_, rfl, _, _, rfl, .inr (T.t_KINDS _), rfl, rfl, _, rfl, ?_⟩
        rw [show (if true = true then !inV (V.str "text") [.str "integer", .str "text", .str "flag"] else inV (V.str "text") [.str "integer", .str "text", .str "flag"]) = false by decide +kernel]
        refine iteF ⟨_, rfl, .inr rfl, _, rfl, iteF ?_⟩
        refine ⟨_, rfl, _, rfl, nl, _, rfl, .inl (.inl (.inl hl)), rfl, rfl, _, rfl, ?_⟩
        rw [show (if false = true then !inV (V.str "t") (([V.str "k", V.str "t"]).take 1) else inV (V.str "t") (([V.str "k", V.str "t"]).take 1)) = false by decide +kernel]
        refine iteF ⟨_, rfl, .inl ⟨rfl, _, SqL.of hl⟩, _, rfl, nl, _, _, rfl, rfl, hl, (by show 1 < sizeLine; decide), ?_⟩
        exact ⟨put _, by rw [upd_ne nlx.symm]; exact hx2, upd_same, _, _, rfl⟩
      | i + 2, hi => simp at hi
    · rintro σ H2 ⟨g, hx2, hl, y, z, rfl⟩
      have pr : ∀ (o : HO) (H3 : Hp), Same H0 H3 → Same H0 (upd H3 x o) := fun o H3 g b u e => by
        rw [upd_ne (ne_of_none e hx)]
        exact g _ _ e
      refine ⟨_, rfl, _, rfl, x, _, dx, _, rfl, hx2, T.c_Schema, T.n_Schema_size, (by show 0 < 1000; decide), ?_⟩
      refine ⟨_, rfl, _, rfl, x, _, dx, _, rfl, upd_same, T.c_Schema, T.n_Schema_width, (by show 1 < 1000; decide), ?_⟩
      refine ⟨_, rfl, _, rfl, x, _, dx, _, rfl, upd_same, T.c_Schema, T.n_Schema_measure, (by show 2 < 1000; decide), ?_⟩
      rw [upd_upd, upd_upd]
      have g3 := pr (.ins (He.ga K "Schema") dx (putF "measure" (.str d.meas) (putF "width" (.str d.width) (putF "size" (.int d.size) [])))) H2 g
      generalize hH3 : upd H2 x (.ins (He.ga K "Schema") dx (putF "measure" (.str d.meas) (putF "width" (.str d.width) (putF "size" (.int d.size) [])))) = H3 at *
      have hx3 : H3 x = some (.ins (He.ga K "Schema") dx (putF "measure" (.str d.meas) (putF "width" (.str d.width) (putF "size" (.int d.size) [])))) := by
        rw [← hH3]
        exact upd_same
      refine ⟨_, rfl, fa, rfl, ⟨_, ft _ g3⟩, fun Dl nD => ?_⟩
      have nDx : Dl ≠ x := fun z => by
        rw [z, hx3] at nD
        cases nD
      have D0 := g3.free nD
      have kt : ∀ (H4 : Hp) (i : Nat) (v : V) (z : List V), Same H0 H4 → [V.ref t1, V.ref t2][i]? = some v → [[V.str "k", V.str "integer"], [V.str "t", V.str "text"]][i]? = some z → ∃ t, v = .ref t ∧ SqT K H4 t z ∧ ∃ a b, z = [a, b] := fun H4 i v z q h1 h2 => by
        match i, h1, h2 with
        | 0, h1, h2 =>
          have a1 := Option.some.inj h1
          have a2 := Option.some.inj h2
          subst a1 a2
          exact ⟨t1, rfl, .inl (.inl (q _ _ e2)), _, _, rfl⟩
        | 1, h1, h2 =>
          have a1 := Option.some.inj h1
          have a2 := Option.some.inj h2
          subst a1 a2
          exact ⟨t2, rfl, .inl (.inl (q _ _ e3)), _, _, rfl⟩
        | i + 2, h1, _ => simp at h1
      refine lc_grow walk_tup nD (hF.trans g3) (fun i v => [V.ref t1, V.ref t2][i]? = some v) (fun H4 q => ft _ (g3.trans q)) (fun _ _ _ _ y => y) [[V.str "k", V.str "integer"], [V.str "t", V.str "text"]] rfl (by show 2 ≤ 100000; decide) (fun z => some z) (fun F q v => F q = some (.tup v)) (fun s e => s _ _ e) ?_ ?_
      · intro i v z Fi H4 Qn Qy rv hz gr hn hy
        obtain ⟨t, rfl, ht, a, b, rfl⟩ := kt H4 i v z (g3.trans gr.hh) rv hz
        refine ⟨t, _, rfl, ht, rfl, _, _, rfl, _, _, rfl, rfl, rfl, lc_yes ?_⟩
        refine ⟨_, rfl, _, rfl, (by show 2 ≤ sizeLine; decide), fun p np => ?_⟩
        exact hy _ rfl p _ _ (Gr.tell gr.fh np) upd_same
      · intro F1 H4 ps gr nF e pr
        have px : ∃ p1 p2, ps = [p1, p2] ∧ F1 p1 = some (.tup [V.str "k", V.str "integer"]) ∧ F1 p2 = some (.tup [V.str "t", V.str "text"]) := by
          cases pr with
          | cons r1 pr =>
            cases pr with
            | cons r2 pr =>
              cases pr
              exact ⟨_, _, rfl, r1, r2⟩
        obtain ⟨p1, p2, rfl, r1, r2⟩ := px
        have gB : Gr [] F H0 F1 H4 := Gr.from_ g3 gr
        have nx : F1 x = none := gr.out hx3 (hF.free hx)
        refine ⟨Dl, _, rfl, .inl ⟨SqL.of e, fun q nq => ?_⟩⟩
        have nqx : q ≠ x := fun z => by
          rw [z, gr.hh _ _ hx3] at nq
          cases nq
        refine ⟨_, rfl, x, _, dx, _, rfl, by rw [upd_ne nqx.symm]; exact gr.hh _ _ hx3, T.c_Schema, T.n_Schema_fields, (by show 3 < 1000; decide), ?_⟩
        have nq0 := gB.hh.free nq
        have gC : Gr [] F H0 (upd F1 q (.tup [V.ref p1, V.ref p2])) (upd H4 q (.tup [V.ref p1, V.ref p2])) := gB.trans (Gr.tell gB.fh nq)
        have nx2 : (upd F1 q (.tup [V.ref p1, V.ref p2])) x = none := by rw [upd_ne nqx.symm]; exact nx
        have gD := gC.put (o := .ins (He.ga K "Schema") dx (schF d q)) nx2 (.inl hx)
        have gE := gD.told upd_same nx2 hx
        refine k _ _ gE ⟨dx, q, p1, p2, upd_same, ?_, ?_, ?_⟩
        · rw [upd_ne nqx, upd_same]
        · have n1 : p1 ≠ q := ne_of_none r1 (gB.fh.free nq)
          have n2 : p1 ≠ x := ne_of_none r1 nx
          rw [upd_ne n2, upd_ne n1]
          exact r1
        · have n1 : p2 ≠ q := ne_of_none r2 (gB.fh.free nq)
          have n2 : p2 ≠ x := ne_of_none r2 nx
          rw [upd_ne n2, upd_ne n1]
          exact r2
end
end K94
/-! The schema: what it says of a record. -/
namespace K94
open PySem PySem.Spec PyProof.Rows L2
section
variable {P : Program} {w : World} {K : PySem.W.Frag} {mg : Str → Option Value} {base : Heap}
theorem sc_Schema_least : FnScope ["self"] ["self"] (defScope s_Schema_least) := ⟨rfl, rfl, rfl, by decide +kernel, rfl, by decide +kernel, by decide +kernel⟩
theorem sc_Schema_greatest : FnScope ["self"] ["self"] (defScope s_Schema_greatest) := ⟨rfl, rfl, rfl, by decide +kernel, rfl, by decide +kernel, by decide +kernel⟩
def sp_least (K : PySem.W.Frag) : Sp := fun vs H Q _ => ∃ (a : Addr) (d : SchD), vs = [.ref a] ∧ SchAt K H a d ∧ d.Ok ∧ Q (.int d.lo) H
def sp_greatest (K : PySem.W.Frag) : Sp := fun vs H Q _ => ∃ (a : Addr) (d : SchD), vs = [.ref a] ∧ SchAt K H a d ∧ d.Ok ∧ Q (.int d.hi) H
theorem ok_least (T : Tx w K mg) : Prp P w K mg base 1 (He.ga K "Schema") "least" (sp_least K) := by
  obtain ⟨es, n, D⟩ := T.r_dict
  refine prp_mk (st := s_Schema_least) T.d_Schema_least T.c_Schema T.p_least sc_Schema_least (fun _ _ _ _ _ _ us hl => match us, hl with | [_], _ => rfl) (fun vs H Q E h => ?_) (fun f cdv A outer s H vs Q E hr h => ?_)
  · obtain ⟨a, d, rfl, _⟩ := h
    rfl
  · obtain ⟨a, d, rfl, hs, ok, k⟩ := h
    obtain ⟨dx, ft, t1, t2, h1, h2, h3, h4⟩ := hs.ex
    refine ⟨_, (pss_one (ps_ret (pe_ix (ix_tupK (K := K) rfl) (pe_ix (ix_kd D) (pe_glob (v := .ref (He.ga K "RANGES")) (by rfl) T.g_RANGES rfl) (pe_fldK (K := K) rfl (pv 0) rfl) (fun _ _ => rfl)) pe_int (fun _ _ => rfl)))), ?_⟩
    have hw : ∃ u, PySem.W.nsIn K (He.ga K "RANGES") d.width = some (some (.ref u)) ∧ SqT K H u [.int d.lo, .int d.hi] := by
      rcases ok.kind with ⟨q, _⟩ | ⟨q, _⟩
      · unfold SchD.lo SchD.hi
        rw [q]
        exact ⟨_, T.r_bit, T.t_bit _⟩
      · unfold SchD.lo SchD.hi
        rw [q]
        exact ⟨_, T.r_small, T.t_small _⟩
    obtain ⟨u, hu2, hu3⟩ := hw
    refine ⟨_, rfl, a, _, dx, _, _, rfl, h1, T.c_Schema, T.n_Schema_width, schF_width d ft, ?_⟩
    refine ⟨d.width, _, .ref u, rfl, rfl, hu2, rfl, u, _, 0, _, rfl, rfl, hu3, atI_nat (j := 0) rfl, ?_⟩
    exact k
theorem ok_greatest (T : Tx w K mg) : Prp P w K mg base 1 (He.ga K "Schema") "greatest" (sp_greatest K) := by
  obtain ⟨es, n, D⟩ := T.r_dict
  refine prp_mk (st := s_Schema_greatest) T.d_Schema_greatest T.c_Schema T.p_greatest sc_Schema_greatest (fun _ _ _ _ _ _ us hl => match us, hl with | [_], _ => rfl) (fun vs H Q E h => ?_) (fun f cdv A outer s H vs Q E hr h => ?_)
  · obtain ⟨a, d, rfl, _⟩ := h
    rfl
  · obtain ⟨a, d, rfl, hs, ok, k⟩ := h
    obtain ⟨dx, ft, t1, t2, h1, h2, h3, h4⟩ := hs.ex
    refine ⟨_, (pss_one (ps_ret (pe_ix (ix_tupK (K := K) rfl) (pe_ix (ix_kd D) (pe_glob (v := .ref (He.ga K "RANGES")) (by rfl) T.g_RANGES rfl) (pe_fldK (K := K) rfl (pv 0) rfl) (fun _ _ => rfl)) pe_int (fun _ _ => rfl)))), ?_⟩
    have hw : ∃ u, PySem.W.nsIn K (He.ga K "RANGES") d.width = some (some (.ref u)) ∧ SqT K H u [.int d.lo, .int d.hi] := by
      rcases ok.kind with ⟨q, _⟩ | ⟨q, _⟩
      · unfold SchD.lo SchD.hi
        rw [q]
        exact ⟨_, T.r_bit, T.t_bit _⟩
      · unfold SchD.lo SchD.hi
        rw [q]
        exact ⟨_, T.r_small, T.t_small _⟩
    obtain ⟨u, hu2, hu3⟩ := hw
    refine ⟨_, rfl, a, _, dx, _, _, rfl, h1, T.c_Schema, T.n_Schema_width, schF_width d ft, ?_⟩
    refine ⟨d.width, _, .ref u, rfl, rfl, hu2, rfl, u, _, 1, _, rfl, rfl, hu3, atI_nat (j := 1) rfl, ?_⟩
    exact k
theorem sc_Schema_has_vector : FnScope ["self", "vector", "number"] ["self", "vector"] (defScope s_Schema_has_vector) := ⟨rfl, rfl, rfl, by decide +kernel, rfl, by decide +kernel, by decide +kernel⟩
def sp_has_vector (K : PySem.W.Frag) : Sp := fun vs H Q _ => ∃ (a vt : Addr) (d : SchD) (ns : List Int), vs = [.ref a, .ref vt] ∧ SchAt K H a d ∧ d.Ok ∧ H vt = some (.tup (ns.map V.int)) ∧ (ns.length : Int) = d.size ∧ (∀ n ∈ ns, d.lo ≤ n ∧ n ≤ d.hi) ∧ Q (.bl true) H
theorem ok_has_vector (T : Tx w K mg) : C8.Met P w K mg base 3 (He.ga K "Schema") "has_vector" (sp_has_vector K) [] := by
  have c_least := ok_least (P := P) (base := base) T
  have c_greatest := ok_greatest (P := P) (base := base) T
  refine met_mk (st := s_Schema_has_vector) T.d_Schema_has_vector T.c_Schema T.m_Schema_has_vector sc_Schema_has_vector (fun _ _ _ _ _ _ us hl => match us, hl with | [_, _], _ => rfl) (fun vs H Q E h => ?_) (fun f cdv A outer s H vs Q E hr h => ?_)
  · obtain ⟨a, vt, d, ns, rfl, _⟩ := h
    rfl
  · obtain ⟨a, vt, d, ns, rfl, hs, ok, hv, hl, hn, k⟩ := h
    obtain ⟨dx, ft, t1, t2, h1, h2, h3, h4⟩ := hs.ex
    refine ⟨_, (pss_cons (ps_if (pt_cmpR op_ne (pe_callB call_len_seq (by rfl) T.z_len PySem.boot_len (pa_cons (pv 1) pa_nil)) (pe_fldK (K := K) rfl (pv 0) rfl) (nomark _))
        (pss_one (ps_ret pe_bl))
        pss_nil)
      (pss_cons (ps_for PassesOwn.never rfl (pi_tup (pv 1)) (pg_name (i := 2) sc_Schema_has_vector.nd rfl (.inl rfl))
        (pss_one (ps_if (PW.pt (pw_or (pt_cmpR op_lt (pv 2) (pe_prp c_least hr (by decide) (pv 0)) (nomark _)) (pw_or1 (pt_cmpR op_gt (pv 2) (pe_prp c_greatest hr (by decide) (pv 0)) (nomark _)))))
          (pss_one (ps_ret pe_bl))
          pss_nil)))
      (pss_one (ps_ret pe_bl)))), ?_⟩
    refine ⟨_, rfl, vt, _, rfl, .inr (.inl (.inl hv)), ?_⟩
    refine ⟨_, rfl, a, _, dx, _, _, rfl, h1, T.c_Schema, T.n_Schema_size, schF_size d ft, ?_⟩
    refine ⟨rfl, _, rfl, ?_⟩
    rw [List.length_map, hl]
    rw [decide_eq_true rfl]
    refine iteF ?_
    refine ⟨_, rfl, vt, rfl, ⟨_, .inl (.inl hv)⟩, for_tup (K := K) (a := vt) (xs := ns.map V.int) (fun i σ H2 => H2 = H ∧ ∃ y, σ = [some (.ref a), some (.ref vt), y]) ⟨rfl, _, rfl⟩ (fun i σ H2 _ p => by rw [p.1]; exact .inl (.inl hv)) ?_ ?_⟩
    · rintro i v σ H2 hi ⟨rfl, y, rfl⟩
      obtain ⟨n, hn1, rfl⟩ := map_at hi
      obtain ⟨b1, b2⟩ := hn n (List.mem_of_getElem? hn1)
      refine ⟨_, rfl, _, rfl, a, dx, _, rfl, h1, a, d, rfl, hs, ok, _, _, rfl, rfl, _, rfl, ?_⟩
      rw [decide_eq_false (show ¬ n < d.lo by omega)]
      refine iteF ?_
      refine ⟨_, rfl, _, rfl, a, dx, _, rfl, h1, a, d, rfl, hs, ok, _, _, rfl, rfl, _, rfl, ?_⟩
      rw [decide_eq_false (show ¬ d.hi < n by omega)]
      refine iteF ?_
      exact ⟨rfl, _, rfl⟩
    · rintro σ H2 ⟨rfl, y, rfl⟩
      exact k
theorem sc_Schema_has_fields : FnScope ["self", "pairs", "at", "name", "worth"] ["self", "pairs"] (defScope s_Schema_has_fields) := ⟨rfl, rfl, rfl, by decide +kernel, rfl, by decide +kernel, by decide +kernel⟩
def fpos : Str × FV → Nat
  | (_, .i _) => 0
  | (_, .s _) => 1
def lastP (fs : List (Str × FV)) (i : Nat) : Nat := match (fs.take i).getLast? with
  | none => 0
  | some q => fpos q + 1
theorem fieldsOk_at {fs : List (Str × FV)} (h : FieldsOk fs) : ∀ {i : Nat} {q : Str × FV}, fs[i]? = some q → lastP fs i ≤ fpos q ∧ lastP fs (i + 1) = fpos q + 1 ∧ ((fpos q = 0 ∧ q.1 = "k" ∧ q.2.kind = "integer") ∨ (fpos q = 1 ∧ q.1 = "t" ∧ q.2.kind = "text")) := by
  intro i q e
  cases h with
  | nil => simp at e
  | k n => match i, e with
    | 0, e => cases e; exact ⟨Nat.le_refl _, rfl, .inl ⟨rfl, rfl, rfl⟩⟩
  | t x => match i, e with
    | 0, e => cases e; exact ⟨Nat.zero_le _, rfl, .inr ⟨rfl, rfl, rfl⟩⟩
  | kt n x => match i, e with
    | 0, e => cases e; exact ⟨Nat.le_refl _, rfl, .inl ⟨rfl, rfl, rfl⟩⟩
    | 1, e => cases e; exact ⟨Nat.le_refl _, rfl, .inr ⟨rfl, rfl, rfl⟩⟩
def sp_has_fields (K : PySem.W.Frag) : Sp := fun vs H Q _ => ∃ (a vt : Addr) (d : SchD) (as : List Addr) (fs : List (Str × FV)), vs = [.ref a, .ref vt] ∧ SchAt K H a d ∧ H vt = some (.tup (as.map V.ref)) ∧ Paired (FAt H) as fs ∧ FieldsOk fs ∧ Q (.bl true) H
theorem ok_has_fields (T : Tx w K mg) : C8.Met P w K mg base 2 (He.ga K "Schema") "has_fields" (sp_has_fields K) [] := by
  have c_kind_of_value := ok_kind_of_value (P := P) (base := base) T
  refine met_mk (st := s_Schema_has_fields) T.d_Schema_has_fields T.c_Schema T.m_Schema_has_fields sc_Schema_has_fields (fun _ _ _ _ _ _ us hl => match us, hl with | [_, _], _ => rfl) (fun vs H Q E h => ?_) (fun f cdv A outer s H vs Q E hr h => ?_)
  · obtain ⟨a, vt, d, ns, fs, rfl, _⟩ := h
    rfl
  · obtain ⟨a, vt, d, as, fs, rfl, hs, hv, hp, ok, k⟩ := h
    obtain ⟨dx, ft, t1, t2, h1, h2, h3, h4⟩ := hs.ex
    refine ⟨_, (pss_cons (ps_set (i := 2) sc_Schema_has_fields.nd rfl (.inl rfl) pe_int)
      (pss_cons (ps_for PassesOwn.never rfl (pi_tup (pv 1)) (pg_tup rfl (pgs_cons (pg_name (i := 3) sc_Schema_has_fields.nd rfl (.inl rfl)) (pgs_cons (pg_name (i := 4) sc_Schema_has_fields.nd rfl (.inl rfl)) pgs_nil)))
        (pss_cons (ps_while PassesOwn.never (PW.pt (pw_and (pt_cmpR op_lt (pv 2) (pe_callB call_len_seq (by rfl) T.z_len PySem.boot_len (pa_cons (pe_fldK (K := K) rfl (pv 0) rfl) pa_nil)) (nomark _)) (pw_and1 (pt_cmpR op_ne (pe_ix (ix_tupK (K := K) rfl) (pe_ix (ix_tupK (K := K) rfl) (pe_fldK (K := K) rfl (pv 0) rfl) (pv 2) (fun _ _ => rfl)) pe_int (fun _ _ => rfl)) (pv 3) (nomark _)))))
          (pss_one (ps_set (i := 2) sc_Schema_has_fields.nd rfl (.inl rfl) (pe_op op_add (pv 2) pe_int))))
        (pss_cons (ps_if (PW.pt (pw_or (pt_cmpR op_eq (pv 2) (pe_callB call_len_seq (by rfl) T.z_len PySem.boot_len (pa_cons (pe_fldK (K := K) rfl (pv 0) rfl) pa_nil)) (nomark _)) (pw_or1 (pt_cmpR op_ne (pe_ix (ix_tupK (K := K) rfl) (pe_ix (ix_tupK (K := K) rfl) (pe_fldK (K := K) rfl (pv 0) rfl) (pv 2) (fun _ _ => rfl)) pe_int (fun _ _ => rfl)) (C8.pe_c c_kind_of_value hr (by decide) (by rfl) (pa_cons (pv 4) pa_nil)) (nomark _)))))
          (pss_one (ps_ret pe_bl))
          pss_nil)
        (pss_one (ps_set (i := 2) sc_Schema_has_fields.nd rfl (.inl rfl) (pe_op op_add (pv 2) pe_int))))))
      (pss_one (ps_ret pe_bl)))), ?_⟩
    have hf : SqT K H ft [.ref t1, .ref t2] := .inl (.inl h2)
    have nameAt : ∀ p : Nat, p ≤ 1 → ∃ t x y, atI [V.ref t1, V.ref t2] (p : Nat) = some (V.ref t) ∧ SqT K H t [.str x, .str y] ∧ ((p = 0 ∧ x = "k" ∧ y = "integer") ∨ (p = 1 ∧ x = "t" ∧ y = "text")) := by
      intro p hp
      match p, hp with
      | 0, _ => exact ⟨t1, _, _, atI_nat (j := 0) rfl, .inl (.inl h3), .inl ⟨rfl, rfl, rfl⟩⟩
      | 1, _ => exact ⟨t2, _, _, atI_nat (j := 1) rfl, .inl (.inl h4), .inr ⟨rfl, rfl, rfl⟩⟩
    refine ⟨_, rfl, vt, rfl, ⟨_, .inl (.inl hv)⟩, for_tup (K := K) (a := vt) (xs := as.map V.ref) (fun i σ H2 => H2 = H ∧ ∃ y z, σ = [some (.ref a), some (.ref vt), some (.int (lastP fs i : Nat)), y, z]) ⟨rfl, _, _, rfl⟩ (fun i σ H2 _ p => by rw [p.1]; exact .inl (.inl hv)) ?_ ?_⟩
    · rintro i v σ H2 hi ⟨rfl, y, z, rfl⟩
      obtain ⟨t, ht, rfl⟩ := map_at hi
      obtain ⟨q, hq, rq⟩ := paired_at hp ht
      obtain ⟨l1, l2, l3⟩ := fieldsOk_at ok hq
      have l4 : fpos q ≤ 1 := by rcases l3 with ⟨e, _⟩ | ⟨e, _⟩ <;> omega
      refine ⟨t, _, rfl, .inl (.inl rq), rfl, _, _, rfl, _, _, rfl, rfl, ?_⟩
      refine ⟨fun m σ H3 => H3 = H2 ∧ ∃ p : Nat, p ≤ fpos q ∧ m = fpos q - p ∧ σ = [some (.ref a), some (.ref vt), some (.int (p : Nat)), some (.str q.1), some q.2.v], ⟨_, rfl, _, l1, rfl, rfl⟩, ?_⟩
      rintro m σ H3 ⟨rfl, p, hp1, rfl, rfl⟩
      refine ⟨_, rfl, _, rfl, a, _, dx, _, _, rfl, h1, T.c_Schema, T.n_Schema_fields, schF_fields d ft, ft, _, rfl, .inr hf, _, _, rfl, rfl, _, rfl, ?_⟩
      rw [decide_eq_true (show ((p : Nat) : Int) < (([V.ref t1, V.ref t2]).length : Nat) by show ((p : Nat) : Int) < 2; omega)]
      refine iteT ?_
      obtain ⟨u, x, y, n1, n2, n3⟩ := nameAt p (by omega)
      refine ⟨_, rfl, a, _, dx, _, _, rfl, h1, T.c_Schema, T.n_Schema_fields, schF_fields d ft, _, rfl, ft, _, _, _, rfl, rfl, hf, n1, u, _, 0, _, rfl, rfl, n2, atI_nat (j := 0) rfl, _, rfl, rfl, _, rfl, ?_⟩
      by_cases hpq : p = fpos q
      · have e1 : x = q.1 ∧ y = q.2.kind := by
          rcases n3 with ⟨e, rfl, rfl⟩ | ⟨e, rfl, rfl⟩ <;> rcases l3 with ⟨e', g1, g2⟩ | ⟨e', g1, g2⟩
          · exact ⟨g1.symm, g2.symm⟩
          · omega
          · omega
          · exact ⟨g1.symm, g2.symm⟩
        obtain ⟨rfl, rfl⟩ := e1
        rw [decide_eq_true rfl]
        refine iteF ?_
        refine ⟨_, rfl, _, rfl, a, _, dx, _, _, rfl, h1, T.c_Schema, T.n_Schema_fields, schF_fields d ft, ft, _, rfl, .inr hf, rfl, _, rfl, ?_⟩
        rw [decide_eq_false (show ¬ V.int (p : Nat) = V.int (([V.ref t1, V.ref t2]).length : Nat) by
          intro z
          have : ((p : Nat) : Int) = 2 := V.int.inj z
          omega)]
        refine iteF ?_
        refine ⟨_, rfl, a, _, dx, _, _, rfl, h1, T.c_Schema, T.n_Schema_fields, schF_fields d ft, _, rfl, ft, _, _, _, rfl, rfl, hf, n1, u, _, 1, _, rfl, rfl, n2, atI_nat (j := 1) rfl, _, rfl, q.2, rfl, rfl, _, rfl, ?_⟩
        rw [decide_eq_true rfl]
        refine iteF ?_
        refine ⟨_, rfl, _, _, rfl, rfl, ?_⟩
        refine ⟨rfl, some (.str q.1), some q.2.v, ?_⟩
        rw [l2, hpq]
        rfl
      · have e1 : ¬ V.str x = V.str q.1 := by
          intro z
          have z := V.str.inj z
          rcases n3 with ⟨e, rfl, rfl⟩ | ⟨e, rfl, rfl⟩ <;> rcases l3 with ⟨e', g1, g2⟩ | ⟨e', g1, g2⟩
          · omega
          · rw [g1] at z
            exact absurd z (by decide +kernel)
          · rw [g1] at z
            exact absurd z (by decide +kernel)
          · omega
        rw [decide_eq_false e1]
        refine iteT ?_
        refine ⟨fun σ' H' => H' = H3 ∧ σ' = [some (.ref a), some (.ref vt), some (.int ((p + 1 : Nat) : Nat)), some (.str q.1), some q.2.v], ?_, ?_⟩
        · rintro σ' H' ⟨rfl, rfl⟩
          exact ⟨_, by omega, rfl, p + 1, by omega, rfl, rfl⟩
        · refine ⟨_, rfl, _, _, rfl, rfl, rfl, ?_⟩
          rfl
    · rintro σ H2 ⟨rfl, y, z, rfl⟩
      exact k
theorem sc_Schema_contains : FnScope ["self", "record"] ["self", "record"] (defScope s_Schema_contains) := ⟨rfl, rfl, rfl, by decide +kernel, rfl, by decide +kernel, by decide +kernel⟩
def sp_contains (K : PySem.W.Frag) : Sp := fun vs H Q _ => ∃ (a ra : Addr) (d : SchD) (r : Rec), vs = [.ref a, .ref ra] ∧ SchAt K H a d ∧ d.Ok ∧ RecAt K H ra r ∧ RecOk d r ∧ Q (.bl true) H
theorem ok_contains (T : Tx w K mg) : C8.Met P w K mg base 4 (He.ga K "Schema") "__contains__" (sp_contains K) [] := by
  have c_Schema_has_vector := ok_has_vector (P := P) (base := base) T
  have c_Schema_has_fields := ok_has_fields (P := P) (base := base) T
  have c_words_fit := ok_words_fit (P := P) (base := base) T
  refine met_mk (st := s_Schema_contains) T.d_Schema_contains T.c_Schema T.m_Schema_contains sc_Schema_contains (fun _ _ _ _ _ _ us hl => match us, hl with | [_, _], _ => rfl) (fun vs H Q E h => ?_) (fun f cdv A outer s H vs Q E hr h => ?_)
  · obtain ⟨a, ra, d, r, rfl, _⟩ := h
    rfl
  · obtain ⟨a, ra, d, r, rfl, hs, ok, hra, rok, k⟩ := h
    obtain ⟨dx, ft, t1, t2, h1, h2, h3, h4⟩ := hs.ex
    obtain ⟨rdx, vt, rft, wt, fas, was, r1, r2, r3, r4, r5, r6⟩ := hra.ex
    refine ⟨_, (pss_cons (ps_if (PW.pt (pw_or (pt_cmpR op_eq (pe_fldK (K := K) rfl (pv 1) rfl) pe_str (nomark _)) (pw_or1 (pt_not (pt_val (C8.pe_mt c_Schema_has_vector hr (by decide) (pv 0) (pa_cons (pe_fldK (K := K) rfl (pv 1) rfl) pa_nil)))))))
        (pss_one (ps_ret pe_bl))
        pss_nil)
      (pss_one (ps_ret (pe_and (C8.pe_mt c_Schema_has_fields hr (by decide) (pv 0) (pa_cons (pe_fldK (K := K) rfl (pv 1) rfl) pa_nil)) (pe_one (C8.pe_c c_words_fit hr (by decide) (by rfl) (pa_cons (pe_fldK (K := K) rfl (pv 1) rfl) pa_nil))))))), ?_⟩
    refine ⟨_, rfl, ra, _, rdx, _, _, rfl, r1, T.c_Record, T.n_Record_name, recF_name _ _ _ _, rfl, _, rfl, ?_⟩
    rw [decide_eq_false (show ¬ V.str r.name = V.str "" from fun z => rok.name (V.str.inj z))]
    refine iteF ?_
    refine ⟨_, rfl, a, dx, _, rfl, h1, (schF_no d ft).1, _, rfl, ra, _, rdx, _, _, rfl, r1, T.c_Record, T.n_Record_vector, recF_vector _ _ _ _, a, vt, d, r.vec, rfl, hs, ok, r2, rok.len, rok.vec, _, rfl, iteF ?_⟩
    refine ⟨_, rfl, a, dx, _, rfl, h1, (schF_no d ft).2.1, _, rfl, ra, _, rdx, _, _, rfl, r1, T.c_Record, T.n_Record_fields, recF_fields _ _ _ _, a, rft, d, fas, r.fields, rfl, hs, r3, r4, rok.fields, _, rfl, iteT ?_⟩
    exact ⟨_, rfl, ra, _, rdx, _, _, rfl, r1, T.c_Record, T.n_Record_words, recF_words _ _ _ _, wt, was, r.words, rfl, r5, r6, rok.words, k⟩
theorem sc_Schema_check : FnScope ["self", "record"] ["self", "record"] (defScope s_Schema_check) := ⟨rfl, rfl, rfl, by decide +kernel, rfl, by decide +kernel, by decide +kernel⟩
def sp_check (K : PySem.W.Frag) : Sp := fun vs H Q _ => ∃ (a ra : Addr) (d : SchD) (r : Rec), vs = [.ref a, .ref ra] ∧ SchAt K H a d ∧ d.Ok ∧ RecAt K H ra r ∧ RecOk d r ∧ Q .non H
theorem ok_check (T : Tx w K mg) : C8.Met P w K mg base 5 (He.ga K "Schema") "check" (sp_check K) [] := by
  have c_Schema_contains := ok_contains (P := P) (base := base) T
  refine met_mk (st := s_Schema_check) T.d_Schema_check T.c_Schema T.m_Schema_check sc_Schema_check (fun _ _ _ _ _ _ us hl => match us, hl with | [_, _], _ => rfl) (fun vs H Q E h => ?_) (fun f cdv A outer s H vs Q E hr h => ?_)
  · obtain ⟨a, ra, d, r, rfl, _⟩ := h
    rfl
  · obtain ⟨a, ra, d, r, rfl, hs, ok, hra, rok, k⟩ := h
    obtain ⟨dx, ft, t1, t2, h1, h2, h3, h4⟩ := hs.ex
    refine ⟨_, (pss_one (ps_if (pt_cmpR (op_notIn_own c_Schema_contains hr (by decide)) (pv 1) (pv 0) (by rfl))
        (pss_one (ps_never))
        pss_nil)), ?_⟩
    exact ⟨_, rfl, _, rfl, a, dx, _, rfl, h1, a, ra, d, r, rfl, hs, ok, hra, rok, _, rfl, _, rfl, iteF k⟩
end
end K94
/-! The instances that are made: norms, regions, segments, notes, records. -/
namespace K94
open PySem PySem.Spec PyProof.Rows L2
theorem mk_gr {F H0 : Hp} {x dx : Addr} {o : HO} (hF : Same F H0) (hx : H0 x = none) (hd : H0 dx = none) (n : dx ≠ x) (ho : NoTab o := by intro _ h; cases h) : Gr [] F H0 (upd F x o) (upd (upd H0 dx (.own x)) x o) := by
  have g1 : Gr [] F H0 F (upd H0 dx (.own x)) := (Gr.refl hF).made hd
  have nx : F x = none := hF.free hx
  have g2 : Gr [] F H0 F (upd (upd H0 dx (.own x)) x o) := g1.put nx (.inl hx) ho
  exact g2.told upd_same nx hx ho
def noteF (nm : Str) (num : Int) (ma : Addr) (di rc sg : V) (lv : Addr) : List (Str × V) := [("name", .str nm), ("number", .int num), ("mark", .ref ma), ("died", di), ("record", rc), ("segment", sg), ("leaves", .ref lv)]
section
variable {nm : Str} {num : Int} {ma : Addr} {di rc sg : V} {lv : Addr}
theorem noteF_name : (noteF nm num ma di rc sg lv).lookup ("name" : Str) = some (.str nm) := by kernel_rfl
theorem noteF_number : (noteF nm num ma di rc sg lv).lookup ("number" : Str) = some (.int num) := by kernel_rfl
theorem noteF_mark : (noteF nm num ma di rc sg lv).lookup ("mark" : Str) = some (.ref ma) := by kernel_rfl
theorem noteF_died : (noteF nm num ma di rc sg lv).lookup ("died" : Str) = some di := by kernel_rfl
theorem noteF_record : (noteF nm num ma di rc sg lv).lookup ("record" : Str) = some rc := by kernel_rfl
theorem noteF_segment : (noteF nm num ma di rc sg lv).lookup ("segment" : Str) = some sg := by kernel_rfl
theorem noteF_leaves : (noteF nm num ma di rc sg lv).lookup ("leaves" : Str) = some (.ref lv) := by kernel_rfl
theorem noteF_lives_at : (noteF nm num ma di rc sg lv).lookup ("lives_at" : Str) = none := by kernel_rfl
theorem noteF_closed_by : (noteF nm num ma di rc sg lv).lookup ("closed_by" : Str) = none := by kernel_rfl
theorem noteF_owned : (noteF nm num ma di rc sg lv).lookup ("owned" : Str) = none := by kernel_rfl
end
def segF (num shard : Int) (pa : Addr) : List (Str × V) := [("number", .int num), ("shard", .int shard), ("partitions", .ref pa)]
theorem segF_number (num shard : Int) (pa : Addr) : (segF num shard pa).lookup ("number" : Str) = some (.int num) := by kernel_rfl
theorem segF_shard (num shard : Int) (pa : Addr) : (segF num shard pa).lookup ("shard" : Str) = some (.int shard) := by kernel_rfl
theorem segF_partitions (num shard : Int) (pa : Addr) : (segF num shard pa).lookup ("partitions" : Str) = some (.ref pa) := by kernel_rfl
section
variable {P : Program} {w : World} {K : PySem.W.Frag} {mg : Str → Option Value} {base : Heap}
theorem sc_Norms_init : FnScope ["self", "low", "high"] ["self", "low", "high"] (defScope s_Norms_init) := ⟨rfl, rfl, rfl, by decide +kernel, rfl, by decide +kernel, by decide +kernel⟩
def sp_Norms_init (K : PySem.W.Frag) : Sp := fun vs H Q _ => ∃ (F H0 : Hp) (x dx : Addr) (u v : V), vs = [.ref x, u, v] ∧ Same F H0 ∧ H0 x = none ∧ H0 dx = none ∧ dx ≠ x ∧ H = upd (upd H0 dx (.own x)) x (.ins (He.ga K "Norms") dx []) ∧ ∀ F' H', Gr [] F H0 F' H' → Q .non H'
theorem ok_Norms_init (T : Tx w K mg) : C8.Mak P w K mg base 1 "Norms" (He.ga K "Norms") (sp_Norms_init K) [] := by
  refine mak_mk (st := s_Norms_init) T.d_Norms_init T.k_Norms T.g_Norms sc_Norms_init (fun _ _ _ _ _ _ us hl => match us, hl with | [_, _, _], _ => rfl) (fun vs H Q E h => ?_) (fun f cdv A outer s H vs Q E hr h => ?_)
  · obtain ⟨F, H0, x, dx, u, v, rfl, _⟩ := h
    rfl
  · obtain ⟨F, H0, x, dx, u, v, rfl, hF, hx, hd, n, rfl, k⟩ := h
    refine ⟨_, (pss_cons (ps_fld (pv 0) (pv 1) rfl)
      (pss_one (ps_fld (pv 0) (pv 2) rfl))), ?_⟩
    refine ⟨_, rfl, _, rfl, x, _, dx, _, rfl, upd_same, T.c_Norms, T.n_Norms_low, (by show 0 < 1000; decide), ?_⟩
    refine ⟨_, rfl, _, rfl, x, _, dx, _, rfl, upd_same, T.c_Norms, T.n_Norms_high, (by show 1 < 1000; decide), ?_⟩
    rw [upd_upd, upd_upd]
    exact k _ _ (mk_gr hF hx hd n)
theorem sc_Region_init : FnScope ["self", "parent", "facts"] ["self", "parent", "facts"] (defScope s_Region_init) := ⟨rfl, rfl, rfl, by decide +kernel, rfl, by decide +kernel, by decide +kernel⟩
def sp_Region_init (K : PySem.W.Frag) : Sp := fun vs H Q _ => ∃ (F H0 : Hp) (x dx fa : Addr) (u : V) (xs : List V), vs = [.ref x, u, .ref fa] ∧ Same F H0 ∧ H0 x = none ∧ H0 dx = none ∧ dx ≠ x ∧ H = upd (upd H0 dx (.own x)) x (.ins (He.ga K "Region") dx []) ∧ H0 fa = some (.lst xs) ∧ ∀ F' H', Gr [] F H0 F' H' → Q .non H'
theorem ok_Region_init (T : Tx w K mg) : C8.Mak P w K mg base 1 "Region" (He.ga K "Region") (sp_Region_init K) [] := by
  refine mak_mk (st := s_Region_init) T.d_Region_init T.k_Region T.g_Region sc_Region_init (fun _ _ _ _ _ _ us hl => match us, hl with | [_, _, _], _ => rfl) (fun vs H Q E h => ?_) (fun f cdv A outer s H vs Q E hr h => ?_)
  · obtain ⟨F, H0, x, dx, fa, u, xs, rfl, _⟩ := h
    rfl
  · obtain ⟨F, H0, x, dx, fa, u, xs, rfl, hF, hx, hd, n, rfl, hf, k⟩ := h
    refine ⟨_, (pss_cons (ps_fld (pv 0) (pv 1) rfl)
      (pss_one (ps_fld (pv 0) (pe_callTy (call_tuple_K (K := K) rfl) (by rfl) T.z_tuple (by decide +kernel) (pa_cons (pv 2) pa_nil)) rfl))), ?_⟩
    refine ⟨_, rfl, _, rfl, x, _, dx, _, rfl, upd_same, T.c_Region, T.n_Region_parent, (by show 0 < 1000; decide), ?_⟩
    rw [upd_upd]
    have g := mk_gr (o := .ins (He.ga K "Region") dx (putF "parent" u [])) hF hx hd n
    refine ⟨_, rfl, fa, _, rfl, .inl ⟨SqL.of (g.hh _ _ hf), fun q nq => ?_⟩⟩
    have nqx : q ≠ x := fun z => by
      rw [z, upd_same] at nq
      cases nq
    refine ⟨_, rfl, x, _, dx, _, rfl, by rw [upd_ne nqx.symm, upd_same], T.c_Region, T.n_Region_facts, (by show 1 < 1000; decide), ?_⟩
    have g2 : Gr [] F H0 F (upd H0 dx (.own x)) := (Gr.refl hF).made hd
    have g3 : Gr [] F H0 F (upd (upd H0 dx (.own x)) x (.ins (He.ga K "Region") dx (putF "parent" u []))) := g2.put (hF.free hx) (.inl hx)
    have g4 := g3.made (o := .tup xs) nq
    exact k _ _ (g4.put (hF.free hx) (.inl hx))
theorem sc_Segment_init : FnScope ["self", "number", "shard", "partitions", "regions"] ["self", "number", "shard", "partitions"] (defScope s_Segment_init) := ⟨rfl, rfl, rfl, by decide +kernel, rfl, by decide +kernel, by decide +kernel⟩
def sp_Segment_init (K : PySem.W.Frag) : Sp := fun vs H Q _ => ∃ (F H0 : Hp) (x dx pa ia : Addr) (num sh : Int) (xs : List V), vs = [.ref x, .int num, .int sh, .ref pa] ∧ Same F H0 ∧ H0 x = none ∧ H0 dx = none ∧ dx ≠ x ∧ H = upd (upd H0 dx (.own x)) x (.ins (He.ga K "Segment") dx []) ∧ H0 pa = some (.tup [.ref ia]) ∧ H0 ia = some (.tup xs) ∧
  ∀ F' H' p, Gr [] F H0 F' H' → F' x = some (.ins (He.ga K "Segment") dx (segF num sh p)) → F' p = some (.tup [.ref ia]) → Q .non H'
theorem ok_Segment_init (T : Tx w K mg) : C8.Mak P w K mg base 1 "Segment" (He.ga K "Segment") (sp_Segment_init K) [] := by
  refine mak_mk (st := s_Segment_init) T.d_Segment_init T.k_Segment T.g_Segment sc_Segment_init (fun _ _ _ _ _ _ us hl => match us, hl with | [_, _, _, _], _ => rfl) (fun vs H Q E h => ?_) (fun f cdv A outer s H vs Q E hr h => ?_)
  · obtain ⟨F, H0, x, dx, pa, ia, num, sh, xs, rfl, _⟩ := h
    rfl
  · obtain ⟨F, H0, x, dx, pa, ia, num, sh, xs, rfl, hF, hx, hd, n, rfl, hp, hi, k⟩ := h
    refine ⟨_, (pss_cons (ps_fld (pv 0) (pv 1) rfl)
      (pss_cons (ps_fld (pv 0) (pv 2) rfl)
      (pss_one (ps_fld (pv 0) (pe_callTy (call_tuple_K (K := K) rfl) (by rfl) T.z_tuple (by decide +kernel) (pa_cons (pe_lc (own := [("regions", 4)]) (g := gName 4) (tt := tYes) rfl sc_Segment_init.nd (pi_tup (pv 3)) (blkOk_by (N := ["self", "number", "shard", "partitions", "regions"]) (sc := defScope s_Segment_init) (by decide +kernel)) (fun _ _ _ _ _ => pg_name (i := 4) sc_Segment_init.nd rfl (.inl rfl)) (fun _ _ _ _ _ => pts_nil) (fun _ _ _ _ _ => (pe_callTy (call_tuple_K (K := K) rfl) (by rfl) T.z_tuple (by decide +kernel) (pa_cons (pv 4) pa_nil)))) pa_nil)) rfl)))), ?_⟩
    refine ⟨_, rfl, _, rfl, x, _, dx, _, rfl, upd_same, T.c_Segment, T.n_Segment_number, (by show 0 < 1000; decide), ?_⟩
    refine ⟨_, rfl, _, rfl, x, _, dx, _, rfl, upd_same, T.c_Segment, T.n_Segment_shard, (by show 1 < 1000; decide), ?_⟩
    rw [upd_upd, upd_upd]
    have g3 : Gr [] F H0 F (upd (upd H0 dx (.own x)) x (.ins (He.ga K "Segment") dx (putF "shard" (.int sh) (putF "number" (.int num) [])))) := ((Gr.refl hF).made hd).put (hF.free hx) (.inl hx)
    generalize hH3 : upd (upd H0 dx (.own x)) x (.ins (He.ga K "Segment") dx (putF "shard" (.int sh) (putF "number" (.int num) []))) = H3 at *
    have hx3 : H3 x = some (.ins (He.ga K "Segment") dx (putF "shard" (.int sh) (putF "number" (.int num) []))) := by
      rw [← hH3]
      exact upd_same
    refine ⟨_, rfl, pa, rfl, ⟨_, .inl (.inl (g3.hh _ _ hp))⟩, fun D nD => ?_⟩
    refine lc_pure walk_tup nD (fun i v => [V.ref ia][i]? = some v) (fun H4 q => .inl (.inl (q _ _ (g3.hh _ _ hp)))) (fun _ _ _ _ y => y) [V.ref ia] rfl (by show 1 ≤ 100000; decide) (fun z => some z) (fun i v z H4 Qn Qy rv hz s1 hn hy => ?_) (fun H4 s1 e => ?_)
    · have hv : v = .ref ia ∧ z = .ref ia := by
        match i, rv, hz with
        | 0, rv, hz => exact ⟨(Option.some.inj rv).symm, (Option.some.inj hz).symm⟩
        | i + 1, rv, _ => simp at rv
      obtain ⟨rfl, rfl⟩ := hv
      refine ⟨rfl, lc_yes ?_⟩
      exact ⟨_, rfl, ia, _, rfl, .inr ⟨.inl (.inl (s1 _ _ (g3.hh _ _ hi))), hy _ rfl H4 (Same.refl _)⟩⟩
    · refine ⟨D, _, rfl, .inl ⟨SqL.of e, fun q nq => ?_⟩⟩
      have nqx : q ≠ x := fun z => by
        rw [z, s1 _ _ hx3] at nq
        cases nq
      refine ⟨_, rfl, x, _, dx, _, rfl, by rw [upd_ne nqx.symm]; exact s1 _ _ hx3, T.c_Segment, T.n_Segment_partitions, (by show 2 < 1000; decide), ?_⟩
      have g4 : Gr [] F H0 F H4 := g3.trans (Gr.same g3.fh s1)
      have g5 : Gr [] F H0 (upd F q (.tup [V.ref ia])) (upd H4 q (.tup [V.ref ia])) := g4.trans (Gr.tell g4.fh nq)
      have nx2 : (upd F q (.tup [V.ref ia])) x = none := by rw [upd_ne nqx.symm]; exact hF.free hx
      have g6 := g5.put (o := .ins (He.ga K "Segment") dx (segF num sh q)) nx2 (.inl hx)
      refine k _ _ q (g6.told upd_same nx2 hx) upd_same ?_
      rw [upd_ne nqx, upd_same]
/-! ### notes -/
theorem sc_Note_init : FnScope ["self", "name", "number", "mark", "died", "record", "segment", "leaves"] ["self", "name", "number", "mark", "died", "record", "segment", "leaves"] (defScope s_Note_init) := ⟨rfl, rfl, rfl, by decide +kernel, rfl, by decide +kernel, by decide +kernel⟩
def sp_Note_init (K : PySem.W.Frag) : Sp := fun vs H Q _ => ∃ (F H0 : Hp) (x dx : Addr) (nm : Str) (num : Int) (ma : Addr) (di rc sg : V) (lv : Addr) (xs : List V), vs = [.ref x, .str nm, .int num, .ref ma, di, rc, sg, .ref lv] ∧ Same F H0 ∧ H0 x = none ∧ H0 dx = none ∧ dx ≠ x ∧
  H = upd (upd H0 dx (.own x)) x (.ins (He.ga K "Note") dx []) ∧ SqT K H0 lv xs ∧ ∀ F' H', Gr [] F H0 F' H' → F' x = some (.ins (He.ga K "Note") dx (noteF nm num ma di rc sg lv)) → Q .non H'
theorem ok_Note_init (T : Tx w K mg) : Ini P w K mg base 1 (He.ma K (He.ga K "Note") "__init__") "Note.__init__" ["self", "name", "number", "mark", "died", "record", "segment", "leaves"] s_Note_init [("died", .non), ("record", .non), ("segment", .non), ("leaves", .ref (kwAt ("Note", some "__init__") "leaves" K))] (sp_Note_init K) := by
  refine ini_mk (st := s_Note_init) T.d_Note_init sc_Note_init (fun vs H Q E h => ?_) (fun f cdv A outer s H vs Q E hr h => ?_)
  · obtain ⟨F, H0, x, dx, nm, num, ma, di, rc, sg, lv, xs, rfl, _⟩ := h
    rfl
  · obtain ⟨F, H0, x, dx, nm, num, ma, di, rc, sg, lv, xs, rfl, hF, hx, hd, n, rfl, hl, k⟩ := h
    refine ⟨_, (pss_cons (ps_fld (pv 0) (pv 1) rfl)
      (pss_cons (ps_fld (pv 0) (pv 2) rfl)
      (pss_cons (ps_fld (pv 0) (pv 3) rfl)
      (pss_cons (ps_fld (pv 0) (pv 4) rfl)
      (pss_cons (ps_fld (pv 0) (pv 5) rfl)
      (pss_cons (ps_fld (pv 0) (pv 6) rfl)
      (pss_one (ps_fld (pv 0) (pe_callTy (call_tuple_K (K := K) rfl) (by rfl) T.z_tuple (by decide +kernel) (pa_cons (pv 7) pa_nil)) rfl)))))))), ?_⟩
    refine ⟨_, rfl, _, rfl, x, _, dx, _, rfl, upd_same, T.c_Note, T.n_Note_name, (by show 0 < 1000; decide), ?_⟩
    refine ⟨_, rfl, _, rfl, x, _, dx, _, rfl, upd_same, T.c_Note, T.n_Note_number, (by show 1 < 1000; decide), ?_⟩
    refine ⟨_, rfl, _, rfl, x, _, dx, _, rfl, upd_same, T.c_Note, T.n_Note_mark, (by show 2 < 1000; decide), ?_⟩
    refine ⟨_, rfl, _, rfl, x, _, dx, _, rfl, upd_same, T.c_Note, T.n_Note_died, (by show 3 < 1000; decide), ?_⟩
    refine ⟨_, rfl, _, rfl, x, _, dx, _, rfl, upd_same, T.c_Note, T.n_Note_record, (by show 4 < 1000; decide), ?_⟩
    refine ⟨_, rfl, _, rfl, x, _, dx, _, rfl, upd_same, T.c_Note, T.n_Note_segment, (by show 5 < 1000; decide), ?_⟩
    repeat rw [upd_upd]
    refine ⟨_, rfl, lv, _, rfl, .inr ⟨sqT_same ((mk_gr hF hx hd n).hh) hl, ?_⟩⟩
    refine ⟨_, rfl, x, _, dx, _, rfl, upd_same, T.c_Note, T.n_Note_leaves, (by show 6 < 1000; decide), ?_⟩
    rw [upd_upd]
    exact k _ _ (mk_gr (o := .ins (He.ga K "Note") dx (noteF nm num ma di rc sg lv)) hF hx hd n) upd_same
end
end K94
/-! Classes that are called with keywords. -/
namespace K94
open PySem PySem.Spec PyProof.Rows L2
section
variable {P : Program} {w : World} {K : PySem.W.Frag} {mg : Str → Option Value} {base : Heap}
theorem mkn_of {q x : Str} {C f : Addr} {st : Stmt} {ps ks : List Str} {k n : Nat} {kw ms : List (Str × V)} {sp : Sp} (I : Ini P w K mg base k f q ps st kw sp) (M : Mk K C f) (hm : mg x = some (.ref C)) (hk : kw ≠ []) (hms : ∀ q ∈ ms, q ∈ kw) (g : {α : Type} → List α → List α → List α → List α)
    (hrel : ∀ {vs mz zs : List V} {us mv ws : List Value}, Vals vs us → Vals mz mv → Vals zs ws → Vals (g vs mz zs) (g us mv ws))
    (h : ∀ (D : Addr) (doc pm : Value) (an : Option Addr) (cdv ct : Value) (us mv ws : List Value), us.length = n + 1 → mv.length = ms.length → ws.length = ks.length →
      KwChain D ((ms.map (·.1)).zip mv) (bindArgs (PySem.W.fnOf "__init__" q (defArgs st) (defBody st) (defScope st) .none (.ref D) doc pm an cdv ct) ⟨us, ks.zip ws⟩) (ps.zip (g us mv ws))) : MakN P w K mg base k x C n ks (fun vs zs => g vs (ms.map (·.2)) zs) sp := by
  obtain ⟨fd, F, ok⟩ := I.ex
  obtain ⟨mv, kb⟩ := F.kbinds0 (ps := ps) (n + 1) ks ms g hk hms hrel h
  exact ⟨f, fd, ps, _, M, ok, hm, kb⟩
theorem mk_Schema (T : Tx w K mg) : MakN P w K mg base 3 "Schema" (He.ga K "Schema") 1 ["width", "measure", "fields"] (fun vs zs => vs ++ zs) (sp_Schema_init K) := by
  refine mkn_of (ms := []) (ok_Schema_init (P := P) (base := base) T) T.k_Schema T.g_Schema (by simp) (by simp) (fun us mv ws => us ++ ws) (fun r1 _ r3 => r1.append r3) (fun D doc pm an cdv ct us mv ws h1 h2 h3 => ?_)
  match us, h1, ws, h3 with
  | [u1, u2], _, [w1, w2, w3], _ => rfl
theorem vals_take {vs : List V} {us : List Value} (r : Vals vs us) : ∀ n, Vals (vs.take n) (us.take n) := by
  induction r with
  | nil => intro n; cases n <;> exact .nil
  | cons h t ih =>
    intro n
    cases n with
    | zero => exact .nil
    | succ n => exact .cons h (ih n)
theorem mk_Note4 (T : Tx w K mg) : MakN P w K mg base 1 "Note" (He.ga K "Note") 3 ["died", "record", "segment", "leaves"] (fun vs zs => vs ++ zs) (sp_Note_init K) := by
  refine mkn_of (ms := []) (ok_Note_init (P := P) (base := base) T) T.k_Note T.g_Note (by simp) (by simp) (fun us mv ws => us ++ ws) (fun r1 _ r3 => r1.append r3) (fun D doc pm an cdv ct us mv ws h1 h2 h3 => ?_)
  match us, h1, ws, h3 with
  | [u1, u2, u3, u4], _, [w1, w2, w3, w4], _ => rfl
theorem mk_Note3 (T : Tx w K mg) : MakN P w K mg base 1 "Note" (He.ga K "Note") 3 ["died", "segment", "leaves"] (fun vs zs => vs ++ (zs.take 1 ++ ([.non] ++ zs.drop 1))) (sp_Note_init K) := by
  refine mkn_of (ms := [("record", .non)]) (ok_Note_init (P := P) (base := base) T) T.k_Note T.g_Note (by simp) (by simp) (fun us mv ws => us ++ (ws.take 1 ++ (mv ++ ws.drop 1))) (fun r1 r2 r3 => r1.append ((vals_take r3 1).append (r2.append (r3.drop 1)))) (fun D doc pm an cdv ct us mv ws h1 h2 h3 => ?_)
  match us, h1, mv, h2, ws, h3 with
  | [u1, u2, u3, u4], _, [m1], _, [w1, w2, w3], _ => exact ⟨_, _, _, _, _, _, rfl, rfl, rfl⟩
theorem mk_Note1 (T : Tx w K mg) : MakN P w K mg base 1 "Note" (He.ga K "Note") 3 ["record"] (fun vs zs => vs ++ ([.non] ++ (zs ++ [.non, .ref (kwAt ("Note", some "__init__") "leaves" K)]))) (sp_Note_init K) := by
  refine mkn_of (ms := [("died", .non), ("segment", .non), ("leaves", .ref (kwAt ("Note", some "__init__") "leaves" K))]) (ok_Note_init (P := P) (base := base) T) T.k_Note T.g_Note (by simp) (by simp) (fun us mv ws => us ++ (mv.take 1 ++ (ws ++ mv.drop 1))) (fun r1 r2 r3 => r1.append ((vals_take r2 1).append (r3.append (r2.drop 1)))) (fun D doc pm an cdv ct us mv ws h1 h2 h3 => ?_)
  match us, h1, mv, h2, ws, h3 with
  | [u1, u2, u3, u4], _, [m1, m2, m3], _, [w1], _ => exact ⟨_, _, _, _, _, _, rfl, rfl, _, _, _, _, _, _, rfl, rfl, _, _, _, _, _, _, rfl, rfl, rfl⟩
theorem sc_Note_closed_by : FnScope ["self", "number"] ["self", "number"] (defScope s_Note_closed_by) := ⟨rfl, rfl, rfl, by decide +kernel, rfl, by decide +kernel, by decide +kernel⟩
def sp_closed_by (K : PySem.W.Frag) : Sp := fun vs H Q _ => ∃ (F : Hp) (a dx : Addr) (nm : Str) (num : Int) (ma : Addr) (di rc sg : V) (lv : Addr) (xs : List V) (n : Int), vs = [.ref a, .int n] ∧ Same F H ∧ H a = some (.ins (He.ga K "Note") dx (noteF nm num ma di rc sg lv)) ∧ SqT K H lv xs ∧
  ∀ F' H' b dx', Gr [] F H F' H' → F' b = some (.ins (He.ga K "Note") dx' (noteF nm num ma (.int n) rc sg lv)) → Q (.ref b) H'
theorem ok_closed_by (T : Tx w K mg) : C8.Met P w K mg base 3 (He.ga K "Note") "closed_by" (sp_closed_by K) [] := by
  have c_Note := mk_Note4 (P := P) (base := base) T
  refine met_mk (st := s_Note_closed_by) T.d_Note_closed_by T.c_Note T.m_Note_closed_by sc_Note_closed_by (fun _ _ _ _ _ _ us hl => match us, hl with | [_, _], _ => rfl) (fun vs H Q E h => ?_) (fun f cdv A outer s H vs Q E hr h => ?_)
  · obtain ⟨F, a, dx, nm, num, ma, di, rc, sg, lv, xs, n, rfl, _⟩ := h
    rfl
  · obtain ⟨F, a, dx, nm, num, ma, di, rc, sg, lv, xs, n, rfl, hF, ha, hl, k⟩ := h
    refine ⟨_, (pss_one (ps_ret (pe_mkN c_Note hr (by decide) (by rfl) (pa_cons (pe_fldK (K := K) rfl (pv 0) rfl) (pa_cons (pe_fldK (K := K) rfl (pv 0) rfl) (pa_cons (pe_fldK (K := K) rfl (pv 0) rfl) pa_nil))) (pk_cons (pv 1) (pk_cons (pe_fldK (K := K) rfl (pv 0) rfl) (pk_cons (pe_fldK (K := K) rfl (pv 0) rfl) (pk_cons (pe_fldK (K := K) rfl (pv 0) rfl) pk_nil))))))), ?_⟩
    refine ⟨_, rfl, a, _, dx, _, _, rfl, ha, T.c_Note, T.n_Note_name, noteF_name, ?_⟩
    refine ⟨_, rfl, a, _, dx, _, _, rfl, ha, T.c_Note, T.n_Note_number, noteF_number, ?_⟩
    refine ⟨_, rfl, a, _, dx, _, _, rfl, ha, T.c_Note, T.n_Note_mark, noteF_mark, ?_⟩
    refine ⟨_, rfl, ?_⟩
    refine ⟨_, rfl, a, _, dx, _, _, rfl, ha, T.c_Note, T.n_Note_record, noteF_record, ?_⟩
    refine ⟨_, rfl, a, _, dx, _, _, rfl, ha, T.c_Note, T.n_Note_segment, noteF_segment, ?_⟩
    refine ⟨_, rfl, a, _, dx, _, _, rfl, ha, T.c_Note, T.n_Note_leaves, noteF_leaves, ?_⟩
    refine ⟨rfl, rfl, fun x dx2 hx hd hn => ?_⟩
    exact ⟨F, H, x, dx2, nm, num, ma, .int n, rc, sg, lv, xs, rfl, hF, hx, hd, hn, rfl, hl, fun F' H' g e => ⟨rfl, k F' H' x dx2 g e⟩⟩
theorem sc_Note_owned : FnScope ["self", "segment", "leaves"] ["self", "segment", "leaves"] (defScope s_Note_owned) := ⟨rfl, rfl, rfl, by decide +kernel, rfl, by decide +kernel, by decide +kernel⟩
def sp_owned (K : PySem.W.Frag) : Sp := fun vs H Q _ => ∃ (F : Hp) (a dx : Addr) (nm : Str) (num : Int) (ma : Addr) (di rc sg : V) (lv lv2 : Addr) (xs : List V) (n : Int), vs = [.ref a, .int n, .ref lv2] ∧ Same F H ∧ H a = some (.ins (He.ga K "Note") dx (noteF nm num ma di rc sg lv)) ∧ SqT K H lv2 xs ∧
  ∀ F' H' b dx', Gr [] F H F' H' → F' b = some (.ins (He.ga K "Note") dx' (noteF nm num ma di .non (.int n) lv2)) → Q (.ref b) H'
theorem ok_owned (T : Tx w K mg) : C8.Met P w K mg base 3 (He.ga K "Note") "owned" (sp_owned K) [] := by
  have c_Note := mk_Note3 (P := P) (base := base) T
  refine met_mk (st := s_Note_owned) T.d_Note_owned T.c_Note T.m_Note_owned sc_Note_owned (fun _ _ _ _ _ _ us hl => match us, hl with | [_, _, _], _ => rfl) (fun vs H Q E h => ?_) (fun f cdv A outer s H vs Q E hr h => ?_)
  · obtain ⟨F, a, dx, nm, num, ma, di, rc, sg, lv, lv2, xs, n, rfl, _⟩ := h
    rfl
  · obtain ⟨F, a, dx, nm, num, ma, di, rc, sg, lv, lv2, xs, n, rfl, hF, ha, hl, k⟩ := h
    refine ⟨_, (pss_one (ps_ret (pe_mkN c_Note hr (by decide) (by rfl) (pa_cons (pe_fldK (K := K) rfl (pv 0) rfl) (pa_cons (pe_fldK (K := K) rfl (pv 0) rfl) (pa_cons (pe_fldK (K := K) rfl (pv 0) rfl) pa_nil))) (pk_cons (pe_fldK (K := K) rfl (pv 0) rfl) (pk_cons (pv 1) (pk_cons (pv 2) pk_nil)))))), ?_⟩
    refine ⟨_, rfl, a, _, dx, _, _, rfl, ha, T.c_Note, T.n_Note_name, noteF_name, ?_⟩
    refine ⟨_, rfl, a, _, dx, _, _, rfl, ha, T.c_Note, T.n_Note_number, noteF_number, ?_⟩
    refine ⟨_, rfl, a, _, dx, _, _, rfl, ha, T.c_Note, T.n_Note_mark, noteF_mark, ?_⟩
    refine ⟨_, rfl, a, _, dx, _, _, rfl, ha, T.c_Note, T.n_Note_died, noteF_died, ?_⟩
    refine ⟨_, rfl, _, rfl, ?_⟩
    refine ⟨rfl, rfl, fun x dx2 hx hd hn => ?_⟩
    exact ⟨F, H, x, dx2, nm, num, ma, di, .non, .int n, lv2, xs, rfl, hF, hx, hd, hn, rfl, hl, fun F' H' g e => ⟨rfl, k F' H' x dx2 g e⟩⟩
/-! ### does a note live at a moment -/
def oV : Option Int → V
  | none => .non
  | some n => .int n
def livesAt (num : Int) (died : Option Int) (m : Int) : Bool := decide (num ≤ m) && (match died with
  | none => true
  | some d => decide (m < d))
theorem sc_Note_lives_at : FnScope ["self", "moment"] ["self", "moment"] (defScope s_Note_lives_at) := ⟨rfl, rfl, rfl, by decide +kernel, rfl, by decide +kernel, by decide +kernel⟩
def sp_lives_at (K : PySem.W.Frag) : Sp := fun vs H Q _ => ∃ (a dx : Addr) (nm : Str) (num : Int) (ma : Addr) (di : Option Int) (rc sg : V) (lv : Addr) (n : Int), vs = [.ref a, .int n] ∧ H a = some (.ins (He.ga K "Note") dx (noteF nm num ma (oV di) rc sg lv)) ∧ Q (.bl (livesAt num di n)) H
theorem ok_lives_at (T : Tx w K mg) : C8.Met P w K mg base 1 (He.ga K "Note") "lives_at" (sp_lives_at K) [] := by
  refine met_mk (st := s_Note_lives_at) T.d_Note_lives_at T.c_Note T.m_Note_lives_at sc_Note_lives_at (fun _ _ _ _ _ _ us hl => match us, hl with | [_, _], _ => rfl) (fun vs H Q E h => ?_) (fun f cdv A outer s H vs Q E hr h => ?_)
  · obtain ⟨a, dx, nm, num, ma, di, rc, sg, lv, n, rfl, _⟩ := h
    rfl
  · obtain ⟨a, dx, nm, num, ma, di, rc, sg, lv, n, rfl, ha, k⟩ := h
    refine ⟨_, (pss_one (ps_ret (pe_and (pe_cmpR op_le (pe_fldK (K := K) rfl (pv 0) rfl) (pv 1) (nomark _)) (pe_one (pe_or (pe_cmpR op_isN (pe_fldK (K := K) rfl (pv 0) rfl) pe_non (nomark _)) (pe_one (pe_cmpR op_lt (pv 1) (pe_fldK (K := K) rfl (pv 0) rfl) (nomark _)))))))), ?_⟩
    refine ⟨_, rfl, a, _, dx, _, _, rfl, ha, T.c_Note, T.n_Note_number, noteF_number, _, rfl, _, _, rfl, rfl, _, rfl, ?_⟩
    refine ite_b (fun h1 => ?_) (fun h1 => ?_)
    · have h2 : num ≤ n := of_decide_eq_true h1
      cases di with
      | none =>
        refine ⟨_, rfl, a, _, dx, _, _, rfl, ha, T.c_Note, T.n_Note_died, noteF_died, rfl, _, rfl, iteT ?_⟩
        have e : livesAt num none n = true := by simp [livesAt, h2]
        rw [e] at k
        exact k
      | some d =>
        refine ⟨_, rfl, a, _, dx, _, _, rfl, ha, T.c_Note, T.n_Note_died, noteF_died, rfl, _, rfl, iteF ?_⟩
        refine ⟨_, rfl, _, rfl, a, _, dx, _, _, rfl, ha, T.c_Note, T.n_Note_died, noteF_died, _, _, rfl, rfl, ?_⟩
        have e : livesAt num (some d) n = decide (n < d) := by simp [livesAt, h2]
        rw [e] at k
        exact k
    · have h2 : ¬ num ≤ n := of_decide_eq_false h1
      have e : livesAt num di n = false := by simp [livesAt, h2]
      rw [e] at k
      exact k
/-! ### records -/
theorem sc_Record_init : FnScope ["self", "name", "vector", "fields", "words", "field", "worth", "word", "count"] ["self", "name", "vector", "fields", "words"] (defScope s_Record_init) := ⟨rfl, rfl, rfl, by decide +kernel, rfl, by decide +kernel, by decide +kernel⟩
def sp_Record_init (K : PySem.W.Frag) : Sp := fun vs H Q _ => ∃ (F H0 : Hp) (x dx va fa wa : Addr) (fas was : List Addr) (r : Rec), vs = [.ref x, .str r.name, .ref va, .ref fa, .ref wa] ∧ Small r ∧ Same F H0 ∧ H0 x = none ∧ H0 dx = none ∧ dx ≠ x ∧ H = upd (upd H0 dx (.own x)) x (.ins (He.ga K "Record") dx []) ∧
  H0 va = some (.lst (r.vec.map V.int)) ∧ H0 fa = some (.lst (fas.map V.ref)) ∧ Paired (FAt F) fas r.fields ∧ H0 wa = some (.lst (was.map V.ref)) ∧ Paired (WAt F) was r.words ∧ ∀ F' H', Gr [] F H0 F' H' → RecAt K F' x r → Q .non H'
theorem ok_Record_init (T : Tx w K mg) : Ini P w K mg base 1 (He.ma K (He.ga K "Record") "__init__") "Record.__init__" ["self", "name", "vector", "fields", "words"] s_Record_init [("fields", .ref (kwAt ("Record", some "__init__") "fields" K))] (sp_Record_init K) := by
  refine ini_mk (st := s_Record_init) T.d_Record_init sc_Record_init (fun vs H Q E h => ?_) (fun f cdv A outer s H vs Q E hr h => ?_)
  · obtain ⟨F, H0, x, dx, va, fa, wa, fas, was, r, rfl, _⟩ := h
    rfl
  · obtain ⟨F, H0, x, dx, va, fa, wa, fas, was, r, rfl, sm, hF, hx, hd, n, rfl, hv, hf, pf, hw, pw, k⟩ := h
    refine ⟨_, (pss_cons (ps_fld (pv 0) (pv 1) rfl)
      (pss_cons (ps_fld (pv 0) (pe_callTy (call_tuple_K (K := K) rfl) (by rfl) T.z_tuple (by decide +kernel) (pa_cons (pv 2) pa_nil)) rfl)
      (pss_cons (ps_fld (pv 0) (pe_callTy (call_tuple_K (K := K) rfl) (by rfl) T.z_tuple (by decide +kernel) (pa_cons (pe_lc (own := [("field", 5), ("worth", 6)]) (g := gTup K 2 (gCons (gName 5) (gCons (gName 6) gNil))) (tt := tYes) rfl sc_Record_init.nd (pi_list (pv 3)) (blkOk_by (N := ["self", "name", "vector", "fields", "words", "field", "worth", "word", "count"]) (sc := defScope s_Record_init) (by decide +kernel)) (fun _ _ _ _ _ => (pg_tup rfl (pgs_cons (pg_name (i := 5) sc_Record_init.nd rfl (.inl rfl) (.inr rfl)) (pgs_cons (pg_name (i := 6) sc_Record_init.nd rfl (.inl rfl) (.inr rfl)) pgs_nil)))) (fun _ _ _ _ _ => pts_nil) (fun _ _ _ _ _ => (pe_tup (pa_cons (pv 5) (pa_cons (pv 6) pa_nil))))) pa_nil)) rfl)
      (pss_one (ps_fld (pv 0) (pe_callTy (call_tuple_K (K := K) rfl) (by rfl) T.z_tuple (by decide +kernel) (pa_cons (pe_lc (own := [("word", 7), ("count", 8)]) (g := gTup K 2 (gCons (gName 7) (gCons (gName 8) gNil))) (tt := tYes) rfl sc_Record_init.nd (pi_list (pv 4)) (blkOk_by (N := ["self", "name", "vector", "fields", "words", "field", "worth", "word", "count"]) (sc := defScope s_Record_init) (by decide +kernel)) (fun _ _ _ _ _ => (pg_tup rfl (pgs_cons (pg_name (i := 7) sc_Record_init.nd rfl (.inl rfl) (.inr rfl)) (pgs_cons (pg_name (i := 8) sc_Record_init.nd rfl (.inl rfl) (.inr rfl)) pgs_nil)))) (fun _ _ _ _ _ => pts_nil) (fun _ _ _ _ _ => (pe_tup (pa_cons (pv 7) (pa_cons (pv 8) pa_nil))))) pa_nil)) rfl))))), ?_⟩
    have lf := pf.length
    have lw := pw.length
    have sf := sm.fields
    have sw := sm.words
    have nx : F x = none := hF.free hx
    refine ⟨_, rfl, _, rfl, x, _, dx, _, rfl, upd_same, T.c_Record, T.n_Record_name, (by show 0 < 1000; decide), ?_⟩
    rw [upd_upd]
    have g1 : Gr [] F H0 F (upd (upd H0 dx (.own x)) x (.ins (He.ga K "Record") dx (putF "name" (.str r.name) []))) := ((Gr.refl hF).made hd).put nx (.inl hx)
    refine ⟨_, rfl, va, _, rfl, .inl ⟨SqL.of (g1.hh _ _ hv), fun q nq => ?_⟩⟩
    have nqx : q ≠ x := fun z => by
      rw [z, upd_same] at nq
      cases nq
    have g2 := g1.trans (Gr.tell (o := .tup (r.vec.map V.int)) g1.fh nq)
    have nx2 : (upd F q (.tup (r.vec.map V.int))) x = none := by rw [upd_ne nqx.symm]; exact nx
    refine ⟨_, rfl, x, _, dx, _, rfl, by rw [upd_ne nqx.symm, upd_same], T.c_Record, T.n_Record_vector, (by show 1 < 1000; decide), ?_⟩
    have g3 := g2.put (o := .ins (He.ga K "Record") dx (putF "vector" (.ref q) (putF "name" (.str r.name) []))) nx2 (.inl hx)
    have hq3 : (upd F q (.tup (r.vec.map V.int))) q = some (.tup (r.vec.map V.int)) := upd_same
    generalize hF3 : upd F q (.tup (r.vec.map V.int)) = F3 at *
    generalize hH3 : upd (upd (upd (upd H0 dx (.own x)) x (.ins (He.ga K "Record") dx (putF "name" (.str r.name) []))) q (.tup (r.vec.map V.int))) x (.ins (He.ga K "Record") dx (putF "vector" (.ref q) (putF "name" (.str r.name) []))) = H3 at *
    have hx3 : H3 x = some (.ins (He.ga K "Record") dx (putF "vector" (.ref q) (putF "name" (.str r.name) []))) := by
      rw [← hH3]
      exact upd_same
    refine ⟨_, rfl, fa, rfl, ⟨_, SqL.of (g3.hh _ _ hf)⟩, fun D nD => ?_⟩
    refine lc_grow walk_list nD g3.fh (fun i w => (fas.map V.ref)[i]? = some w) (fun H4 q => SqL.of (q _ _ (g3.hh _ _ hf))) (fun _ _ _ _ y => y) r.fields (by rw [List.length_map]; exact lf.symm) (by rw [List.length_map]; omega) (fun z => some z) FAt (fun s e => s _ _ e) ?_ ?_
    · intro i w z Fi H4 Qn Qy rv hzz gr hn hy
      obtain ⟨t, ht, rfl⟩ := map_at rv
      obtain ⟨z', hz', rz⟩ := paired_at pf ht
      have ez : z' = z := Option.some.inj (hz'.symm.trans hzz)
      subst ez
      refine ⟨t, _, rfl, .inl (.inl (gr.hh _ _ (g3.fh _ _ (g3.ff _ _ rz)))), rfl, _, _, rfl, _, _, rfl, rfl, rfl, lc_yes ?_⟩
      refine ⟨_, rfl, _, rfl, (by show 2 ≤ sizeLine; decide), fun p np => ?_⟩
      exact hy _ rfl p _ _ (Gr.tell gr.fh np) upd_same
    intro F4 H4 ps gr nF e pr
    rw [List.filterMap_some] at pr
    refine ⟨D, _, rfl, .inl ⟨SqL.of e, fun q4 nq4 => ?_⟩⟩
    have g4 := g3.trans gr
    have g5 := g4.trans (Gr.tell (o := .tup (ps.map V.ref)) g4.fh nq4)
    have nq4x : q4 ≠ x := fun z => by
      rw [z, gr.hh _ _ hx3] at nq4
      cases nq4
    have nx4 : F4 x = none := gr.out hx3 nx2
    refine ⟨_, rfl, x, _, dx, _, rfl, by rw [upd_ne nq4x.symm]; exact gr.hh _ _ hx3, T.c_Record, T.n_Record_fields, (by show 2 < 1000; decide), ?_⟩
    have nx5 : (upd F4 q4 (.tup (ps.map V.ref))) x = none := by rw [upd_ne nq4x.symm]; exact nx4
    have g6 := g5.put (o := .ins (He.ga K "Record") dx (putF "fields" (.ref q4) (putF "vector" (.ref q) (putF "name" (.str r.name) [])))) nx5 (.inl hx)
    have hq6 : (upd F4 q4 (.tup (ps.map V.ref))) q4 = some (.tup (ps.map V.ref)) := upd_same
    have pr6 : Paired (FAt (upd F4 q4 (.tup (ps.map V.ref)))) ps r.fields := Paired.mono (fun _ _ z => same_new (g4.fh.free nq4) _ _ z) pr
    have hv6 : (upd F4 q4 (.tup (ps.map V.ref))) q = some (.tup (r.vec.map V.int)) := same_new (g4.fh.free nq4) _ _ (gr.ff _ _ hq3)
    have hw6 : Same F (upd F4 q4 (.tup (ps.map V.ref))) := g6.ff
    generalize hF6 : upd F4 q4 (.tup (ps.map V.ref)) = F6 at *
    generalize hH6 : upd (upd H4 q4 (.tup (ps.map V.ref))) x (.ins (He.ga K "Record") dx (putF "fields" (.ref q4) (putF "vector" (.ref q) (putF "name" (.str r.name) [])))) = H6 at *
    have hx6 : H6 x = some (.ins (He.ga K "Record") dx (putF "fields" (.ref q4) (putF "vector" (.ref q) (putF "name" (.str r.name) [])))) := by
      rw [← hH6]
      exact upd_same
    refine ⟨_, rfl, wa, rfl, ⟨_, SqL.of (g6.hh _ _ hw)⟩, fun D2 nD2 => ?_⟩
    refine lc_grow walk_list nD2 g6.fh (fun i w => (was.map V.ref)[i]? = some w) (fun H4 q => SqL.of (q _ _ (g6.hh _ _ hw))) (fun _ _ _ _ y => y) r.words (by rw [List.length_map]; exact lw.symm) (by rw [List.length_map]; omega) (fun z => some z) WAt (fun s e => s _ _ e) ?_ ?_
    · intro i w z Fi H4 Qn Qy rv hzz gr hn hy
      obtain ⟨t, ht, rfl⟩ := map_at rv
      obtain ⟨z', hz', rz⟩ := paired_at pw ht
      have ez : z' = z := Option.some.inj (hz'.symm.trans hzz)
      subst ez
      refine ⟨t, _, rfl, .inl (.inl (gr.hh _ _ (g6.fh _ _ (g6.ff _ _ rz)))), rfl, _, _, rfl, _, _, rfl, rfl, rfl, lc_yes ?_⟩
      refine ⟨_, rfl, _, rfl, (by show 2 ≤ sizeLine; decide), fun p np => ?_⟩
      exact hy _ rfl p _ _ (Gr.tell gr.fh np) upd_same
    intro F7 H7 ps2 gr7 nF7 e7 pr7
    rw [List.filterMap_some] at pr7
    refine ⟨D2, _, rfl, .inl ⟨SqL.of e7, fun q7 nq7 => ?_⟩⟩
    have g7 := g6.trans gr7
    have g8 := g7.trans (Gr.tell (o := .tup (ps2.map V.ref)) g7.fh nq7)
    have nq7x : q7 ≠ x := fun z => by
      rw [z, gr7.hh _ _ hx6] at nq7
      cases nq7
    have nx7 : F7 x = none := gr7.out hx6 nx5
    refine ⟨_, rfl, x, _, dx, _, rfl, by rw [upd_ne nq7x.symm]; exact gr7.hh _ _ hx6, T.c_Record, T.n_Record_words, (by show 3 < 1000; decide), ?_⟩
    have nx8 : (upd F7 q7 (.tup (ps2.map V.ref))) x = none := by rw [upd_ne nq7x.symm]; exact nx7
    have g9 := g8.put (o := .ins (He.ga K "Record") dx (recF r.name q q4 q7)) nx8 (.inl hx)
    have ss : Same F7 (upd F7 q7 (.tup (ps2.map V.ref))) := same_new (g7.fh.free nq7)
    have s9 : Same (upd F7 q7 (.tup (ps2.map V.ref))) (upd (upd F7 q7 (.tup (ps2.map V.ref))) x (.ins (He.ga K "Record") dx (recF r.name q q4 q7))) := same_new nx8
    refine k _ _ (g9.told upd_same nx8 hx) ⟨dx, q, q4, q7, ps, ps2, upd_same, s9 _ _ (ss _ _ (gr7.ff _ _ hv6)), s9 _ _ (ss _ _ (gr7.ff _ _ hq6)), ?_, s9 _ _ upd_same, ?_⟩
    · exact Paired.mono (fun _ _ z => s9 _ _ (ss _ _ (gr7.ff _ _ z))) pr6
    · exact Paired.mono (fun _ _ z => s9 _ _ (ss _ _ z)) pr7
theorem mk_Record (T : Tx w K mg) : MakN P w K mg base 1 "Record" (He.ga K "Record") 2 ["fields", "words"] (fun vs zs => vs ++ zs) (sp_Record_init K) := by
  refine mkn_of (ms := []) (ok_Record_init (P := P) (base := base) T) T.k_Record T.g_Record (by simp) (by simp) (fun us mv ws => us ++ ws) (fun r1 _ r3 => r1.append r3) (fun D doc pm an cdv ct us mv ws h1 h2 h3 => ?_)
  match us, h1, ws, h3 with
  | [u1, u2, u3], _, [w1, w2], _ => rfl
end
end K94
/-! == and != where HandS has no rule: lists of tuples that hold instances; instances by an own __eq__. -/
namespace K94
open PySem PySem.Spec PyProof.Rows L2
/-- item by item -/
inductive EqL (R : V → V → Bool → Prop) : List V → List V → Bool → Prop
  | nil : EqL R [] [] true
  | cons {x y : V} {xs ys : List V} {b c : Bool} : R x y b → EqL R xs ys c → EqL R (x :: xs) (y :: ys) (b && c)
/-- what == says of two values, of nesting n at most; instances are the same or not looked at -/
def EqK (K : PySem.W.Frag) (H : Hp) : Nat → V → V → Bool → Prop
  | 0 => fun x y b => (x = y ∧ flatB x = true ∧ b = true) ∨ (∃ a, x = .ref a ∧ y = .ref a ∧ b = true) ∨ (∃ i j, x = .int i ∧ y = .int j ∧ b = (i == j)) ∨ (∃ i, x = .non ∧ y = .int i ∧ b = false) ∨ (∃ i, x = .int i ∧ y = .non ∧ b = false)
  | n + 1 => fun x y b => EqK K H n x y b ∨ ∃ a c xs ys, x = .ref a ∧ y = .ref c ∧ a ≠ c ∧ SqT K H a xs ∧ SqT K H c ys ∧ EqL (EqK K H n) xs ys b
theorem EqL.fn {R : V → V → Bool → Prop} : ∀ {xs ys : List V} {b : Bool}, EqL R xs ys b → xs.length = ys.length ∧ ∃ e : Nat → Bool, (∀ (j : Nat) (x y : V), xs[j]? = some x → ys[j]? = some y → R x y (e j)) ∧ (List.range xs.length).all e = b
  | _, _, _, .nil => ⟨rfl, fun _ => true, fun j x y h => by simp at h, rfl⟩
  | _, _, _, .cons (x := x) (y := y) (xs := xs) (ys := ys) (b := b) (c := c) r t => by
    obtain ⟨l, e, h1, h2⟩ := EqL.fn t
    refine ⟨by rw [List.length_cons, List.length_cons, l], fun j => match j with
      | 0 => b
      | j + 1 => e j, fun j u v hu hv => ?_, ?_⟩
    · cases j with
      | zero =>
        simp at hu hv
        subst hu hv
        exact r
      | succ j => exact h1 j u v (by simpa using hu) (by simpa using hv)
    · rw [List.length_cons, List.range_succ_eq_map, List.all_cons, List.all_map]
      rw [← h2]
      rfl
section
variable {X : Cx} {pins : List (Addr × Obj)} {σ : L2.St} {H : Hp} {s : Shared}
theorem vals_at {xs : List V} {us : List Value} (r : Vals xs us) : ∀ {j : Nat} {u : Value}, us[j]? = some u → ∃ x, xs[j]? = some x ∧ RelV x u := by
  induction r with
  | nil => intro j u h; simp at h
  | cons h t ih =>
    intro j u e
    cases j with
    | zero =>
      simp at e
      subst e
      exact ⟨_, rfl, h⟩
    | succ j =>
      obtain ⟨x, h1, h2⟩ := ih (j := j) (u := u) (by simpa using e)
      exact ⟨x, by simpa using h1, h2⟩
theorem eqK_at (I : Inv X pins σ H s) : ∀ (n : Nat) (A : Around), A.units + n < cLine → ∀ {x y : V} {v u : Value} {b : Bool}, EqK X.K H n x y b → RelV x v → RelV y u → SeqAt.EqAt A s v u b
  | 0, A, hu, x, y, v, u, b, h, rx, ry => by
    rcases h with ⟨rfl, f, rfl⟩ | ⟨a, rfl, rfl, rfl⟩ | ⟨i, j, rfl, rfl, rfl⟩ | ⟨i, rfl, rfl, rfl⟩ | ⟨i, rfl, rfl, rfl⟩
    · exact eqAt_same rx ry f
    · cases (show v = Value.ref a from rx)
      cases (show u = Value.ref a from ry)
      exact SeqAt.EqAt.same _
    · obtain ⟨t, rfl⟩ := rx
      obtain ⟨t', rfl⟩ := ry
      exact SeqAt.EqAt.int_int i t j t'
    · cases rx
      obtain ⟨t', rfl⟩ := ry
      exact SeqAt.EqAt.none_int i t'
    · cases ry
      obtain ⟨t', rfl⟩ := rx
      exact SeqAt.EqAt.int_none i t'
  | n + 1, A, hu, x, y, v, u, b, h, rx, ry => by
    rcases h with h | ⟨a, c, xs, ys, rfl, rfl, hne, ha, hc, hl⟩
    · exact eqK_at I n A (by omega) h rx ry
    · cases (show v = Value.ref a from rx)
      cases (show u = Value.ref c from ry)
      obtain ⟨its, r1, p1, _⟩ := I.tuple ha
      obtain ⟨its2, r2, p2, _⟩ := I.tuple hc
      obtain ⟨l, e, h1, h2⟩ := hl.fn
      have e1 := r1.length
      have e2 := r2.length
      have hT := SeqAt.RcAt.tuples (A := A) (e := e) p1 p2 (by omega) (fun j h3 h4 => by
        obtain ⟨x1, hx1, rx1⟩ := vals_at r1 (j := j) (u := its.toArray[j]) (by simp)
        obtain ⟨y1, hy1, ry1⟩ := vals_at r2 (j := j) (u := its2.toArray[j]) (by simp)
        exact eqK_at I n A.in1 (by show A.units + 1 + n < cLine; omega) (h1 j x1 y1 hx1 hy1) rx1 ry1)
      refine SeqAt.EqAt.of_refs hne ?_
      have e3 : ((List.range (min its.toArray.size its2.toArray.size)).all e && its.toArray.size == its2.toArray.size) = b := by
        rw [List.size_toArray, List.size_toArray, ← e1, ← e2, ← l, Nat.min_self, h2]
        simp
      rw [e3] at hT
      exact hT
end
section
variable {X : Cx}
/-- l == m, two lists of one length -/
def rEqL (K : PySem.W.Frag) : R2 := fun x y H Q => ∃ a c xs ys b, x = .ref a ∧ y = .ref c ∧ SqL K H a xs ∧ SqL K H c ys ∧ EqL (EqK K H 3) xs ys b ∧ Q (.bl b) H
def rNeL (K : PySem.W.Frag) : R2 := fun x y H Q => ∃ a c xs ys b, x = .ref a ∧ y = .ref c ∧ SqL K H a xs ∧ SqL K H c ys ∧ EqL (EqK K H 3) xs ys b ∧ Q (.bl (!b)) H
theorem op_eqL (hu : X.A.units + 64 < cLine) : OpR X (compareOp .Eq) (rEqL X.K) := by
  intro pins s σ H x y v u Q I rx ry h
  obtain ⟨a, c, xs, ys, b, rfl, rfl, ha, hc, hl, q⟩ := h
  cases (show v = Value.ref a from rx)
  cases (show u = Value.ref c from ry)
  obtain ⟨its, r1, p1, _⟩ := I.list ha
  obtain ⟨its2, r2, p2, _⟩ := I.list hc
  obtain ⟨l, e, h1, h2⟩ := hl.fn
  have e1 := r1.length
  have e2 := r2.length
  have hT := SeqAt.RcAt.lists (A := X.A) (e := e) p1.isList p2.isList (by rw [List.size_toArray, List.size_toArray, ← e1, ← e2, l]) (by omega) (fun j h3 h4 => by
    obtain ⟨x1, hx1, rx1⟩ := vals_at r1 (j := j) (u := its.toArray[j]) (by simp)
    obtain ⟨y1, hy1, ry1⟩ := vals_at r2 (j := j) (u := its2.toArray[j]) (by simp)
    exact eqK_at I 3 X.A.in1 (by show X.A.units + 1 + 3 < cLine; omega) (h1 j x1 y1 hx1 hy1) rx1 ry1)
  rw [List.size_toArray, ← e1, h2] at hT
  exact hT X.prog X.w X.xe _ ⟨.bl b, H, I, rfl, q⟩
theorem op_neL (hu : X.A.units + 64 < cLine) : OpR X (compareOp .NotEq) (rNeL X.K) := by
  intro pins s σ H x y v u Q I rx ry h
  obtain ⟨a, c, xs, ys, b, rfl, rfl, ha, hc, hl, q⟩ := h
  cases (show v = Value.ref a from rx)
  cases (show u = Value.ref c from ry)
  obtain ⟨its, r1, p1, _⟩ := I.list ha
  obtain ⟨its2, r2, p2, _⟩ := I.list hc
  obtain ⟨l, e, h1, h2⟩ := hl.fn
  have e1 := r1.length
  have e2 := r2.length
  have hT := SeqAt.RcNeAt.lists (A := X.A) (e := e) p1.isList p2.isList (by rw [List.size_toArray, List.size_toArray, ← e1, ← e2, l]) (by omega) (fun j h3 h4 => by
    obtain ⟨x1, hx1, rx1⟩ := vals_at r1 (j := j) (u := its.toArray[j]) (by simp)
    obtain ⟨y1, hy1, ry1⟩ := vals_at r2 (j := j) (u := its2.toArray[j]) (by simp)
    exact eqK_at I 3 X.A.in1 (by show X.A.units + 1 + 3 < cLine; omega) (h1 j x1 y1 hx1 hy1) rx1 ry1)
  rw [List.size_toArray, ← e1, h2] at hT
  exact hT X.prog X.w X.xe _ ⟨.bl (!b), H, I, rfl, q⟩
/-! ### x != y by an own __eq__ -/
/-- x != y, two instances of the class at C: not what their own __eq__ says -/
def rNeOwn (C : Addr) (sp : Sp) : R2 := fun x y H Q => ∃ a b dx dy fs gs, x = .ref a ∧ y = .ref b ∧ H a = some (.ins C dx fs) ∧ H b = some (.ins C dy gs) ∧ sp [.ref a, .ref b] H (fun v H' => ∃ c, v = .bl c ∧ Q (.bl (!c)) H') C8.E0
theorem op_ne_own {k : Nat} {C : Addr} {sp : Sp} (c : C8.Met X.prog X.w X.K X.mg X.base k C "__eq__" sp []) (hne : PySem.W.findIn X.K (.ref C) "__ne__" = some (some (.builtin "object.__ne__"))) (hmr : PySem.W.mroIn X.K C (.type "object") = some true) {j : Nat} (hr : Room j X.A) (hk : k + 1 ≤ j) : OpR X (compareOp .NotEq) (rNeOwn C sp) := by
  obtain ⟨f, fd, ps, ds, cl, me, F, bi, d⟩ := c.ex
  intro pins s σ H x y v u Q I rx ry h
  obtain ⟨a, b, dx, dy, fs, gs, rfl, rfl, ha, hb, h⟩ := h
  cases rx
  cases ry
  obtain ⟨mA, J, _⟩ := ins_get I.hok ha
  obtain ⟨mB, J', _⟩ := ins_get I.hok hb
  obtain ⟨od, J, _⟩ := J.look
  obtain ⟨od', J', _⟩ := J'.look
  obtain ⟨m, hF⟩ := I.fr
  have hr1 : Room k X.A.in1 := (hr.mono hk).in1
  have X0 := I.kIn
  have hcall : ∀ (Z : Value → Shared → Prop), (∀ c s', EP X pins σ (fun v H' => ∃ c, v = .bl c ∧ Q (.bl (!c)) H') (.bool c) s' → Z (.bool c) s') → wpAny (model X.prog X.w) X.A.in1 (call (.ref f) [.ref a, .ref b]) Z X.xe s := fun Z hZ => by
    have r2 : Vals ([V.ref a, V.ref b] ++ []) ([Value.ref a, Value.ref b] ++ ds) := (show Vals [V.ref a, V.ref b] [Value.ref a, Value.ref b] from .cons rfl (.cons rfl .nil)).append d
    have hl := F.len _ _ _ _ h
    have e0 : Env0 X.prog X.w X.K X.mg X.base X.A.in1 X.stack s H := by
      have e := I.env0
      exact ⟨e.frames, e.mod, e.bs, e.bsz, e.funs, e.frf, e.hok, e.bare⟩
    refine wpAny_call (codeAny_mono (F.run X.A.in1 X.stack s H ⟨[.ref a, .ref b], []⟩ ([.ref a, .ref b] ++ ds) _ _ C8.E0 hr1 e0 (bi s [.ref a, .ref b] I.kIn (by rw [← r2.length]; exact hl)) r2 h) fun r s' hq => ?_)
    cases r with
    | error e => exact C8.pass0 (E := C8.E0) pins σ H s e s' I hq
    | ok fl =>
      cases fl with
      | ret w =>
        obtain ⟨z, H', I', rz, c, rfl, q⟩ := I.after hq
        cases rz
        exact hZ c s' ⟨.bl c, H', I', rfl, c, rfl, q⟩
      | next => exact False.elim hq
      | brk => exact False.elim hq
      | cont => exact False.elim hq
  have fin : ∀ c s', EP X pins σ (fun v H' => ∃ c, v = .bl c ∧ Q (.bl (!c)) H') (.bool c) s' → EP X pins σ Q (.bool (!c)) s' := fun c s' q => by
    obtain ⟨z, H', I', rz, c', rfl, q⟩ := q
    cases rz
    exact ⟨.bl (!c), H', I', rfl, q⟩
  have one : wpAny (model X.prog X.w) X.A (PySem.tryCompare (.ref a) "__ne__" (.ref b)) (fun r s' => ∃ c, r = some (.bool (!c)) ∧ EP X pins σ (fun v H' => ∃ c, v = .bl c ∧ Q (.bl (!c)) H') (.bool c) s') X.xe s := by
    unfold PySem.tryCompare
    refine wpAny_bind ?_
    simp only [callSpecialIfBound?, bindSpecialIfBound?]
    refine wpAny_holding (wpAny_bind (wpAny_bind (wpAny_bind (J.type.here ((PySem.W.looks_findIn X0 hne).here ?_)))))
    simp only [PySem.F.cmp_object.ne.bind]
    refine wpAny_bind (wpAny_askSetting (wpAny_ite ?_))
    have body : wpAny (model X.prog X.w) X.A (call (.builtin "object.__ne__") ([.ref a] ++ [.ref b])) (fun v s' => ∃ c, v = .bool (!c) ∧ EP X pins σ (fun v H' => ∃ c, v = .bl c ∧ Q (.bl (!c)) H') (.bool c) s') X.xe s := by
      refine wpAny_call (codeAny_call_builtin PySem.F.cmp_object.ne.plain PySem.F.cmpEntry_ne (PySem.W.check_slot PySem.F.cmpKind_ne PySem.F.cmpSplit_ne ?_ (PySem.F.cmpArgs_ne _ _) ?_))
      · exact J.type.andThen (PySem.W.looks_mroIn X0 hmr)
      · have hu1 : X.A.in1.units < cLine := hr1.units0
        unfold Builtin.«object.__ne__»
        repeat (first
          | with_reducible refine wpAny_cRoomFor hu1 ?_
          | (refine wpAny_bind (m := callSpecialIfBound? (.ref a) (Str.ofString "__eq__") [.ref b])
              (PySem.W.ifBound_K X0 J me.at_ me.fn (hcall _ (fun c s' hq => ?_))))
          | (refine wpAny_bind (m := truthy (.bool _)) (wpAny_truthy_bool ?_))
          | wp_step)
        exact ⟨c, rfl, hq⟩
    split
    · refine wpAny_bind (wpAny_pure (wpAny_pure ?_))
      refine wpAny_bind (wpAny_mono body (fun v s' z => ?_) fun _ _ e => e)
      obtain ⟨c, rfl, q⟩ := z
      first
        | exact wpAny_pure (wpAny_pure ⟨c, rfl, q⟩)
        | exact wpAny_pure ⟨c, rfl, q⟩
    · refine wpAny_tryCatch (wpAny_bind (wpAny_pure (wpAny_pure ?_)))
      refine wpAny_bind (wpAny_mono body (fun v s' z => ?_) fun _ _ e => e)
      obtain ⟨c, rfl, q⟩ := z
      first
        | exact wpAny_pure (wpAny_pure ⟨c, rfl, q⟩)
        | exact wpAny_pure ⟨c, rfl, q⟩
  show wpAny (model X.prog X.w) X.A (richCompare .NotEq (.ref a) (.ref b)) (EP X pins σ Q) X.xe s
  unfold richCompare
  simp only [oneThing_ref]
  refine wpAny_holding (wpAny_bind (wpAny_cRoomFor hr.units0 ?_))
  refine wpAny_bind (J.type.here (wpAny_bind (J'.type.here ?_)))
  rw [show (Value.ref C != Value.ref C) = false from by simp]
  simp only [Bool.false_eq_true, if_false]
  refine wpAny_bind (wpAny_pure ?_)
  simp only [Bool.false_eq_true, if_false]
  refine wpAny_bind (wpAny_mono one (fun r s' z => ?_) fun _ _ e => e)
  obtain ⟨c, rfl, q⟩ := z
  exact wpAny_pure (fin c s' q)
end
end K94
/-! A record equals itself, by its own __eq__. -/
namespace K94
open PySem PySem.Spec PyProof.Rows L2
section
variable {P : Program} {w : World} {K : PySem.W.Frag} {mg : Str → Option Value} {base : Heap}
theorem sc_same_value : FnScope ["a", "b"] ["a", "b"] (defScope s_same_value) := ⟨rfl, rfl, rfl, by decide +kernel, rfl, by decide +kernel, by decide +kernel⟩
def sp_same_value : Sp := fun vs H Q _ => ∃ v : FV, vs = [v.v, v.v] ∧ Q (.bl true) H
theorem ok_same_value (T : Tx w K mg) : C8.Cal P w K mg base 1 "same_value" sp_same_value [] := by
  refine cal_mk (st := s_same_value) T.d_same_value T.g_same_value sc_same_value (fun _ _ _ _ _ _ us hl => match us, hl with | [_, _], _ => rfl) (fun vs H Q E h => ?_) (fun f cdv A outer s H vs Q E hr h => ?_)
  · obtain ⟨v, rfl, _⟩ := h
    rfl
  · obtain ⟨v, rfl, k⟩ := h
    refine ⟨_, (pss_one (ps_ret (pe_and (pe_cmpR op_eq (pe_callB call_isi (by rfl) T.z_isinstance (by decide +kernel) (pa_cons (pv 0) (pa_cons (pe_bltn (v := .ty "bool") (by rfl) T.z_bool (by decide +kernel) rfl) pa_nil))) (pe_callB call_isi (by rfl) T.z_isinstance (by decide +kernel) (pa_cons (pv 1) (pa_cons (pe_bltn (v := .ty "bool") (by rfl) T.z_bool (by decide +kernel) rfl) pa_nil))) (nomark _)) (pe_and (pe_cmpR op_eq (pe_callB call_isi (by rfl) T.z_isinstance (by decide +kernel) (pa_cons (pv 0) (pa_cons (pe_bltn (v := .ty "str") (by rfl) T.z_str (by decide +kernel) rfl) pa_nil))) (pe_callB call_isi (by rfl) T.z_isinstance (by decide +kernel) (pa_cons (pv 1) (pa_cons (pe_bltn (v := .ty "str") (by rfl) T.z_str (by decide +kernel) rfl) pa_nil))) (nomark _)) (pe_one (pe_cmpR op_eq (pv 0) (pv 1) (nomark _))))))), ?_⟩
    cases v with
    | i n =>
      refine ⟨_, rfl, _, _, _, _, false, rfl, .ty "bool", .base (.int n), kit_ty (by decide +kernel), _, rfl, _, _, _, _, false, rfl, .ty "bool", .base (.int n), kit_ty (by decide +kernel), rfl, _, rfl, iteT ?_⟩
      refine ⟨_, rfl, _, _, _, _, false, rfl, .ty "str", .base (.int n), kit_ty (by decide +kernel), _, rfl, _, _, _, _, false, rfl, .ty "str", .base (.int n), kit_ty (by decide +kernel), rfl, _, rfl, iteT ?_⟩
      refine ⟨_, rfl, _, rfl, rfl, ?_⟩
      rw [decide_eq_true rfl]
      exact k
    | s x =>
      refine ⟨_, rfl, _, _, _, _, false, rfl, .ty "bool", .base (.str x), kit_ty (by decide +kernel), _, rfl, _, _, _, _, false, rfl, .ty "bool", .base (.str x), kit_ty (by decide +kernel), rfl, _, rfl, iteT ?_⟩
      refine ⟨_, rfl, _, _, _, _, true, rfl, .ty "str", .base (.str x), kit_ty (by decide +kernel), _, rfl, _, _, _, _, true, rfl, .ty "str", .base (.str x), kit_ty (by decide +kernel), rfl, _, rfl, iteT ?_⟩
      refine ⟨_, rfl, _, rfl, rfl, ?_⟩
      rw [decide_eq_true rfl]
      exact k
theorem sc_same_fields : FnScope ["a", "b", "name", "worth", "other", "second"] ["a", "b"] (defScope s_same_fields) := ⟨rfl, rfl, rfl, by decide +kernel, rfl, by decide +kernel, by decide +kernel⟩
def sp_same_fields (K : PySem.W.Frag) : Sp := fun vs H Q _ => ∃ (a : Addr) (as : List Addr) (fs : List (Str × FV)), vs = [.ref a, .ref a] ∧ H a = some (.tup (as.map V.ref)) ∧ Paired (FAt H) as fs ∧ ∀ H', Same H H' → Q (.bl true) H'
theorem ok_same_fields (T : Tx w K mg) : C8.Cal P w K mg base 2 "same_fields" (sp_same_fields K) [] := by
  have c_same_value := ok_same_value (P := P) (base := base) T
  refine cal_mk (st := s_same_fields) T.d_same_fields T.g_same_fields sc_same_fields (fun _ _ _ _ _ _ us hl => match us, hl with | [_, _], _ => rfl) (fun vs H Q E h => ?_) (fun f cdv A outer s H vs Q E hr h => ?_)
  · obtain ⟨a, as, fs, rfl, _⟩ := h
    rfl
  · obtain ⟨a, as, fs, rfl, ha, hp, k⟩ := h
    refine ⟨_, (pss_cons (ps_if (pt_cmpR op_ne (pe_callB call_len_seq (by rfl) T.z_len PySem.boot_len (pa_cons (pv 0) pa_nil)) (pe_callB call_len_seq (by rfl) T.z_len PySem.boot_len (pa_cons (pv 1) pa_nil)) (nomark _))
        (pss_one (ps_ret pe_bl))
        pss_nil)
      (pss_cons (ps_for PassesOwn.never rfl (RZ.pi_zipA (by rfl) T.z_zip (pa_cons (pv 0) (pa_cons (pv 1) pa_nil))) (pg_tup rfl (pgs_cons (pg_tup rfl (pgs_cons (pg_name (i := 2) sc_same_fields.nd rfl (.inl rfl)) (pgs_cons (pg_name (i := 3) sc_same_fields.nd rfl (.inl rfl)) pgs_nil))) (pgs_cons (pg_tup rfl (pgs_cons (pg_name (i := 4) sc_same_fields.nd rfl (.inl rfl)) (pgs_cons (pg_name (i := 5) sc_same_fields.nd rfl (.inl rfl)) pgs_nil))) pgs_nil)))
        (pss_one (ps_if (PW.pt (pw_or (pt_cmpR op_ne (pv 2) (pv 4) (nomark _)) (pw_or1 (pt_not (pt_val (C8.pe_c c_same_value hr (by decide) (by rfl) (pa_cons (pv 3) (pa_cons (pv 5) pa_nil))))))))
          (pss_one (ps_ret pe_bl))
          pss_nil)))
      (pss_one (ps_ret pe_bl)))), ?_⟩
    refine ⟨_, rfl, a, _, rfl, .inr (.inl (.inl ha)), _, rfl, a, _, rfl, .inr (.inl (.inl ha)), rfl, _, rfl, ?_⟩
    rw [decide_eq_true rfl]
    refine iteF ?_
    refine ⟨_, rfl, _, rfl, a, a, _, _, rfl, .inr ⟨.inl (.inl ha), .inl (.inl ha), ?_⟩⟩
    refine RZ.for_zipT (K := K) (a := a) (b := a) (xs := as.map V.ref) (ys := as.map V.ref) rfl (fun i σ H2 => Same H H2 ∧ ∃ y z u v, σ = [some (.ref a), some (.ref a), y, z, u, v]) ⟨Same.refl _, none, none, none, none, rfl⟩ (fun i σ H2 p => ⟨.inl (.inl (p.1 _ _ ha)), .inl (.inl (p.1 _ _ ha))⟩) ?_ ?_
    · rintro i x1 x2 t σ H2 h1 h2 ⟨s1, y, z, u, v, rfl⟩ nt
      have e12 : x2 = x1 := Option.some.inj (h2.symm.trans h1)
      subst e12
      obtain ⟨p, hp1, rfl⟩ := map_at h1
      obtain ⟨q, hq, rq⟩ := paired_at hp hp1
      have s2 : Same H (upd H2 t (.tup [V.ref p, V.ref p])) := same_app s1 nt
      have rp : SqT K (upd H2 t (.tup [V.ref p, V.ref p])) p [.str q.1, q.2.v] := .inl (.inl (s2 _ _ rq))
      refine ⟨t, _, rfl, .inl (.inl upd_same), rfl, _, _, rfl, p, _, rfl, rp, rfl, _, _, rfl, _, _, rfl, rfl, _, _, rfl, p, _, rfl, rp, rfl, _, _, rfl, _, _, rfl, rfl, rfl, ?_⟩
      refine ⟨_, rfl, _, rfl, rfl, _, rfl, ?_⟩
      rw [decide_eq_true rfl]
      refine iteF ?_
      refine ⟨_, rfl, _, rfl, q.2, rfl, _, rfl, iteF ?_⟩
      exact ⟨s2, _, _, _, _, rfl⟩
    · rintro σ H2 ⟨s1, y, z, u, v, rfl⟩
      exact k _ s1
/-! ### Record.__eq__ -/
theorem toks_refl {α : Type} [DecidableEq α] (x : α) : decide (x ≠ x) = false := by simp
theorem sc_Record_eq : FnScope ["self", "other"] ["self", "other"] (defScope s_Record_eq) := ⟨rfl, rfl, rfl, by decide +kernel, rfl, by decide +kernel, by decide +kernel⟩
def sp_Record_eq (K : PySem.W.Frag) : Sp := fun vs H Q _ => ∃ (a : Addr) (r : Rec), vs = [.ref a, .ref a] ∧ RecAt K H a r ∧ ∀ H', Same H H' → Q (.bl true) H'
theorem ok_Record_eq (T : Tx w K mg) : C8.Met P w K mg base 3 (He.ga K "Record") "__eq__" (sp_Record_eq K) [] := by
  have c_same_fields := ok_same_fields (P := P) (base := base) T
  refine met_mk (st := s_Record_eq) T.d_Record_eq T.c_Record T.m_Record_eq sc_Record_eq (fun _ _ _ _ _ _ us hl => match us, hl with | [_, _], _ => rfl) (fun vs H Q E h => ?_) (fun f cdv A outer s H vs Q E hr h => ?_)
  · obtain ⟨a, r, rfl, _⟩ := h
    rfl
  · obtain ⟨a, r, rfl, hra, k⟩ := h
    obtain ⟨dx, vt, ft, wt, fas, was, r1, r2, r3, r4, r5, r6⟩ := hra.ex
    have hu64 := hr.units
    refine ⟨_, (pss_cons (ps_if (pt_not (pt_val (pe_callB call_isi (by rfl) T.z_isinstance (by decide +kernel) (pa_cons (pv 1) (pa_cons (pe_glob (v := .ref (He.ga K "Record")) (by rfl) T.g_Record rfl) pa_nil)))))
        (pss_one (ps_ret pe_bl))
        pss_nil)
      (pss_cons (ps_if (PW.pt (pw_or (pt_cmpR op_ne (pe_fldK (K := K) rfl (pv 0) rfl) (pe_fldK (K := K) rfl (pv 1) rfl) (nomark _)) (pw_or (pt_cmpR (op_neT (α := PySem.W.Tup (Int)) (K := K) rfl (by decide) hu64) (pe_fldK (K := K) rfl (pv 0) rfl) (pe_fldK (K := K) rfl (pv 1) rfl) (nomark _)) (pw_or1 (pt_cmpR (op_neT (α := PySem.W.Tup ((Str) × (Int))) (K := K) rfl (by decide) hu64) (pe_fldK (K := K) rfl (pv 0) rfl) (pe_fldK (K := K) rfl (pv 1) rfl) (nomark _))))))
        (pss_one (ps_ret pe_bl))
        pss_nil)
      (pss_one (ps_ret (C8.pe_c c_same_fields hr (by decide) (by rfl) (pa_cons (pe_fldK (K := K) rfl (pv 0) rfl) (pa_cons (pe_fldK (K := K) rfl (pv 1) rfl) pa_nil))))))), ?_⟩
    refine ⟨_, rfl, _, _, _, _, true, rfl, .own _, .base (.ins r1 T.c_Record T.e_class (by kernel_rfl) (by kernel_rfl) T.e_mro), T.e_kit, _, rfl, iteF ?_⟩
    refine ⟨_, rfl, a, _, dx, _, _, rfl, r1, T.c_Record, T.n_Record_name, recF_name _ _ _ _, _, rfl, a, _, dx, _, _, rfl, r1, T.c_Record, T.n_Record_name, recF_name _ _ _ _, rfl, _, rfl, ?_⟩
    rw [decide_eq_true rfl]
    refine iteF ?_
    have iv : Is K H (.ref vt) (PySem.W.Tup.mk r.vec) := is_tupI (.inl (.inl r2))
    refine ⟨_, rfl, a, _, dx, _, _, rfl, r1, T.c_Record, T.n_Record_vector, recF_vector _ _ _ _, _, rfl, a, _, dx, _, _, rfl, r1, T.c_Record, T.n_Record_vector, recF_vector _ _ _ _, _, _, iv, iv, _, rfl, ?_⟩
    rw [toks_refl]
    refine iteF ?_
    have iw : Is K H (.ref wt) (PySem.W.Tup.mk r.words) := is_tup (.inl (.inl r5)) r6 (fun {p x} h => is_pair (.inl (.inl h)) (is_str _) (is_int _))
    refine ⟨_, rfl, a, _, dx, _, _, rfl, r1, T.c_Record, T.n_Record_words, recF_words _ _ _ _, _, rfl, a, _, dx, _, _, rfl, r1, T.c_Record, T.n_Record_words, recF_words _ _ _ _, _, _, iw, iw, _, rfl, ?_⟩
    rw [toks_refl]
    refine iteF ?_
    exact ⟨_, rfl, a, _, dx, _, _, rfl, r1, T.c_Record, T.n_Record_fields, recF_fields _ _ _ _, _, rfl, a, _, dx, _, _, rfl, r1, T.c_Record, T.n_Record_fields, recF_fields _ _ _ _, ft, fas, r.fields, rfl, r3, r4, k⟩
end
end K94
/-! The states: notes, segments, ledgers; where they stand. -/
namespace K94
open PySem PySem.Spec PyProof.Rows L2
/-! ### heaps -/
theorem Gr.h0none {S : List Addr} {F H F' H' : Hp} {a : Addr} (g : Gr S F H F' H') (n : H' a = none) : H a = none := by
  cases q : H a with
  | none => rfl
  | some o =>
    obtain ⟨o', e⟩ := g.dom a o q
    rw [n] at e
    cases e
theorem Gr.f0none {S : List Addr} {F H F' H' : Hp} {a : Addr} (g : Gr S F H F' H') (n : H' a = none) : F' a = none := g.fh.free n
/-- a list made by a comprehension is told -/
theorem Gr.lc {S : List Addr} {F0 H0 F H1 H' : Hp} {D : Addr} {o : HO} (g : Gr S F0 H0 F H1) (nD : H1 D = none) (s : Same H1 H') (e : H' D = some o) (ho : NoTab o := by intro _ h; cases h) : Gr S F0 H0 (upd F D o) H' :=
  (g.trans (Gr.same g.fh s)).told e (g.fh.free nD) (g.h0none nD) ho
theorem Gr.lcg {S : List Addr} {F0 H0 F H1 F' H' : Hp} {D : Addr} {o : HO} (g : Gr S F0 H0 F H1) (nD : H1 D = none) (s : Gr [] F H1 F' H') (nF : F' D = none) (e : H' D = some o) (ho : NoTab o := by intro _ h; cases h) : Gr S F0 H0 (upd F' D o) H' :=
  (g.trans (s.mono (by simp))).told e nF (g.h0none nD) ho
theorem Gr.new_ {S : List Addr} {F0 H0 F H : Hp} {p : Addr} {o : HO} (g : Gr S F0 H0 F H) (h : H p = none) (ho : NoTab o := by intro _ h; cases h) : Gr S F0 H0 (upd F p o) (upd H p o) := g.trans (Gr.tell g.fh h ho)
theorem Gr.samef {S : List Addr} {F0 H0 F H H' : Hp} (g : Gr S F0 H0 F H) (s : Same H H') : Gr S F0 H0 F H' := g.trans (Gr.same g.fh s)
/-! ### the data -/
structure NoteD where
  num : Int
  ra : Addr
  r : Rec
  died : Option Int
  seg : Option Int
  leaves : List Int
structure SegD where
  num : Int
  shard : Int
  name : Int × Int
  inner : Addr
def recV (nd : NoteD) : V := match nd.seg with
  | none => .ref nd.ra
  | some _ => .non
section
variable (K : PySem.W.Frag) (F : Hp)
def NmAt (a : Addr) (n : Int × Int) : Prop := F a = some (.tup [.int n.1, .int n.2])
def ClAt (a : Addr) (c : Int × (Int × Int)) : Prop := ∃ na, F a = some (.tup [.int c.1, .ref na]) ∧ NmAt F na c.2
def TiAt (a : Addr) (t : T3 Int Int (Int × Int)) : Prop := ∃ na, F a = some (.tup [.int t.a, .int t.b, .ref na]) ∧ NmAt F na t.c
def RtAt (a : Addr) (r : Str × Int) : Prop := F a = some (.tup [.str r.1, .int r.2])
def HomeAt (a : Addr) (h : Int × List Int) : Prop := ∃ lv, F a = some (.tup [.int h.1, .ref lv]) ∧ SqT K F lv (h.2.map V.int)
/-- a note of the ledger -/
def CNoteAt (key : Int × Int) (a : Addr) (nd : NoteD) : Prop := ∃ dx ma lv, F a = some (.ins (He.ga K "Note") dx (noteF nd.r.name nd.num ma (oV nd.died) (recV nd) (oV nd.seg) lv)) ∧ F ma = some (.tup ((markOf key nd.num nd.r).map V.int)) ∧ SqT K F lv (nd.leaves.map V.int)
/-- a note of the plain model -/
def MNoteAt (a : Addr) (nd : NoteD) : Prop := ∃ lv, F a = some (.tup [.int nd.num, .ref nd.ra, oV nd.died, oV nd.seg, .ref lv]) ∧ RecAt K F nd.ra nd.r ∧ SqT K F lv (nd.leaves.map V.int)
/-- the two parts that a segment has -/
def InAt (a : Addr) : Prop := ∃ xs, F a = some (.tup xs)
def CSegAt (a : Addr) (s : SegD) : Prop := ∃ dx pa, F a = some (.ins (He.ga K "Segment") dx (segF s.num s.shard pa)) ∧ F pa = some (.tup [.ref s.inner])
def MSegAt (a : Addr) (s : SegD) : Prop := ∃ na pa, F a = some (.tup [.int s.num, .int s.shard, .ref na, .ref pa]) ∧ NmAt F na s.name ∧ F pa = some (.tup [.ref s.inner])
/-- a list that is not changed any more -/
def LsAt {α : Type} (R : Addr → α → Prop) (a : Addr) (xs : List α) : Prop := ∃ ps, F a = some (.lst (ps.map V.ref)) ∧ Paired R ps xs
end
section
variable {K : PySem.W.Frag} {F F' : Hp} (s : Same F F')
include s
theorem NmAt.mono {a : Addr} {n : Int × Int} (h : NmAt F a n) : NmAt F' a n := s _ _ h
theorem ClAt.mono {a : Addr} {c : Int × (Int × Int)} (h : ClAt F a c) : ClAt F' a c := by
  obtain ⟨na, h1, h2⟩ := h
  exact ⟨na, s _ _ h1, NmAt.mono s h2⟩
theorem TiAt.mono {a : Addr} {c : T3 Int Int (Int × Int)} (h : TiAt F a c) : TiAt F' a c := by
  obtain ⟨na, h1, h2⟩ := h
  exact ⟨na, s _ _ h1, NmAt.mono s h2⟩
theorem RtAt.mono {a : Addr} {c : Str × Int} (h : RtAt F a c) : RtAt F' a c := s _ _ h
theorem HomeAt.mono {a : Addr} {c : Int × List Int} (h : HomeAt K F a c) : HomeAt K F' a c := by
  obtain ⟨lv, h1, h2⟩ := h
  exact ⟨lv, s _ _ h1, sqT_same s h2⟩
theorem CNoteAt.mono {key : Int × Int} {a : Addr} {nd : NoteD} (h : CNoteAt K F key a nd) : CNoteAt K F' key a nd := by
  obtain ⟨dx, ma, lv, h1, h2, h3⟩ := h
  exact ⟨dx, ma, lv, s _ _ h1, s _ _ h2, sqT_same s h3⟩
theorem MNoteAt.mono {a : Addr} {nd : NoteD} (h : MNoteAt K F a nd) : MNoteAt K F' a nd := by
  obtain ⟨lv, h1, h2, h3⟩ := h
  exact ⟨lv, s _ _ h1, h2.mono s, sqT_same s h3⟩
theorem CSegAt.mono {a : Addr} {sd : SegD} (h : CSegAt K F a sd) : CSegAt K F' a sd := by
  obtain ⟨dx, pa, h1, h2⟩ := h
  exact ⟨dx, pa, s _ _ h1, s _ _ h2⟩
theorem MSegAt.mono {a : Addr} {sd : SegD} (h : MSegAt F a sd) : MSegAt F' a sd := by
  obtain ⟨na, pa, h1, h2, h3⟩ := h
  exact ⟨na, pa, s _ _ h1, NmAt.mono s h2, s _ _ h3⟩
theorem LsAt.mono {α : Type} {R R' : Addr → α → Prop} (hR : ∀ p x, R p x → R' p x) {a : Addr} {xs : List α} (h : LsAt F R a xs) : LsAt F' R' a xs := by
  obtain ⟨ps, h1, h2⟩ := h
  exact ⟨ps, s _ _ h1, Paired.mono hR h2⟩
end
theorem LsAt.sq {K : PySem.W.Frag} {F : Hp} {α : Type} {R : Addr → α → Prop} {a : Addr} {xs : List α} (h : LsAt F R a xs) : ∃ ps, SqL K F a (ps.map V.ref) ∧ Paired R ps xs := by
  obtain ⟨ps, h1, h2⟩ := h
  exact ⟨ps, SqL.of h1, h2⟩
/-- some of the things of a list, in their order -/
theorem paired_filter {α : Type} {R : Addr → α → Prop} (p : α → Bool) : ∀ {as : List Addr} {xs : List α}, Paired R as xs → ∃ bs, (as.zip xs).filterMap (fun q => if p q.2 = true then some (V.ref q.1) else none) = bs.map V.ref ∧ Paired R bs (xs.filter p)
  | _, _, .nil => ⟨[], rfl, .nil⟩
  | _, _, .cons (a := a) (b := x) r t => by
    obtain ⟨bs, e1, e2⟩ := paired_filter p t
    cases h : p x with
    | true =>
      refine ⟨a :: bs, ?_, ?_⟩
      · rw [List.zip_cons_cons, List.filterMap_cons]
        simp only [h, if_true]
        rw [e1]
        rfl
      · rw [List.filter_cons, if_pos h]
        exact .cons r e2
    | false =>
      refine ⟨bs, ?_, ?_⟩
      · rw [List.zip_cons_cons, List.filterMap_cons]
        simp only [h, Bool.false_eq_true, if_false]
        exact e1
      · rw [List.filter_cons, h]
        exact e2
theorem zip_at {α β : Type} {xs : List α} {ys : List β} {i : Nat} {q : α × β} (h : (xs.zip ys)[i]? = some q) : xs[i]? = some q.1 ∧ ys[i]? = some q.2 := by
  rw [List.getElem?_zip_eq_some] at h
  exact h
/-! ### the ledger -/
structure LS where
  now : Int
  floor : Int
  pins : List Int
  notes : List NoteD
  segs : List SegD
  up : Int
/-- what a ledger has that never changes -/
structure LC where
  sa : Addr
  d : SchD
  ka : Addr
  key : Int × Int
def ledF (c : LC) (now floor : Int) (pa na sa : Addr) (up : Int) : List (Str × V) := [("schema", .ref c.sa), ("key", .ref c.ka), ("now", .int now), ("floor", .int floor), ("pins", .ref pa), ("notes", .ref na), ("segments", .ref sa), ("upcoming", .int up)]
section
variable {c : LC} {now floor : Int} {pa na sa : Addr} {up : Int}
theorem ledF_schema : (ledF c now floor pa na sa up).lookup ("schema" : Str) = some (.ref c.sa) := by kernel_rfl
theorem ledF_key : (ledF c now floor pa na sa up).lookup ("key" : Str) = some (.ref c.ka) := by kernel_rfl
theorem ledF_now : (ledF c now floor pa na sa up).lookup ("now" : Str) = some (.int now) := by kernel_rfl
theorem ledF_floor : (ledF c now floor pa na sa up).lookup ("floor" : Str) = some (.int floor) := by kernel_rfl
theorem ledF_pins : (ledF c now floor pa na sa up).lookup ("pins" : Str) = some (.ref pa) := by kernel_rfl
theorem ledF_notes : (ledF c now floor pa na sa up).lookup ("notes" : Str) = some (.ref na) := by kernel_rfl
theorem ledF_segments : (ledF c now floor pa na sa up).lookup ("segments" : Str) = some (.ref sa) := by kernel_rfl
theorem ledF_upcoming : (ledF c now floor pa na sa up).lookup ("upcoming" : Str) = some (.int up) := by kernel_rfl
theorem ledF_p_now {x : Int} : putF "now" (.int x) (ledF c now floor pa na sa up) = ledF c x floor pa na sa up := by kernel_rfl
theorem ledF_p_floor {x : Int} : putF "floor" (.int x) (ledF c now floor pa na sa up) = ledF c now x pa na sa up := by kernel_rfl
theorem ledF_p_pins {x : Addr} : putF "pins" (.ref x) (ledF c now floor pa na sa up) = ledF c now floor x na sa up := by kernel_rfl
theorem ledF_p_notes {x : Addr} : putF "notes" (.ref x) (ledF c now floor pa na sa up) = ledF c now floor pa x sa up := by kernel_rfl
theorem ledF_p_segments {x : Addr} : putF "segments" (.ref x) (ledF c now floor pa na sa up) = ledF c now floor pa na x up := by kernel_rfl
theorem ledF_p_upcoming {x : Int} : putF "upcoming" (.int x) (ledF c now floor pa na sa up) = ledF c now floor pa na sa x := by kernel_rfl
theorem ledF_no {m : Str} (h : m ∈ (["is_needed", "tidy", "note_of", "end", "put", "drop", "pin", "unpin", "lift", "own", "segment_of"] : List Str)) : (ledF c now floor pa na sa up).lookup m = none := by
  have g : ∀ m ∈ (["is_needed", "tidy", "note_of", "end", "put", "drop", "pin", "unpin", "lift", "own", "segment_of"] : List Str), m ∉ (["schema", "key", "now", "floor", "pins", "notes", "segments", "upcoming"] : List Str) := by decide +kernel
  have e := g m h
  rw [List.lookup_eq_none_iff]
  intro p hp
  simp only [ledF, List.mem_cons, List.not_mem_nil, or_false] at hp
  simp only [List.mem_cons, List.not_mem_nil, or_false, not_or] at e
  rcases hp with rfl | rfl | rfl | rfl | rfl | rfl | rfl | rfl <;> simp_all
end
structure LcAt (K : PySem.W.Frag) (F : Hp) (c : LC) : Prop where
  sch : SchAt K F c.sa c.d
  ok : c.d.Ok
  key : F c.ka = some (.tup [.int c.key.1, .int c.key.2])
theorem LcAt.mono {K : PySem.W.Frag} {F F' : Hp} {c : LC} (h : LcAt K F c) (s : Same F F') : LcAt K F' c := ⟨h.sch.mono s, h.ok, s _ _ h.key⟩
/-- the parts of a ledger -/
structure LpAt (K : PySem.W.Frag) (F : Hp) (c : LC) (ls : LS) (pa na sa : Addr) : Prop where
  pins : F pa = some (.lst (ls.pins.map V.int))
  notes : LsAt F (CNoteAt K F c.key) na ls.notes
  segs : LsAt F (CSegAt K F) sa ls.segs
theorem LpAt.mono {K : PySem.W.Frag} {F F' : Hp} {c : LC} {ls : LS} {pa na sa : Addr} (h : LpAt K F c ls pa na sa) (s : Same F F') : LpAt K F' c ls pa na sa :=
  ⟨s _ _ h.pins, h.notes.mono s fun _ _ e => e.mono s, h.segs.mono s fun _ _ e => e.mono s⟩
def ledO (K : PySem.W.Frag) (c : LC) (ls : LS) (dx pa na sa : Addr) : HO := .ins (He.ga K "Ledger") dx (ledF c ls.now ls.floor pa na sa ls.up)
structure LedAt (K : PySem.W.Frag) (F H : Hp) (c : LC) (l : Addr) (ls : LS) : Prop where
  ex : ∃ dx pa na sa, H l = some (ledO K c ls dx pa na sa) ∧ LpAt K F c ls pa na sa
/-- few enough -/
structure LS.Fit (ls : LS) : Prop where
  pins : ls.pins.length ≤ 1000
  notes : ls.notes.length ≤ 1000
  segs : ls.segs.length ≤ 1000
/-! ### what the ledger's functions do -/
def needed (floor : Int) (pins : List Int) (nd : NoteD) : Bool := (match nd.died with
  | none => true
  | some d => decide (floor < d)) || pins.any fun m => livesAt nd.num nd.died m
def tidyL (ls : LS) : LS :=
  { ls with notes := ls.notes.filter (needed ls.floor ls.pins), segs := ls.segs.filter fun s => (ls.notes.filter (needed ls.floor ls.pins)).any fun nd => decide (nd.seg = some s.num) }
def closeN (name : Str) (now : Int) (nd : NoteD) : NoteD := if nd.r.name = name ∧ nd.died = none then { nd with died := some now } else nd
def endL (name : Str) (ls : LS) : LS := { ls with notes := ls.notes.map (closeN name ls.now) }
def putL (ra : Addr) (r : Rec) (ls : LS) : LS :=
  let l1 := endL r.name { ls with now := ls.now + 1 }
  tidyL { l1 with notes := l1.notes ++ [⟨ls.now + 1, ra, r, none, none, []⟩] }
def hasN (name : Str) (ls : LS) : Bool := ls.notes.any fun nd => decide (nd.r.name = name) && decide (nd.died = none)
def dropL (name : Str) (ls : LS) : LS := if hasN name ls = true then tidyL (endL name { ls with now := ls.now + 1 }) else ls
def pinL (ls : LS) : LS := { ls with pins := ls.pins ++ [ls.now] }
def cutPins (pins : List Int) (m : Int) : List Int := pins.take (pins.idxOf m) ++ pins.drop (pins.idxOf m + 1)
def unpinL (m : Int) (ls : LS) : LS := tidyL { ls with pins := cutPins ls.pins m }
def liftL (m : Int) (ls : LS) : LS := tidyL { ls with floor := max ls.floor (min m ls.now) }
def ownN (num : Int) (homes : List (Int × List Int)) (nd : NoteD) : NoteD := match homes.find? fun h => decide (h.1 = nd.num) with
  | some h => { nd with seg := some num, leaves := h.2 }
  | none => nd
def ownL (shard : Int) (inner : Addr) (homes : List (Int × List Int)) (name : Int × Int) (ls : LS) : LS :=
  tidyL { ls with up := ls.up + 1, notes := ls.notes.map (ownN ls.up homes), segs := ls.segs ++ [⟨ls.up, shard, name, inner⟩] }
end K94
/-! The ledger's functions, part 1. -/
namespace K94
open PySem PySem.Spec PyProof.Rows L2
section
variable {P : Program} {w : World} {K : PySem.W.Frag} {mg : Str → Option Value} {base : Heap}
theorem sc_Ledger_is_needed : FnScope ["self", "note", "moment"] ["self", "note"] (defScope s_Ledger_is_needed) := ⟨rfl, rfl, rfl, by decide +kernel, rfl, by decide +kernel, by decide +kernel⟩
def sp_is_needed (K : PySem.W.Frag) (c : LC) : Sp := fun vs H Q _ => ∃ (F : Hp) (l a dx pa na sa : Addr) (ls : LS) (nd : NoteD), vs = [.ref l, .ref a] ∧ Same F H ∧ H l = some (ledO K c ls dx pa na sa) ∧ F pa = some (.lst (ls.pins.map V.int)) ∧ ls.pins.length ≤ 1000 ∧ CNoteAt K F c.key a nd ∧ ∀ H', Same H H' → Q (.bl (needed ls.floor ls.pins nd)) H'
theorem ok_is_needed (T : Tx w K mg) (c : LC) : C8.Met P w K mg base 2 (He.ga K "Ledger") "is_needed" (sp_is_needed K c) [] := by
  have c_Note_lives_at := ok_lives_at (P := P) (base := base) T
  refine met_mk (st := s_Ledger_is_needed) T.d_Ledger_is_needed T.c_Ledger T.m_Ledger_is_needed sc_Ledger_is_needed (fun _ _ _ _ _ _ us hl => match us, hl with | [_, _], _ => rfl) (fun vs H Q E h => ?_) (fun f cdv A outer s H vs Q E hr h => ?_)
  · obtain ⟨F, l, a, dx, pa, na, sa, ls, nd, rfl, _⟩ := h
    rfl
  · obtain ⟨F, l, a, dx, pa, na, sa, ls, nd, rfl, hF, hl, hp, np, hn, k⟩ := h
    obtain ⟨nx, ma, lv, h1, h2, h3⟩ := hn
    have h1' := hF _ _ h1
    refine ⟨_, (pss_cons (ps_if (PW.pt (pw_or (pt_cmpR op_isN (pe_fldK (K := K) rfl (pv 1) rfl) pe_non (nomark _)) (pw_or1 (pt_cmpR op_lt (pe_fldK (K := K) rfl (pv 0) rfl) (pe_fldK (K := K) rfl (pv 1) rfl) (nomark _)))))
        (pss_one (ps_ret pe_bl))
        pss_nil)
      (pss_one (ps_ret (pe_callB (cr_any rfl) (by rfl) T.z_any (by decide +kernel) (pa_cons (pe_lc (own := [("moment", 2)]) (g := gName 2) (tt := tYes) rfl sc_Ledger_is_needed.nd (pi_list (pe_fldK (K := K) rfl (pv 0) rfl)) (blkOk_by (N := ["self", "note", "moment"]) (sc := defScope s_Ledger_is_needed) (by decide +kernel)) (fun _ _ _ _ _ => pg_name (i := 2) sc_Ledger_is_needed.nd rfl (.inl rfl)) (fun _ _ _ _ _ => pts_nil) (fun _ _ _ _ _ => (C8.pe_mt c_Note_lives_at hr (by decide) (pv 1) (pa_cons (pv 2) pa_nil)))) pa_nil))))), ?_⟩
    refine ⟨_, rfl, a, _, nx, _, _, rfl, h1', T.c_Note, T.n_Note_died, noteF_died, rfl, _, rfl, ?_⟩
    have any_ : needed ls.floor ls.pins nd = ((match nd.died with | none => true | some d => decide (ls.floor < d)) || ls.pins.any fun m => livesAt nd.num nd.died m) := rfl
    cases hd : nd.died with
    | none =>
      rw [hd] at any_
      rw [any_] at k
      exact iteT (k H (Same.refl _))
    | some d =>
      refine iteF ?_
      rw [hd] at h1'
      refine ⟨_, rfl, l, _, dx, _, _, rfl, hl, T.c_Ledger, T.n_Ledger_floor, ledF_floor, _, rfl, a, _, nx, _, _, rfl, h1', T.c_Note, T.n_Note_died, noteF_died, _, _, rfl, rfl, _, rfl, ?_⟩
      rw [hd] at any_
      have any_ : needed ls.floor ls.pins nd = (decide (ls.floor < d) || ls.pins.any fun m => livesAt nd.num (some d) m) := any_
      by_cases hfl : ls.floor < d
      · rw [decide_eq_true hfl]
        rw [any_, decide_eq_true hfl] at k
        exact iteT (k H (Same.refl _))
      · rw [decide_eq_false hfl]
        rw [any_, decide_eq_false hfl, Bool.false_or] at k
        refine iteF ?_
        refine ⟨_, rfl, l, _, dx, _, _, rfl, hl, T.c_Ledger, T.n_Ledger_pins, ledF_pins, pa, rfl, ⟨_, SqL.of (hF _ _ hp)⟩, fun D nD => ?_⟩
        refine lc_list_pure nD (SqL.of (hF _ _ hp)) ls.pins (by rw [List.length_map]) (by rw [List.length_map]; omega) (fun m => some (.bl (livesAt nd.num (some d) m))) (fun i x m H2 Qn Qy hx hm s1 hn hy => ?_) (fun H2 s1 e => ?_)
        · obtain ⟨m', hm', rfl⟩ := map_at hx
          have em : m' = m := Option.some.inj (hm'.symm.trans hm)
          subst em
          refine ⟨rfl, lc_yes ?_⟩
          refine ⟨_, rfl, a, nx, _, rfl, s1 _ _ h1', noteF_lives_at, _, rfl, a, nx, nd.r.name, nd.num, ma, some d, recV nd, oV nd.seg, lv, m', rfl, s1 _ _ h1', hy _ rfl H2 (Same.refl _)⟩
        · refine ⟨D, ls.pins.map (livesAt nd.num (some d)), rfl, ?_, ?_⟩
          · refine SqL.of ?_
            rw [e, List.map_map, List.filterMap_eq_map']
            rfl
          · rw [List.any_map]
            exact k H2 s1
/-! ### tidy -/
theorem filterMap_zip_snd {α β γ : Type} (f : β → γ) : ∀ {xs : List α} {ys : List β}, xs.length = ys.length → (xs.zip ys).filterMap (fun q => some (f q.2)) = ys.map f
  | [], [], _ => rfl
  | [], _ :: _, h => by simp at h
  | _ :: _, [], h => by simp at h
  | x :: xs, y :: ys, h => by
    rw [List.zip_cons_cons, List.filterMap_cons, List.map_cons]
    simp only []
    rw [filterMap_zip_snd f (by simpa using h)]
theorem inV_opt (n : Int) : ∀ (ns : List NoteD), inV (.int n) (ns.map fun nd => oV nd.seg) = ns.any fun nd => decide (nd.seg = some n)
  | [] => rfl
  | nd :: r => by
    have ih := inV_opt n r
    unfold inV at ih ⊢
    rw [List.map_cons, List.any_cons, List.any_cons, ih]
    congr 1
    cases nd.seg with
    | none => simp [oV, eqV]
    | some k =>
      show (k == n) = _
      rw [Bool.eq_iff_iff, beq_iff_eq, decide_eq_true_eq, Option.some.injEq]
theorem flat_opt : ∀ (ns : List NoteD), (ns.map fun nd => oV nd.seg).all flatV = true
  | [] => rfl
  | nd :: r => by
    rw [List.map_cons, List.all_cons, flat_opt r, Bool.and_true]
    cases nd.seg <;> rfl
theorem sc_Ledger_tidy : FnScope ["self", "note", "owners", "segment"] ["self"] (defScope s_Ledger_tidy) := ⟨rfl, rfl, rfl, by decide +kernel, rfl, by decide +kernel, by decide +kernel⟩
def sp_tidy (K : PySem.W.Frag) (c : LC) : Sp := fun vs H Q _ => ∃ (F : Hp) (l : Addr) (ls : LS), vs = [.ref l] ∧ Same F H ∧ F l = none ∧ LedAt K F H c l ls ∧ ls.Fit ∧ ∀ F' H', Gr [l] F H F' H' → LedAt K F' H' c l (tidyL ls) → Q .non H'
theorem ok_tidy (T : Tx w K mg) (c : LC) : C8.Met P w K mg base 3 (He.ga K "Ledger") "tidy" (sp_tidy K c) [] := by
  have c_Ledger_is_needed := ok_is_needed (P := P) (base := base) T c
  refine met_mk (st := s_Ledger_tidy) T.d_Ledger_tidy T.c_Ledger T.m_Ledger_tidy sc_Ledger_tidy (fun _ _ _ _ _ _ us hl => match us, hl with | [_], _ => rfl) (fun vs H Q E h => ?_) (fun f cdv A outer s H vs Q E hr h => ?_)
  · obtain ⟨F, l, ls, rfl, _⟩ := h
    rfl
  · obtain ⟨F, l, ls, rfl, hF, nl, hL, fit, k⟩ := h
    obtain ⟨dx, pa, na, sa, hl, pp⟩ := hL.ex
    obtain ⟨nas, n1, n2⟩ := pp.notes
    obtain ⟨sas, q1, q2⟩ := pp.segs
    have ln := n2.length
    have lsg := q2.length
    have f1 := fit.notes
    have f2 := fit.segs
    refine ⟨_, (pss_cons (ps_fld (pv 0) (pe_lc (own := [("note", 1)]) (g := gName 1) (tt := _) rfl sc_Ledger_tidy.nd (pi_list (pe_fldK (K := K) rfl (pv 0) rfl)) (blkOk_by (N := ["self", "note", "owners", "segment"]) (sc := defScope s_Ledger_tidy) (by decide +kernel)) (fun _ _ _ _ _ => pg_name (i := 1) sc_Ledger_tidy.nd rfl (.inl rfl)) (fun _ _ _ _ _ => pts_one (pt_val (C8.pe_mt c_Ledger_is_needed hr (by decide) (pv 0) (pa_cons (pv 1) pa_nil)))) (fun _ _ _ _ _ => (pv 1))) rfl)
      (pss_cons (ps_set (i := 2) sc_Ledger_tidy.nd rfl (.inr rfl) (pe_lc (own := [("note", 1)]) (g := gName 1) (tt := tYes) rfl sc_Ledger_tidy.nd (pi_list (pe_fldK (K := K) rfl (pv 0) rfl)) (blkOk_by (N := ["self", "note", "owners", "segment"]) (sc := defScope s_Ledger_tidy) (by decide +kernel)) (fun _ _ _ _ _ => pg_name (i := 1) sc_Ledger_tidy.nd rfl (.inl rfl)) (fun _ _ _ _ _ => pts_nil) (fun _ _ _ _ _ => (pe_fldK (K := K) rfl (pv 1) rfl))))
      (pss_one (ps_fld (pv 0) (pe_lc (own := [("segment", 3)]) (g := gName 3) (tt := _) rfl sc_Ledger_tidy.nd (pi_list (pe_fldK (K := K) rfl (pv 0) rfl)) (blkOk_by (N := ["self", "note", "owners", "segment"]) (sc := defScope s_Ledger_tidy) (by decide +kernel)) (fun _ _ _ _ _ => pg_name (i := 3) sc_Ledger_tidy.nd rfl (.inl rfl)) (fun _ _ _ _ _ => pts_one (pt_cmpR (op_in_seqK (K := K) rfl) (pe_fldK (K := K) rfl (pv 3) rfl) (pv 2) (by rfl))) (fun _ _ _ _ _ => (pv 3))) rfl)))), ?_⟩
    refine ⟨_, rfl, l, _, dx, _, _, rfl, hl, T.c_Ledger, T.n_Ledger_notes, ledF_notes, na, rfl, ⟨_, SqL.of (hF _ _ n1)⟩, fun D nD => ?_⟩
    obtain ⟨bs, e1, e2⟩ := paired_filter (needed ls.floor ls.pins) n2
    refine lc_list_pure nD (SqL.of (hF _ _ n1)) (nas.zip ls.notes) (by rw [List.length_zip, List.length_map]; omega) (by rw [List.length_map]; omega) (fun q => if needed ls.floor ls.pins q.2 = true then some (.ref q.1) else none) (fun i x q H2 Qn Qy hx hm s1 hn hy => ?_) (fun H2 s1 e => ?_)
    · obtain ⟨a, ha, rfl⟩ := map_at hx
      obtain ⟨z1, z2⟩ := zip_at hm
      have ea : a = q.1 := Option.some.inj (ha.symm.trans z1)
      subst ea
      obtain ⟨nd, hnd, hat⟩ := paired_at n2 ha
      have en : nd = q.2 := Option.some.inj (hnd.symm.trans z2)
      subst en
      refine ⟨rfl, ?_⟩
      refine ⟨_, rfl, l, dx, _, rfl, s1 _ _ hl, ledF_no (by simp), _, rfl, F, l, q.1, dx, pa, na, sa, ls, q.2, rfl, hF.trans s1, s1 _ _ hl, pp.pins, fit.pins, hat, fun H3 s3 => ?_⟩
      refine ⟨_, rfl, ?_⟩
      cases hnd2 : needed ls.floor ls.pins q.2 with
      | true => exact iteT ⟨_, rfl, hy _ (by simp only [hnd2, if_true]) H3 s3⟩
      | false => exact iteF (hn (by simp only [hnd2, Bool.false_eq_true, if_false]) H3 s3)
    rw [e1] at e
    have g1 : Gr [l] F H (upd F D (.lst (bs.map V.ref))) H2 := (Gr.refl hF).lc nD s1 e
    have nlD : D ≠ l := fun z => by
      rw [z, hl] at nD
      cases nD
    have nl1 : (upd F D (.lst (bs.map V.ref))) l = none := by rw [upd_ne nlD.symm]; exact nl
    refine ⟨_, rfl, l, _, dx, _, rfl, s1 _ _ hl, T.c_Ledger, T.n_Ledger_notes, (by show 8 < 1000; decide), ?_⟩
    rw [ledF_p_notes]
    have g2 := g1.put (o := .ins (He.ga K "Ledger") dx (ledF c ls.now ls.floor pa D sa ls.up)) nl1 (.inr (by simp))
    have hD2 : (upd F D (.lst (bs.map V.ref))) D = some (.lst (bs.map V.ref)) := upd_same
    generalize hF1 : upd F D (.lst (bs.map V.ref)) = F1 at *
    have pp1 := pp.mono g2.ff
    generalize hH3 : upd H2 l (.ins (He.ga K "Ledger") dx (ledF c ls.now ls.floor pa D sa ls.up)) = H3 at *
    have hl3 : H3 l = some (.ins (He.ga K "Ledger") dx (ledF c ls.now ls.floor pa D sa ls.up)) := by
      rw [← hH3]
      exact upd_same
    have e2' : Paired (CNoteAt K F1 c.key) bs (ls.notes.filter (needed ls.floor ls.pins)) := Paired.mono (fun _ _ z => z.mono g2.ff) e2
    have lb := e2'.length
    have lb2 : (ls.notes.filter (needed ls.floor ls.pins)).length ≤ ls.notes.length := List.length_filter_le _ _
    refine ⟨_, rfl, l, _, dx, _, _, rfl, hl3, T.c_Ledger, T.n_Ledger_notes, ledF_notes, D, rfl, ⟨_, SqL.of (g2.fh _ _ hD2)⟩, fun D2 nD2 => ?_⟩
    refine lc_list_pure nD2 (SqL.of (g2.fh _ _ hD2)) (bs.zip (ls.notes.filter (needed ls.floor ls.pins))) (by rw [List.length_zip, List.length_map]; omega) (by rw [List.length_map]; omega) (fun q => some (oV q.2.seg)) (fun i x q H4 Qn Qy hx hm s4 hn hy => ?_) (fun H4 s4 e4 => ?_)
    · obtain ⟨a, ha, rfl⟩ := map_at hx
      obtain ⟨z1, z2⟩ := zip_at hm
      have ea : a = q.1 := Option.some.inj (ha.symm.trans z1)
      subst ea
      obtain ⟨nd, hnd, hat⟩ := paired_at e2' ha
      have en : nd = q.2 := Option.some.inj (hnd.symm.trans z2)
      subst en
      obtain ⟨nx, ma, lv, h1, h2, h3⟩ := hat
      refine ⟨rfl, lc_yes ?_⟩
      exact ⟨_, rfl, q.1, _, nx, _, _, rfl, s4 _ _ (g2.fh _ _ h1), T.c_Note, T.n_Note_segment, noteF_segment, hy _ rfl H4 (Same.refl _)⟩
    rw [filterMap_zip_snd (fun nd : NoteD => oV nd.seg) (by omega)] at e4
    obtain ⟨cs, e5, e6⟩ := paired_filter (fun s : SegD => (ls.notes.filter (needed ls.floor ls.pins)).any fun nd => decide (nd.seg = some s.num)) q2
    refine ⟨_, rfl, l, _, dx, _, _, rfl, s4 _ _ hl3, T.c_Ledger, T.n_Ledger_segments, ledF_segments, sa, rfl, ⟨_, SqL.of (s4 _ _ (g2.fh _ _ (g2.ff _ _ q1)))⟩, fun D3 nD3 => ?_⟩
    refine lc_list_pure nD3 (SqL.of (s4 _ _ (g2.fh _ _ (g2.ff _ _ q1)))) (sas.zip ls.segs) (by rw [List.length_zip, List.length_map]; omega) (by rw [List.length_map]; omega) (fun q => if ((ls.notes.filter (needed ls.floor ls.pins)).any fun nd => decide (nd.seg = some q.2.num)) = true then some (.ref q.1) else none) (fun i x q H5 Qn Qy hx hm s5 hn hy => ?_) (fun H5 s5 e7 => ?_)
    · obtain ⟨a, ha, rfl⟩ := map_at hx
      obtain ⟨z1, z2⟩ := zip_at hm
      have ea : a = q.1 := Option.some.inj (ha.symm.trans z1)
      subst ea
      obtain ⟨nd, hnd, hat⟩ := paired_at q2 ha
      have en : nd = q.2 := Option.some.inj (hnd.symm.trans z2)
      subst en
      obtain ⟨sx, pa2, h1, h2⟩ := hat
      refine ⟨rfl, ?_⟩
      refine ⟨_, rfl, q.1, _, sx, _, _, rfl, s5 _ _ (s4 _ _ (g2.fh _ _ (g2.ff _ _ h1))), T.c_Segment, T.n_Segment_number, segF_number _ _ _, _, rfl, D2, _, rfl, .inl (SqL.of (s5 _ _ e4)), rfl, flat_opt _, _, rfl, ?_⟩
      rw [if_neg (show ¬ (false = true) by decide), inV_opt]
      cases hnd2 : ((ls.notes.filter (needed ls.floor ls.pins)).any fun nd => decide (nd.seg = some q.2.num)) with
      | true => exact iteT ⟨_, rfl, hy _ (by simp only [hnd2, if_true]) H5 (Same.refl _)⟩
      | false => exact iteF (hn (by simp only [hnd2, Bool.false_eq_true, if_false]) H5 (Same.refl _))
    rw [e5] at e7
    have g3 : Gr [l] F H F1 H4 := g2.samef s4
    have g4 : Gr [l] F H (upd F1 D3 (.lst (cs.map V.ref))) H5 := g3.lc nD3 s5 e7
    have hl5 : H5 l = some (.ins (He.ga K "Ledger") dx (ledF c ls.now ls.floor pa D sa ls.up)) := s5 _ _ (s4 _ _ hl3)
    have nlD3 : D3 ≠ l := fun z => by
      rw [z, s4 _ _ hl3] at nD3
      cases nD3
    have nl5 : (upd F1 D3 (.lst (cs.map V.ref))) l = none := by rw [upd_ne nlD3.symm]; exact nl1
    refine ⟨_, rfl, l, _, dx, _, rfl, hl5, T.c_Ledger, T.n_Ledger_segments, (by show 8 < 1000; decide), ?_⟩
    rw [ledF_p_segments]
    have g5 := g4.put (o := .ins (He.ga K "Ledger") dx (ledF c ls.now ls.floor pa D D3 ls.up)) nl5 (.inr (by simp))
    have sf : Same F1 (upd F1 D3 (.lst (cs.map V.ref))) := same_new (g3.fh.free nD3)
    refine k _ _ g5 ⟨dx, pa, D, D3, upd_same, ⟨sf _ _ pp1.pins, ⟨bs, sf _ _ hD2, Paired.mono (fun _ _ z => z.mono sf) e2'⟩, ⟨cs, upd_same, Paired.mono (fun _ _ z => z.mono g5.ff) e6⟩⟩⟩
end
end K94
/-! The ledger's functions, part 2. -/
namespace K94
open PySem PySem.Spec PyProof.Rows L2
section
variable {P : Program} {w : World} {K : PySem.W.Frag} {mg : Str → Option Value} {base : Heap}
theorem sc_Ledger_end : FnScope ["self", "name", "note"] ["self", "name"] (defScope s_Ledger_end) := ⟨rfl, rfl, rfl, by decide +kernel, rfl, by decide +kernel, by decide +kernel⟩
def sp_end (K : PySem.W.Frag) (c : LC) : Sp := fun vs H Q _ => ∃ (F : Hp) (l : Addr) (ls : LS) (x : Str), vs = [.ref l, .str x] ∧ Same F H ∧ F l = none ∧ LedAt K F H c l ls ∧ ls.Fit ∧ ∀ F' H', Gr [l] F H F' H' → LedAt K F' H' c l (endL x ls) → Q .non H'
theorem ok_end (T : Tx w K mg) (c : LC) : C8.Met P w K mg base 4 (He.ga K "Ledger") "end" (sp_end K c) [] := by
  have c_Note_closed_by := ok_closed_by (P := P) (base := base) T
  refine met_mk (st := s_Ledger_end) T.d_Ledger_end T.c_Ledger T.m_Ledger_end sc_Ledger_end (fun _ _ _ _ _ _ us hl => match us, hl with | [_, _], _ => rfl) (fun vs H Q E h => ?_) (fun f cdv A outer s H vs Q E hr h => ?_)
  · obtain ⟨F, l, ls, x, rfl, _⟩ := h
    rfl
  · obtain ⟨F, l, ls, x, rfl, hF, nl, hL, fit, k⟩ := h
    obtain ⟨dx, pa, na, sa, hl, pp⟩ := hL.ex
    obtain ⟨nas, n1, n2⟩ := pp.notes
    have ln := n2.length
    have f1 := fit.notes
    refine ⟨_, (pss_one (ps_fld (pv 0) (pe_lc (own := [("note", 2)]) (g := gName 2) (tt := tYes) rfl sc_Ledger_end.nd (pi_list (pe_fldK (K := K) rfl (pv 0) rfl)) (blkOk_by (N := ["self", "name", "note"]) (sc := defScope s_Ledger_end) (by decide +kernel)) (fun _ _ _ _ _ => pg_name (i := 2) sc_Ledger_end.nd rfl (.inl rfl)) (fun _ _ _ _ _ => pts_nil) (fun _ _ _ _ _ => (pe_ifExp (PW.pt (pw_and (pt_cmpR op_eq (pe_fldK (K := K) rfl (pv 2) rfl) (pv 1) (nomark _)) (pw_and1 (pt_cmpR op_isN (pe_fldK (K := K) rfl (pv 2) rfl) pe_non (nomark _))))) (C8.pe_mt c_Note_closed_by hr (by decide) (pv 2) (pa_cons (pe_fldK (K := K) rfl (pv 0) rfl) pa_nil)) (pv 2)))) rfl)), ?_⟩
    refine ⟨_, rfl, l, _, dx, _, _, rfl, hl, T.c_Ledger, T.n_Ledger_notes, ledF_notes, na, rfl, ⟨_, SqL.of (hF _ _ n1)⟩, fun D nD => ?_⟩
    refine lc_grow walk_list nD hF (fun i w => (nas.map V.ref)[i]? = some w) (fun H4 q => SqL.of (q _ _ (hF _ _ n1))) (fun _ _ _ _ y => y) ls.notes (by rw [List.length_map]; exact ln.symm) (by rw [List.length_map]; omega) (fun z => some (closeN x ls.now z)) (fun F a nd => CNoteAt K F c.key a nd) (fun s e => e.mono s) ?_ ?_
    · intro i w nd Fi H4 Qn Qy rv hz gr hn hy
      obtain ⟨a, ha, rfl⟩ := map_at rv
      obtain ⟨nd', hnd, hat⟩ := paired_at n2 ha
      have en : nd' = nd := Option.some.inj (hnd.symm.trans hz)
      subst en
      obtain ⟨nx, ma, lv, h1, h2, h3⟩ := hat.mono gr.ff
      have h1' := gr.fh _ _ h1
      have keep : closeN x ls.now nd' = nd' → Qy (.ref a) H4 := fun e => hy _ rfl a Fi H4 (Gr.refl gr.fh) (by rw [e]; exact ⟨nx, ma, lv, h1, h2, h3⟩)
      refine ⟨rfl, lc_yes ?_⟩
      refine ⟨_, rfl, a, _, nx, _, _, rfl, h1', T.c_Note, T.n_Note_name, noteF_name, _, rfl, rfl, _, rfl, ?_⟩
      by_cases hx : nd'.r.name = x
      · rw [decide_eq_true (show V.str nd'.r.name = V.str x by rw [hx])]
        refine iteT ⟨_, rfl, a, _, nx, _, _, rfl, h1', T.c_Note, T.n_Note_died, noteF_died, rfl, _, rfl, ?_⟩
        cases hd : nd'.died with
        | none =>
          refine iteT ?_
          refine ⟨_, rfl, a, nx, _, rfl, h1', noteF_closed_by, _, rfl, l, _, dx, _, _, rfl, gr.hh _ _ hl, T.c_Ledger, T.n_Ledger_now, ledF_now, Fi, a, nx, nd'.r.name, nd'.num, ma, oV nd'.died, recV nd', oV nd'.seg, lv, _, ls.now, rfl, gr.fh, h1', sqT_same gr.fh h3, fun F' H' b dx' g e => ?_⟩
          refine hy _ rfl b F' H' g ?_
          have ec : closeN x ls.now nd' = { nd' with died := some ls.now } := by unfold closeN; rw [if_pos ⟨hx, hd⟩]
          rw [ec]
          exact ⟨dx', ma, lv, e, g.ff _ _ h2, sqT_same g.ff h3⟩
        | some d =>
          refine iteF ?_
          refine ⟨_, rfl, keep ?_⟩
          unfold closeN
          rw [if_neg (fun z => by rw [hd] at z; exact absurd z.2 (by simp))]
      · rw [decide_eq_false (show ¬ V.str nd'.r.name = V.str x from fun z => hx (V.str.inj z))]
        refine iteF ⟨_, rfl, keep ?_⟩
        unfold closeN
        rw [if_neg (fun z => hx z.1)]
    · intro F1 H1 bs gr nF e pr
      rw [List.filterMap_eq_map'] at pr
      have g1 : Gr [l] F H (upd F1 D (.lst (bs.map V.ref))) H1 := (Gr.refl hF).lcg nD gr nF e
      have hl1 := gr.hh _ _ hl
      have nlD : D ≠ l := fun z => by
        rw [z, hl] at nD
        cases nD
      have nl1 : (upd F1 D (.lst (bs.map V.ref))) l = none := by rw [upd_ne nlD.symm]; exact gr.out hl nl
      refine ⟨_, rfl, l, _, dx, _, rfl, hl1, T.c_Ledger, T.n_Ledger_notes, (by show 8 < 1000; decide), ?_⟩
      rw [ledF_p_notes]
      have g2 := g1.put (o := .ins (He.ga K "Ledger") dx (ledF c ls.now ls.floor pa D sa ls.up)) nl1 (.inr (by simp))
      have pp1 := pp.mono g2.ff
      refine k _ _ g2 ⟨dx, pa, D, sa, upd_same, ⟨pp1.pins, ⟨bs, upd_same, Paired.mono (fun _ _ z => z.mono (same_new nF)) pr⟩, pp1.segs⟩⟩
/-! ### who has this name, which segment has this number -/
theorem sc_Ledger_note_of : FnScope ["self", "name", "note"] ["self", "name"] (defScope s_Ledger_note_of) := ⟨rfl, rfl, rfl, by decide +kernel, rfl, by decide +kernel, by decide +kernel⟩
def sp_note_of (K : PySem.W.Frag) (c : LC) : Sp := fun vs H Q _ => ∃ (F : Hp) (l : Addr) (ls : LS) (x : Str), vs = [.ref l, .str x] ∧ Same F H ∧ LedAt K F H c l ls ∧ (hasN x ls = false → Q .non H) ∧ (hasN x ls = true → ∀ a, Q (.ref a) H)
theorem hasN_none {x : Str} {ns : List NoteD} (h : ∀ i (h : i < ns.length), ¬ (ns[i].r.name = x ∧ ns[i].died = none)) : (ns.any fun nd => decide (nd.r.name = x) && decide (nd.died = none)) = false := by
  rw [List.any_eq_false]
  intro nd hnd
  obtain ⟨i, hi, rfl⟩ := List.mem_iff_getElem.mp hnd
  simpa using h i hi
theorem ok_note_of (T : Tx w K mg) (c : LC) : C8.Met P w K mg base 1 (He.ga K "Ledger") "note_of" (sp_note_of K c) [] := by
  refine met_mk (st := s_Ledger_note_of) T.d_Ledger_note_of T.c_Ledger T.m_Ledger_note_of sc_Ledger_note_of (fun _ _ _ _ _ _ us hl => match us, hl with | [_, _], _ => rfl) (fun vs H Q E h => ?_) (fun f cdv A outer s H vs Q E hr h => ?_)
  · obtain ⟨F, l, ls, x, rfl, _⟩ := h
    rfl
  · obtain ⟨F, l, ls, x, rfl, hF, hL, k1, k2⟩ := h
    obtain ⟨dx, pa, na, sa, hl, pp⟩ := hL.ex
    obtain ⟨nas, n1, n2⟩ := pp.notes
    have ln := n2.length
    refine ⟨_, (pss_cons (ps_for PassesOwn.never rfl (pi_list (pe_fldK (K := K) rfl (pv 0) rfl)) (pg_name (i := 2) sc_Ledger_note_of.nd rfl (.inl rfl))
        (pss_one (ps_if (PW.pt (pw_and (pt_cmpR op_eq (pe_fldK (K := K) rfl (pv 2) rfl) (pv 1) (nomark _)) (pw_and1 (pt_cmpR op_isN (pe_fldK (K := K) rfl (pv 2) rfl) pe_non (nomark _)))))
          (pss_one (ps_ret (pv 2)))
          pss_nil)))
      (pss_one (ps_ret pe_non))), ?_⟩
    have n1' := hF _ _ n1
    refine ⟨_, rfl, l, _, dx, _, _, rfl, hl, T.c_Ledger, T.n_Ledger_notes, ledF_notes, na, rfl, ⟨_, SqL.of n1'⟩, for_list (K := K) (a := na) (xs := nas.map V.ref) (fun i σ H2 => H2 = H ∧ (∀ j (h : j < ls.notes.length), j < i → ¬ (ls.notes[j].r.name = x ∧ ls.notes[j].died = none)) ∧ ∃ y, σ = [some (.ref l), some (.str x), y]) ⟨rfl, fun j _ h => absurd h (Nat.not_lt_zero j), none, rfl⟩ (fun i σ H2 _ p => by rw [p.1]; exact SqL.of n1') ?_ ?_⟩
    · rintro i v σ H2 hi ⟨rfl, no, y, rfl⟩
      obtain ⟨a, ha, rfl⟩ := map_at hi
      obtain ⟨nd, hnd, nx, ma, lv, h1, h2, h3⟩ := paired_at n2 ha
      have h1' := hF _ _ h1
      obtain ⟨hlt, e⟩ := List.getElem?_eq_some_iff.mp hnd
      have next : ¬ (nd.r.name = x ∧ nd.died = none) → ∀ j (h : j < ls.notes.length), j < i + 1 → ¬ (ls.notes[j].r.name = x ∧ ls.notes[j].died = none) := fun z j h hj => by
        rcases Nat.lt_succ_iff_lt_or_eq.mp hj with hj | hj
        · exact no j h hj
        · subst hj
          rw [e]
          exact z
      refine ⟨_, rfl, a, _, nx, _, _, rfl, h1', T.c_Note, T.n_Note_name, noteF_name, _, rfl, rfl, _, rfl, ?_⟩
      by_cases hx : nd.r.name = x
      · rw [decide_eq_true (show V.str nd.r.name = V.str x by rw [hx])]
        refine iteT ⟨_, rfl, a, _, nx, _, _, rfl, h1', T.c_Note, T.n_Note_died, noteF_died, rfl, _, rfl, ?_⟩
        cases hd : nd.died with
        | none =>
          refine iteT ⟨_, rfl, k2 ?_ a⟩
          unfold hasN
          rw [List.any_eq_true]
          exact ⟨nd, e ▸ List.getElem_mem hlt, by simp [hx, hd]⟩
        | some d => exact iteF ⟨rfl, next (fun z => by rw [hd] at z; exact absurd z.2 (by simp)), _, rfl⟩
      · rw [decide_eq_false (show ¬ V.str nd.r.name = V.str x from fun z => hx (V.str.inj z))]
        exact iteF ⟨rfl, next (fun z => hx z.1), _, rfl⟩
    · rintro σ H2 ⟨rfl, no, y, rfl⟩
      rw [List.length_map] at no
      exact k1 (hasN_none fun i hi => no i hi (by omega))
theorem sc_Ledger_segment_of : FnScope ["self", "number", "segment"] ["self", "number"] (defScope s_Ledger_segment_of) := ⟨rfl, rfl, rfl, by decide +kernel, rfl, by decide +kernel, by decide +kernel⟩
def sp_segment_of (K : PySem.W.Frag) (c : LC) : Sp := fun vs H Q _ => ∃ (F : Hp) (l : Addr) (ls : LS) (n : Int), vs = [.ref l, .int n] ∧ Same F H ∧ LedAt K F H c l ls ∧ ((ls.segs.any fun s => decide (s.num = n)) = false → Q .non H) ∧ ((ls.segs.any fun s => decide (s.num = n)) = true → ∀ a, Q (.ref a) H)
theorem ok_segment_of (T : Tx w K mg) (c : LC) : C8.Met P w K mg base 1 (He.ga K "Ledger") "segment_of" (sp_segment_of K c) [] := by
  refine met_mk (st := s_Ledger_segment_of) T.d_Ledger_segment_of T.c_Ledger T.m_Ledger_segment_of sc_Ledger_segment_of (fun _ _ _ _ _ _ us hl => match us, hl with | [_, _], _ => rfl) (fun vs H Q E h => ?_) (fun f cdv A outer s H vs Q E hr h => ?_)
  · obtain ⟨F, l, ls, x, rfl, _⟩ := h
    rfl
  · obtain ⟨F, l, ls, n, rfl, hF, hL, k1, k2⟩ := h
    obtain ⟨dx, pa, na, sa, hl, pp⟩ := hL.ex
    obtain ⟨nas, n1, n2⟩ := pp.segs
    have ln := n2.length
    refine ⟨_, (pss_cons (ps_for PassesOwn.never rfl (pi_list (pe_fldK (K := K) rfl (pv 0) rfl)) (pg_name (i := 2) sc_Ledger_segment_of.nd rfl (.inl rfl))
        (pss_one (ps_if (pt_cmpR op_eq (pe_fldK (K := K) rfl (pv 2) rfl) (pv 1) (nomark _))
          (pss_one (ps_ret (pv 2)))
          pss_nil)))
      (pss_one (ps_ret pe_non))), ?_⟩
    have n1' := hF _ _ n1
    refine ⟨_, rfl, l, _, dx, _, _, rfl, hl, T.c_Ledger, T.n_Ledger_segments, ledF_segments, sa, rfl, ⟨_, SqL.of n1'⟩, for_list (K := K) (a := sa) (xs := nas.map V.ref) (fun i σ H2 => H2 = H ∧ (∀ j (h : j < ls.segs.length), j < i → ¬ ls.segs[j].num = n) ∧ ∃ y, σ = [some (.ref l), some (.int n), y]) ⟨rfl, fun j _ h => absurd h (Nat.not_lt_zero j), none, rfl⟩ (fun i σ H2 _ p => by rw [p.1]; exact SqL.of n1') ?_ ?_⟩
    · rintro i v σ H2 hi ⟨rfl, no, y, rfl⟩
      obtain ⟨a, ha, rfl⟩ := map_at hi
      obtain ⟨sd, hnd, nx, pa2, h1, h2⟩ := paired_at n2 ha
      have h1' := hF _ _ h1
      obtain ⟨hlt, e⟩ := List.getElem?_eq_some_iff.mp hnd
      refine ⟨_, rfl, a, _, nx, _, _, rfl, h1', T.c_Segment, T.n_Segment_number, segF_number _ _ _, _, rfl, rfl, _, rfl, ?_⟩
      by_cases hx : sd.num = n
      · rw [decide_eq_true (show V.int sd.num = V.int n by rw [hx])]
        refine iteT ⟨_, rfl, k2 ?_ a⟩
        rw [List.any_eq_true]
        exact ⟨sd, e ▸ List.getElem_mem hlt, by simp [hx]⟩
      · rw [decide_eq_false (show ¬ V.int sd.num = V.int n from fun z => hx (V.int.inj z))]
        refine iteF ⟨rfl, fun j h hj => ?_, _, rfl⟩
        rcases Nat.lt_succ_iff_lt_or_eq.mp hj with hj | hj
        · exact no j h hj
        · subst hj
          rw [e]
          exact hx
    · rintro σ H2 ⟨rfl, no, y, rfl⟩
      rw [List.length_map] at no
      refine k1 ?_
      rw [List.any_eq_false]
      intro sd hsd
      obtain ⟨i, hi, rfl⟩ := List.mem_iff_getElem.mp hsd
      simpa using no i hi (by omega)
end
end K94
/-! The ledger's functions, part 3. -/
namespace K94
open PySem PySem.Spec PyProof.Rows L2
theorem cut_to (xs : List V) (j : Nat) (h : j ≤ xs.length) : cutV xs none (some (j : Int)) = xs.take j := by
  unfold cutV
  rw [HT.sIx_none, HT.sIx_nat, Nat.min_eq_left h]
  simp
theorem cut_from (xs : List V) (j : Nat) (h : j ≤ xs.length) : cutV xs (some (j : Int)) none = xs.drop j := by
  unfold cutV
  rw [HT.sIx_none, HT.sIx_nat, Nat.min_eq_left h]
  rw [List.take_of_length_le]
  rw [List.length_drop]
  exact Nat.le_refl _
theorem inV_ints (n : Int) : ∀ ns : List Int, inV (.int n) (ns.map V.int) = decide (n ∈ ns)
  | [] => rfl
  | m :: r => by
    have ih := inV_ints n r
    unfold inV at ih ⊢
    rw [List.map_cons, List.any_cons, ih]
    show (m == n || decide (n ∈ r)) = _
    rw [Bool.eq_iff_iff, Bool.or_eq_true, beq_iff_eq, decide_eq_true_eq, decide_eq_true_eq, List.mem_cons]
    exact ⟨fun h => h.imp Eq.symm id, fun h => h.imp Eq.symm id⟩
theorem flat_ints : ∀ ns : List Int, (ns.map V.int).all flatV = true
  | [] => rfl
  | m :: r => by
    rw [List.map_cons, List.all_cons, flat_ints r]
    rfl
theorem idx_ints {n : Int} {ns : List Int} (h : n ∈ ns) : (ns.map V.int)[ns.idxOf n]? = some (.int n) ∧ eqV (.int n) (.int n) = true ∧ ∀ (m : Nat) (z : V), m < ns.idxOf n → (ns.map V.int)[m]? = some z → eqV z (.int n) = false := by
  have hl := List.idxOf_lt_length_of_mem h
  refine ⟨?_, ?_, fun m z hm hz => ?_⟩
  · rw [List.getElem?_map, List.getElem?_eq_getElem hl, List.getElem_idxOf hl]
    rfl
  · exact beq_self_eq_true n
  · obtain ⟨k, hk, rfl⟩ := map_at hz
    show (k == n) = false
    have := List.not_of_lt_findIdx (p := fun x => x == n) (xs := ns) (i := m) hm
    obtain ⟨h1, h2⟩ := List.getElem?_eq_some_iff.mp hk
    subst h2
    cases h : (ns[m] == n) with
    | false => rfl
    | true =>
      rw [h] at this
      cases this
section
variable {P : Program} {w : World} {K : PySem.W.Frag} {mg : Str → Option Value} {base : Heap}
/-! ### pin -/
theorem sc_Ledger_pin : FnScope ["self"] ["self"] (defScope s_Ledger_pin) := ⟨rfl, rfl, rfl, by decide +kernel, rfl, by decide +kernel, by decide +kernel⟩
def sp_pin (K : PySem.W.Frag) (c : LC) : Sp := fun vs H Q _ => ∃ (F : Hp) (l : Addr) (ls : LS), vs = [.ref l] ∧ Same F H ∧ F l = none ∧ LedAt K F H c l ls ∧ ls.Fit ∧ ∀ F' H', Gr [l] F H F' H' → LedAt K F' H' c l (pinL ls) → Q (.int ls.now) H'
theorem ok_pin (T : Tx w K mg) (c : LC) : C8.Met P w K mg base 1 (He.ga K "Ledger") "pin" (sp_pin K c) [] := by
  refine met_mk (st := s_Ledger_pin) T.d_Ledger_pin T.c_Ledger T.m_Ledger_pin sc_Ledger_pin (fun _ _ _ _ _ _ us hl => match us, hl with | [_], _ => rfl) (fun vs H Q E h => ?_) (fun f cdv A outer s H vs Q E hr h => ?_)
  · obtain ⟨F, l, ls, rfl, _⟩ := h
    rfl
  · obtain ⟨F, l, ls, rfl, hF, nl, hL, fit, k⟩ := h
    obtain ⟨dx, pa, na, sa, hl, pp⟩ := hL.ex
    have fp := fit.pins
    refine ⟨_, (pss_cons (ps_fld (pv 0) (pe_op op_cat (pe_fldK (K := K) rfl (pv 0) rfl) (pe_lst (pa_cons (pe_fldK (K := K) rfl (pv 0) rfl) pa_nil))) rfl)
      (pss_one (ps_ret (pe_fldK (K := K) rfl (pv 0) rfl)))), ?_⟩
    refine ⟨_, rfl, l, _, dx, _, _, rfl, hl, T.c_Ledger, T.n_Ledger_pins, ledF_pins, ?_⟩
    refine ⟨_, rfl, l, _, dx, _, _, rfl, hl, T.c_Ledger, T.n_Ledger_now, ledF_now, (by show 1 ≤ sizeLine; decide), fun p np => ?_⟩
    refine ⟨pa, p, _, _, rfl, rfl, same_new np _ _ (hF _ _ pp.pins), upd_same, le1000 (by rw [List.length_map]; show _ + 1 ≤ _; omega), fun q nq => ?_⟩
    have g1 : Gr [l] F H F (upd H p (.lst [V.int ls.now])) := (Gr.refl hF).made np
    have g2 := g1.new_ (o := .lst (ls.pins.map V.int ++ [V.int ls.now])) nq
    have hl1 : (upd H p (.lst [V.int ls.now])) l = _ := same_new np _ _ hl
    have nql : q ≠ l := fun z => by
      rw [z, hl1] at nq
      cases nq
    have nl2 : (upd F q (.lst (ls.pins.map V.int ++ [V.int ls.now]))) l = none := by rw [upd_ne nql.symm]; exact nl
    refine ⟨_, rfl, l, _, dx, _, rfl, by rw [upd_ne nql.symm]; exact hl1, T.c_Ledger, T.n_Ledger_pins, (by show 8 < 1000; decide), ?_⟩
    rw [ledF_p_pins]
    refine ⟨_, rfl, l, _, dx, _, _, rfl, upd_same, T.c_Ledger, T.n_Ledger_now, ledF_now, ?_⟩
    have g3 := g2.put (o := .ins (He.ga K "Ledger") dx (ledF c ls.now ls.floor q na sa ls.up)) nl2 (.inr (by simp))
    have pp1 := pp.mono g3.ff
    refine k _ _ g3 ⟨dx, q, na, sa, upd_same, ⟨?_, pp1.notes, pp1.segs⟩⟩
    show (upd F q (.lst (ls.pins.map V.int ++ [V.int ls.now]))) q = some (.lst ((ls.pins ++ [ls.now]).map V.int))
    rw [upd_same, List.map_append]
    rfl
/-! ### unpin -/
theorem sc_Ledger_unpin : FnScope ["self", "moment", "at"] ["self", "moment"] (defScope s_Ledger_unpin) := ⟨rfl, rfl, rfl, by decide +kernel, rfl, by decide +kernel, by decide +kernel⟩
def sp_unpin (K : PySem.W.Frag) (c : LC) : Sp := fun vs H Q _ => ∃ (F : Hp) (l : Addr) (ls : LS) (m : Int), vs = [.ref l, .int m] ∧ Same F H ∧ F l = none ∧ LedAt K F H c l ls ∧ ls.Fit ∧ m ∈ ls.pins ∧ ∀ F' H', Gr [l] F H F' H' → LedAt K F' H' c l (unpinL m ls) → Q .non H'
theorem cutPins_len (ns : List Int) (m : Int) : (cutPins ns m).length ≤ ns.length := by
  unfold cutPins
  rw [List.length_append, List.length_take, List.length_drop]
  omega
theorem ok_unpin (T : Tx w K mg) (c : LC) : C8.Met P w K mg base 4 (He.ga K "Ledger") "unpin" (sp_unpin K c) [] := by
  have c_Ledger_tidy := ok_tidy (P := P) (base := base) T c
  refine met_mk (st := s_Ledger_unpin) T.d_Ledger_unpin T.c_Ledger T.m_Ledger_unpin sc_Ledger_unpin (fun _ _ _ _ _ _ us hl => match us, hl with | [_, _], _ => rfl) (fun vs H Q E h => ?_) (fun f cdv A outer s H vs Q E hr h => ?_)
  · obtain ⟨F, l, ls, m, rfl, _⟩ := h
    rfl
  · obtain ⟨F, l, ls, m, rfl, hF, nl, hL, fit, hm, k⟩ := h
    obtain ⟨dx, pa, na, sa, hl, pp⟩ := hL.ex
    have fp := fit.pins
    have hp := hF _ _ pp.pins
    have hlt := List.idxOf_lt_length_of_mem hm
    refine ⟨_, (pss_cons (ps_if (pt_cmpR (op_notIn_seqK (K := K) rfl) (pv 1) (pe_fldK (K := K) rfl (pv 0) rfl) (by rfl))
        (pss_one (ps_never))
        pss_nil)
      (pss_cons (ps_set (i := 2) sc_Ledger_unpin.nd rfl (.inl rfl) (pe_bm PySem.F.plainAttrs_list PySem.F.slot_list_index PySem.F.type_list_index mt_index (pe_fldK (K := K) rfl (pv 0) rfl) (pa_cons (pv 1) pa_nil)))
      (pss_cons (ps_fld (pv 0) (pe_op op_cat (pe_slice sl_list (pe_fldK (K := K) rfl (pv 0) rfl) po_none (po_some (pv 2))) (pe_slice sl_list (pe_fldK (K := K) rfl (pv 0) rfl) (po_some (pe_op op_add (pv 2) pe_int)) po_none)) rfl)
      (pss_one (ps_expr (C8.pe_mt0 c_Ledger_tidy hr (by decide) (pv 0))))))), ?_⟩
    refine ⟨_, rfl, _, rfl, l, _, dx, _, _, rfl, hl, T.c_Ledger, T.n_Ledger_pins, ledF_pins, pa, _, rfl, .inl (SqL.of hp), rfl, flat_ints _, _, rfl, ?_⟩
    rw [inV_ints, decide_eq_true hm]
    refine iteF ?_
    obtain ⟨z1, z2, z3⟩ := idx_ints hm
    refine ⟨_, rfl, l, _, dx, _, _, rfl, hl, T.c_Ledger, T.n_Ledger_pins, ledF_pins, .inl ⟨rfl, _, SqL.of hp⟩, _, rfl, pa, _, _, ls.pins.idxOf m, _, rfl, rfl, SqL.of hp, rfl, flat_ints _, z1, z2, z3, ?_⟩
    refine ⟨_, rfl, l, _, dx, _, _, rfl, hl, T.c_Ledger, T.n_Ledger_pins, ledF_pins, _, rfl, _, rfl, pa, _, rfl, SqL.of hp, fun p np => ?_⟩
    rw [cut_to _ _ (by rw [List.length_map]; omega)]
    have s1 : Same H (upd H p (.lst ((ls.pins.map V.int).take (ls.pins.idxOf m)))) := same_new np
    refine ⟨_, rfl, l, _, dx, _, _, rfl, s1 _ _ hl, T.c_Ledger, T.n_Ledger_pins, ledF_pins, _, rfl, _, _, rfl, rfl, _, rfl, pa, _, rfl, SqL.of (s1 _ _ hp), fun q nq => ?_⟩
    rw [show ((ls.pins.idxOf m : Nat) : Int) + 1 = ((ls.pins.idxOf m + 1 : Nat) : Int) by omega, cut_from _ _ (by rw [List.length_map]; omega)]
    have s2 := same_app (o := .lst ((ls.pins.map V.int).drop (ls.pins.idxOf m + 1))) s1 nq
    have npq : p ≠ q := fun z => by
      rw [← z, upd_same] at nq
      cases nq
    refine ⟨p, q, _, _, rfl, rfl, by rw [upd_ne npq, upd_same], upd_same, le1000 (by rw [List.length_take, List.length_drop, List.length_map]; omega), fun r nr => ?_⟩
    have g1 := ((Gr.refl (S := [l]) hF).samef s2).new_ (o := .lst ((ls.pins.map V.int).take (ls.pins.idxOf m) ++ (ls.pins.map V.int).drop (ls.pins.idxOf m + 1))) nr
    have nrl : r ≠ l := fun z => by
      rw [z, s2 _ _ hl] at nr
      cases nr
    refine ⟨_, rfl, l, _, dx, _, rfl, by rw [upd_ne nrl.symm]; exact s2 _ _ hl, T.c_Ledger, T.n_Ledger_pins, (by show 8 < 1000; decide), ?_⟩
    rw [ledF_p_pins]
    have nl2 : (upd F r (.lst ((ls.pins.map V.int).take (ls.pins.idxOf m) ++ (ls.pins.map V.int).drop (ls.pins.idxOf m + 1)))) l = none := by rw [upd_ne nrl.symm]; exact nl
    have g3 := g1.put (o := .ins (He.ga K "Ledger") dx (ledF c ls.now ls.floor r na sa ls.up)) nl2 (.inr (by simp))
    have pp1 := pp.mono g3.ff
    refine ⟨_, rfl, l, dx, _, rfl, upd_same, ledF_no (by simp), _, l, { ls with pins := cutPins ls.pins m }, rfl, g3.fh, nl2, ⟨dx, r, na, sa, upd_same, ⟨?_, pp1.notes, pp1.segs⟩⟩, ⟨Nat.le_trans (cutPins_len _ _) fp, fit.notes, fit.segs⟩, fun F' H' g hL' => ?_⟩
    · show (upd F r _) r = some (.lst ((cutPins ls.pins m).map V.int))
      rw [upd_same]
      unfold cutPins
      rw [List.map_append, List.map_take, List.map_drop]
    · exact k _ _ (g3.trans g) hL'
/-! ### lift -/
theorem sc_Ledger_lift : FnScope ["self", "moment"] ["self", "moment"] (defScope s_Ledger_lift) := ⟨rfl, rfl, rfl, by decide +kernel, rfl, by decide +kernel, by decide +kernel⟩
def sp_lift (K : PySem.W.Frag) (c : LC) : Sp := fun vs H Q _ => ∃ (F : Hp) (l : Addr) (ls : LS) (m : Int), vs = [.ref l, .int m] ∧ Same F H ∧ F l = none ∧ LedAt K F H c l ls ∧ ls.Fit ∧ ∀ F' H', Gr [l] F H F' H' → LedAt K F' H' c l (liftL m ls) → Q (.int (max ls.floor (min m ls.now))) H'
theorem max_ite (a b : Int) : (if b > a then b else a) = max a b := by
  rw [Int.max_def]
  split <;> split <;> omega
theorem min_ite (a b : Int) : (if b < a then b else a) = min a b := by
  rw [Int.min_def]
  split <;> split <;> omega
theorem ok_lift (T : Tx w K mg) (c : LC) : C8.Met P w K mg base 4 (He.ga K "Ledger") "lift" (sp_lift K c) [] := by
  have c_Ledger_tidy := ok_tidy (P := P) (base := base) T c
  refine met_mk (st := s_Ledger_lift) T.d_Ledger_lift T.c_Ledger T.m_Ledger_lift sc_Ledger_lift (fun _ _ _ _ _ _ us hl => match us, hl with | [_, _], _ => rfl) (fun vs H Q E h => ?_) (fun f cdv A outer s H vs Q E hr h => ?_)
  · obtain ⟨F, l, ls, m, rfl, _⟩ := h
    rfl
  · obtain ⟨F, l, ls, m, rfl, hF, nl, hL, fit, k⟩ := h
    obtain ⟨dx, pa, na, sa, hl, pp⟩ := hL.ex
    refine ⟨_, (pss_cons (ps_fld (pv 0) (pe_callB (call_max2 rfl) (by rfl) T.z_max (by decide +kernel) (pa_cons (pe_fldK (K := K) rfl (pv 0) rfl) (pa_cons (pe_callB (call_min2 rfl) (by rfl) T.z_min (by decide +kernel) (pa_cons (pv 1) (pa_cons (pe_fldK (K := K) rfl (pv 0) rfl) pa_nil))) pa_nil))) rfl)
      (pss_cons (ps_expr (C8.pe_mt0 c_Ledger_tidy hr (by decide) (pv 0)))
      (pss_one (ps_ret (pe_fldK (K := K) rfl (pv 0) rfl))))), ?_⟩
    refine ⟨_, rfl, l, _, dx, _, _, rfl, hl, T.c_Ledger, T.n_Ledger_floor, ledF_floor, ?_⟩
    refine ⟨_, rfl, _, rfl, l, _, dx, _, _, rfl, hl, T.c_Ledger, T.n_Ledger_now, ledF_now, _, _, rfl, ?_⟩
    refine ⟨_, _, rfl, ?_⟩
    rw [min_ite, max_ite]
    refine ⟨_, rfl, l, _, dx, _, rfl, hl, T.c_Ledger, T.n_Ledger_floor, (by show 8 < 1000; decide), ?_⟩
    rw [ledF_p_floor]
    have g1 := (Gr.refl (S := [l]) hF).put (o := .ins (He.ga K "Ledger") dx (ledF c ls.now (max ls.floor (min m ls.now)) pa na sa ls.up)) nl (.inr (by simp))
    refine ⟨_, rfl, l, dx, _, rfl, upd_same, ledF_no (by simp), F, l, { ls with floor := max ls.floor (min m ls.now) }, rfl, g1.fh, nl, ⟨dx, pa, na, sa, upd_same, ⟨pp.pins, pp.notes, pp.segs⟩⟩, ⟨fit.pins, fit.notes, fit.segs⟩, fun F' H' g hL' => ?_⟩
    have hL2 := hL'
    obtain ⟨dx2, pa2, na2, sa2, hl2, pp2⟩ := hL2.ex
    exact ⟨_, rfl, l, _, dx2, _, _, rfl, hl2, T.c_Ledger, T.n_Ledger_floor, ledF_floor, k _ _ (g1.trans g) hL'⟩
/-! ### drop -/
theorem sc_Ledger_drop : FnScope ["self", "name"] ["self", "name"] (defScope s_Ledger_drop) := ⟨rfl, rfl, rfl, by decide +kernel, rfl, by decide +kernel, by decide +kernel⟩
def sp_drop (K : PySem.W.Frag) (c : LC) : Sp := fun vs H Q _ => ∃ (F : Hp) (l : Addr) (ls : LS) (x : Str), vs = [.ref l, .str x] ∧ Same F H ∧ F l = none ∧ LedAt K F H c l ls ∧ ls.Fit ∧ ∀ F' H', Gr [l] F H F' H' → LedAt K F' H' c l (dropL x ls) → Q (if hasN x ls = true then .int (ls.now + 1) else .non) H'
theorem endL_fit {ls : LS} (f : ls.Fit) (x : Str) : (endL x ls).Fit := ⟨f.pins, by show (ls.notes.map _).length ≤ _; rw [List.length_map]; exact f.notes, f.segs⟩
theorem ok_drop (T : Tx w K mg) (c : LC) : C8.Met P w K mg base 5 (He.ga K "Ledger") "drop" (sp_drop K c) [] := by
  have c_Ledger_tidy := ok_tidy (P := P) (base := base) T c
  have c_Ledger_end := ok_end (P := P) (base := base) T c
  have c_Ledger_note_of := ok_note_of (P := P) (base := base) T c
  refine met_mk (st := s_Ledger_drop) T.d_Ledger_drop T.c_Ledger T.m_Ledger_drop sc_Ledger_drop (fun _ _ _ _ _ _ us hl => match us, hl with | [_, _], _ => rfl) (fun vs H Q E h => ?_) (fun f cdv A outer s H vs Q E hr h => ?_)
  · obtain ⟨F, l, ls, m, rfl, _⟩ := h
    rfl
  · obtain ⟨F, l, ls, x, rfl, hF, nl, hL, fit, k⟩ := h
    obtain ⟨dx, pa, na, sa, hl, pp⟩ := hL.ex
    refine ⟨_, (pss_cons (ps_if (pt_cmpR op_isN (C8.pe_mt c_Ledger_note_of hr (by decide) (pv 0) (pa_cons (pv 1) pa_nil)) pe_non (nomark _))
        (pss_one (ps_ret pe_non))
        pss_nil)
      (pss_cons (ps_fld (pv 0) (pe_op op_add (pe_fldK (K := K) rfl (pv 0) rfl) pe_int) rfl)
      (pss_cons (ps_expr (C8.pe_mt c_Ledger_end hr (by decide) (pv 0) (pa_cons (pv 1) pa_nil)))
      (pss_cons (ps_expr (C8.pe_mt0 c_Ledger_tidy hr (by decide) (pv 0)))
      (pss_one (ps_ret (pe_fldK (K := K) rfl (pv 0) rfl))))))), ?_⟩
    refine ⟨_, rfl, l, dx, _, rfl, hl, ledF_no (by simp), _, rfl, F, l, ls, x, rfl, hF, hL, fun hn => ?_, fun hn a => ?_⟩
    · refine ⟨rfl, _, rfl, iteT ?_⟩
      have e : dropL x ls = ls := by unfold dropL; rw [hn]; simp
      rw [e, if_neg (by rw [hn]; decide)] at k
      exact k _ _ (Gr.refl hF) hL
    · refine ⟨rfl, _, rfl, iteF ?_⟩
      have e : dropL x ls = tidyL (endL x { ls with now := ls.now + 1 }) := by unfold dropL; rw [hn]; simp
      rw [e, if_pos hn] at k
      refine ⟨_, rfl, l, _, dx, _, _, rfl, hl, T.c_Ledger, T.n_Ledger_now, ledF_now, _, _, rfl, rfl, ?_⟩
      refine ⟨_, rfl, l, _, dx, _, rfl, hl, T.c_Ledger, T.n_Ledger_now, (by show 8 < 1000; decide), ?_⟩
      rw [ledF_p_now]
      have g1 := (Gr.refl (S := [l]) hF).put (o := .ins (He.ga K "Ledger") dx (ledF c (ls.now + 1) ls.floor pa na sa ls.up)) nl (.inr (by simp))
      refine ⟨_, rfl, l, dx, _, rfl, upd_same, ledF_no (by simp), _, rfl, F, l, { ls with now := ls.now + 1 }, x, rfl, g1.fh, nl, ⟨dx, pa, na, sa, upd_same, ⟨pp.pins, pp.notes, pp.segs⟩⟩, ⟨fit.pins, fit.notes, fit.segs⟩, fun F2 H2 g2 hL2 => ?_⟩
      obtain ⟨dx2, pa2, na2, sa2, hl2, pp2⟩ := hL2.ex
      refine ⟨_, rfl, l, dx2, _, rfl, hl2, ledF_no (by simp), F2, l, _, rfl, g2.fh, g2.out upd_same nl, hL2, endL_fit (ls := { ls with now := ls.now + 1 }) ⟨fit.pins, fit.notes, fit.segs⟩ x, fun F3 H3 g3 hL3 => ?_⟩
      obtain ⟨dx3, pa3, na3, sa3, hl3, pp3⟩ := hL3.ex
      exact ⟨_, rfl, l, _, dx3, _, _, rfl, hl3, T.c_Ledger, T.n_Ledger_now, ledF_now, k _ _ ((g1.trans g2).trans g3) hL3⟩
end
end K94
/-! The ledger's functions, part 4. -/
namespace K94
open PySem PySem.Spec PyProof.Rows L2
theorem putK_snoc {kvs : List (Key × V)} {k : Key} {v : V} (h : valV kvs k = none) : putK kvs k v = kvs ++ [(k, v)] := putK_new v h
/-- the entries of a dict: numbers, and what stands for each -/
def kvsOf {α : Type} (num : α → Int) (as : List Addr) (xs : List α) : List (Key × V) := (xs.zip as).map fun q => (.inl (num q.1), .ref q.2)
theorem val_kvs {α : Type} {R : Addr → α → Prop} (num : α → Int) (n : Int) : ∀ {as : List Addr} {xs : List α}, Paired R as xs → (xs.find? (fun h => decide (num h = n)) = none → valV (kvsOf num as xs) (.inl n) = none) ∧ ∀ h, xs.find? (fun h => decide (num h = n)) = some h → ∃ a, valV (kvsOf num as xs) (.inl n) = some (.ref a) ∧ R a h
  | _, _, .nil => ⟨fun _ => rfl, fun h e => by cases e⟩
  | _, _, .cons (a := a) (b := x) (l₁ := as) (l₂ := xs) r t => by
    obtain ⟨h1, h2⟩ := val_kvs num n t
    have e : kvsOf num (a :: as) (x :: xs) = (.inl (num x), .ref a) :: kvsOf num as xs := rfl
    rw [e]
    by_cases hx : num x = n
    · have e2 : (x :: xs).find? (fun h => decide (num h = n)) = some x := by rw [List.find?_cons]; simp [hx]
      rw [e2]
      refine ⟨fun z => (by cases z), fun h z => ?_⟩
      cases z
      exact ⟨a, valV_pos (by show (Sum.inl (num x) : Key) = .inl n; rw [hx]), r⟩
    · have e2 : (x :: xs).find? (fun h => decide (num h = n)) = xs.find? (fun h => decide (num h = n)) := by rw [List.find?_cons]; simp [hx]
      have e3 : valV ((Sum.inl (num x), V.ref a) :: kvsOf num as xs) (.inl n) = valV (kvsOf num as xs) (.inl n) := valV_neg (fun z => hx (Sum.inl.inj z))
      rw [e2, e3]
      exact ⟨h1, h2⟩
theorem kvsOf_snoc {α : Type} (num : α → Int) {as : List Addr} {xs : List α} (hl : as.length = xs.length) (a : Addr) (x : α) : kvsOf num (as ++ [a]) (xs ++ [x]) = kvsOf num as xs ++ [(.inl (num x), .ref a)] := by
  unfold kvsOf
  rw [List.zip_append hl.symm, List.map_append]
  rfl
theorem kvsOf_len {α : Type} (num : α → Int) (as : List Addr) (xs : List α) : (kvsOf num as xs).length ≤ xs.length := by
  unfold kvsOf
  rw [List.length_map, List.length_zip]
  exact Nat.min_le_left _ _
theorem find_take_none {α : Type} {num : α → Int} {xs : List α} (nd : (xs.map num).Nodup) {i : Nat} {x : α} (h : xs[i]? = some x) : (xs.take i).find? (fun h => decide (num h = num x)) = none := by
  rw [List.find?_eq_none]
  intro y hy
  obtain ⟨j, hj, rfl⟩ := List.mem_iff_getElem.mp hy
  rw [List.length_take] at hj
  rw [List.getElem_take]
  obtain ⟨hi, e⟩ := List.getElem?_eq_some_iff.mp h
  intro z
  have z := of_decide_eq_true z
  rw [← e] at z
  have := (List.getElem_inj (xs := xs.map num) (i := j) (j := i) (h₀ := by rw [List.length_map]; omega) (h₁ := by rw [List.length_map]; omega) nd).mp (by rw [List.getElem_map, List.getElem_map]; exact z)
  omega
section
variable {P : Program} {w : World} {K : PySem.W.Frag} {mg : Str → Option Value} {base : Heap}
/-! ### put -/
theorem sc_Ledger_put : FnScope ["self", "record", "mark"] ["self", "record"] (defScope s_Ledger_put) := ⟨rfl, rfl, rfl, by decide +kernel, rfl, by decide +kernel, by decide +kernel⟩
def sp_put (K : PySem.W.Frag) (c : LC) : Sp := fun vs H Q _ => ∃ (F : Hp) (l ra : Addr) (ls : LS) (r : Rec), vs = [.ref l, .ref ra] ∧ Same F H ∧ F l = none ∧ LedAt K F H c l ls ∧ ls.Fit ∧ ls.notes.length < 1000 ∧ LcAt K F c ∧ RecAt K F ra r ∧ RecOk c.d r ∧ Small r ∧ ∀ F' H', Gr [l] F H F' H' → LedAt K F' H' c l (putL ra r ls) → Q (.int (ls.now + 1)) H'
theorem ok_put (T : Tx w K mg) (c : LC) : C8.Met P w K mg base 6 (He.ga K "Ledger") "put" (sp_put K c) [] := by
  have c_Ledger_tidy := ok_tidy (P := P) (base := base) T c
  have c_Ledger_end := ok_end (P := P) (base := base) T c
  have c_Schema_check := ok_check (P := P) (base := base) T
  have c_mark_of := ok_mark_of (P := P) (base := base) T
  have c_Note := mk_Note1 (P := P) (base := base) T
  refine met_mk (st := s_Ledger_put) T.d_Ledger_put T.c_Ledger T.m_Ledger_put sc_Ledger_put (fun _ _ _ _ _ _ us hl => match us, hl with | [_, _], _ => rfl) (fun vs H Q E h => ?_) (fun f cdv A outer s H vs Q E hr h => ?_)
  · obtain ⟨F, l, ra, ls, r, rfl, _⟩ := h
    rfl
  · obtain ⟨F, l, ra, ls, r, rfl, hF, nl, hL, fit, few, hc, hra, rok, sm, k⟩ := h
    obtain ⟨dx, pa, na, sa, hl, pp⟩ := hL.ex
    obtain ⟨sx, sft, st1, st2, s1, s2, s3, s4⟩ := hc.sch.ex
    obtain ⟨rdx, vt, rft, wt, fas, was, r1, r2, r3, r4, r5, r6⟩ := hra.ex
    have fn := fit.notes
    refine ⟨_, (pss_cons (ps_expr (C8.pe_mt c_Schema_check hr (by decide) (pe_fldK (K := K) rfl (pv 0) rfl) (pa_cons (pv 1) pa_nil)))
      (pss_cons (ps_fld (pv 0) (pe_op op_add (pe_fldK (K := K) rfl (pv 0) rfl) pe_int) rfl)
      (pss_cons (ps_expr (C8.pe_mt c_Ledger_end hr (by decide) (pv 0) (pa_cons (pe_fldK (K := K) rfl (pv 1) rfl) pa_nil)))
      (pss_cons (ps_set (i := 2) sc_Ledger_put.nd rfl (.inl rfl) (C8.pe_c c_mark_of hr (by decide) (by rfl) (pa_cons (pe_fldK (K := K) rfl (pv 0) rfl) (pa_cons (pe_fldK (K := K) rfl (pv 0) rfl) (pa_cons (pv 1) pa_nil)))))
      (pss_cons (ps_fld (pv 0) (pe_op op_cat (pe_fldK (K := K) rfl (pv 0) rfl) (pe_lst (pa_cons (pe_mkN c_Note hr (by decide) (by rfl) (pa_cons (pe_fldK (K := K) rfl (pv 1) rfl) (pa_cons (pe_fldK (K := K) rfl (pv 0) rfl) (pa_cons (pv 2) pa_nil))) (pk_cons (pv 1) pk_nil)) pa_nil))) rfl)
      (pss_cons (ps_expr (C8.pe_mt0 c_Ledger_tidy hr (by decide) (pv 0)))
      (pss_one (ps_ret (pe_fldK (K := K) rfl (pv 0) rfl))))))))), ?_⟩
    refine ⟨_, rfl, l, _, dx, _, _, rfl, hl, T.c_Ledger, T.n_Ledger_schema, ledF_schema, c.sa, sx, _, rfl, hF _ _ s1, (schF_no c.d sft).2.2, _, rfl, c.sa, ra, c.d, r, rfl, hc.sch.mono hF, hc.ok, hra.mono hF, rok, ?_⟩
    refine ⟨_, rfl, l, _, dx, _, _, rfl, hl, T.c_Ledger, T.n_Ledger_now, ledF_now, _, _, rfl, rfl, ?_⟩
    refine ⟨_, rfl, l, _, dx, _, rfl, hl, T.c_Ledger, T.n_Ledger_now, (by show 8 < 1000; decide), ?_⟩
    rw [ledF_p_now]
    have g1 := (Gr.refl (S := [l]) hF).put (o := .ins (He.ga K "Ledger") dx (ledF c (ls.now + 1) ls.floor pa na sa ls.up)) nl (.inr (by simp))
    refine ⟨_, rfl, l, dx, _, rfl, upd_same, ledF_no (by simp), _, rfl, ra, _, rdx, _, _, rfl, g1.fh _ _ r1, T.c_Record, T.n_Record_name, recF_name _ _ _ _, F, l, { ls with now := ls.now + 1 }, r.name, rfl, g1.fh, nl, ⟨dx, pa, na, sa, upd_same, ⟨pp.pins, pp.notes, pp.segs⟩⟩, ⟨fit.pins, fit.notes, fit.segs⟩, fun F2 H2 g2 hL2 => ?_⟩
    obtain ⟨dx2, pa2, na2, sa2, hl2, pp2⟩ := hL2.ex
    have nl2 : F2 l = none := g2.out upd_same nl
    have g02 := g1.trans g2
    have c2 := hc.mono g02.ff
    have ra2 := hra.mono g02.ff
    refine ⟨_, rfl, l, _, dx2, _, _, rfl, hl2, T.c_Ledger, T.n_Ledger_key, ledF_key, ?_⟩
    refine ⟨_, rfl, l, _, dx2, _, _, rfl, hl2, T.c_Ledger, T.n_Ledger_now, ledF_now, ?_⟩
    refine ⟨_, rfl, c.ka, ra, c.key, ls.now + 1, r, rfl, .inl (.inl (g02.fh _ _ c2.key)), ra2.mono g02.fh, sm, fun H3 mp s3 nmp => ?_⟩
    have g3 : Gr [l] F H F2 H3 := g02.samef s3
    have g4 := g3.new_ (o := .tup ((markOf c.key (ls.now + 1) r).map V.int)) nmp
    have hl3 : H3 l = some (ledO K c (endL r.name { ls with now := ls.now + 1 }) dx2 pa2 na2 sa2) := s3 _ _ hl2
    have nml : mp ≠ l := fun z => by
      rw [z, hl3] at nmp
      cases nmp
    have hl4 : (upd H3 mp (.tup ((markOf c.key (ls.now + 1) r).map V.int))) l = some (ledO K c (endL r.name { ls with now := ls.now + 1 }) dx2 pa2 na2 sa2) := by rw [upd_ne nml.symm]; exact hl3
    have nl4 : (upd F2 mp (.tup ((markOf c.key (ls.now + 1) r).map V.int))) l = none := by rw [upd_ne nml.symm]; exact nl2
    have hm4 : (upd F2 mp (.tup ((markOf c.key (ls.now + 1) r).map V.int))) mp = some (.tup ((markOf c.key (ls.now + 1) r).map V.int)) := upd_same
    have pp4 := pp2.mono (same_new (o := .tup ((markOf c.key (ls.now + 1) r).map V.int)) (g3.fh.free nmp))
    have ra4 := ra2.mono (same_new (o := .tup ((markOf c.key (ls.now + 1) r).map V.int)) (g3.fh.free nmp))
    generalize hF4 : upd F2 mp (.tup ((markOf c.key (ls.now + 1) r).map V.int)) = F4 at *
    generalize hH4 : upd H3 mp (.tup ((markOf c.key (ls.now + 1) r).map V.int)) = H4 at *
    obtain ⟨rdx4, vt4, rft4, wt4, fas4, was4, r14, _⟩ := ra4.ex
    obtain ⟨nas, n1, n2⟩ := pp4.notes
    have ln := n2.length
    have ln2 : (endL r.name { ls with now := ls.now + 1 }).notes.length = ls.notes.length := by show (ls.notes.map _).length = _; rw [List.length_map]
    refine ⟨_, rfl, l, _, dx2, _, _, rfl, hl4, T.c_Ledger, T.n_Ledger_notes, ledF_notes, ?_⟩
    refine ⟨_, rfl, ra, _, rdx4, _, _, rfl, g4.fh _ _ r14, T.c_Record, T.n_Record_name, recF_name _ _ _ _, ?_⟩
    refine ⟨_, rfl, l, _, dx2, _, _, rfl, hl4, T.c_Ledger, T.n_Ledger_now, ledF_now, ?_⟩
    refine ⟨_, rfl, _, rfl, rfl, rfl, fun x ndx hx hd hne => ?_⟩
    refine ⟨F4, H4, x, ndx, r.name, ls.now + 1, mp, .non, .ref ra, .non, _, [], rfl, g4.fh, hx, hd, hne, rfl, T.t_empty _, fun F5 H5 g5 e5 => ⟨rfl, (by show 1 ≤ sizeLine; decide), fun p np => ?_⟩⟩
    have g05 : Gr [l] F H F5 H5 := g4.trans (g5.mono (by simp))
    have hl5 := g5.hh _ _ hl4
    have nl5 : F5 l = none := g5.out hl4 nl4
    have n1' := g5.ff _ _ n1
    have npn : na2 ≠ p := ne_of_none (g05.fh _ _ n1') np
    refine ⟨na2, p, _, _, rfl, rfl, by rw [upd_ne npn]; exact g05.fh _ _ n1', upd_same, le1000 (by rw [List.length_map]; show _ + 1 ≤ _; omega), fun q nq => ?_⟩
    have g6 := (g05.made (o := .lst [V.ref x]) np).new_ (o := .lst (nas.map V.ref ++ [V.ref x])) nq
    have npl : p ≠ l := fun z => by
      rw [z, hl5] at np
      cases np
    have nql : q ≠ l := fun z => by
      rw [z, upd_ne npl.symm, hl5] at nq
      cases nq
    have hl6 : (upd (upd H5 p (.lst [V.ref x])) q (.lst (nas.map V.ref ++ [V.ref x]))) l = some (ledO K c (endL r.name { ls with now := ls.now + 1 }) dx2 pa2 na2 sa2) := by rw [upd_ne nql.symm, upd_ne npl.symm]; exact hl5
    have nl6 : (upd F5 q (.lst (nas.map V.ref ++ [V.ref x]))) l = none := by rw [upd_ne nql.symm]; exact nl5
    refine ⟨_, rfl, l, _, dx2, _, rfl, hl6, T.c_Ledger, T.n_Ledger_notes, (by show 8 < 1000; decide), ?_⟩
    rw [ledF_p_notes]
    have g7 := g6.put (o := .ins (He.ga K "Ledger") dx2 (ledF c (ls.now + 1) ls.floor pa2 q sa2 ls.up)) nl6 (.inr (by simp))
    have s56 : Same F5 (upd F5 q (.lst (nas.map V.ref ++ [V.ref x]))) := same_new (g05.fh.free (same_none (same_new np) nq))
    have pp7 := pp4.mono (g5.ff.trans s56)
    refine ⟨_, rfl, l, dx2, _, rfl, upd_same, ledF_no (by simp), _, l, { endL r.name { ls with now := ls.now + 1 } with notes := (endL r.name { ls with now := ls.now + 1 }).notes ++ [⟨ls.now + 1, ra, r, none, none, []⟩] }, rfl, g7.fh, nl6, ⟨dx2, pa2, q, sa2, upd_same, ⟨pp7.pins, ⟨nas ++ [x], ?_, ?_⟩, pp7.segs⟩⟩, ⟨fit.pins, ?_, fit.segs⟩, fun F8 H8 g8 hL8 => ?_⟩
    · rw [upd_same, List.map_append]
      rfl
    · refine paired_append (Paired.mono (fun _ _ z => z.mono (g5.ff.trans s56)) n2) (.cons ⟨ndx, mp, _, s56 _ _ e5, s56 _ _ (g5.ff _ _ hm4), T.t_empty _⟩ .nil)
    · rw [List.length_append, ln2]
      exact few
    · obtain ⟨dx8, pa8, na8, sa8, hl8, pp8⟩ := hL8.ex
      exact ⟨_, rfl, l, _, dx8, _, _, rfl, hl8, T.c_Ledger, T.n_Ledger_now, ledF_now, k _ _ (g7.trans g8) hL8⟩
/-! ### own -/
theorem sc_Ledger_own : FnScope ["self", "shard", "partitions", "homes", "number", "leaves", "home", "places", "note"] ["self", "shard", "partitions", "homes"] (defScope s_Ledger_own) := ⟨rfl, rfl, rfl, by decide +kernel, rfl, by decide +kernel, by decide +kernel⟩
def sp_lown (K : PySem.W.Frag) (c : LC) : Sp := fun vs H Q _ => ∃ (F : Hp) (l pz ha inner : Addr) (sh : Int) (ls : LS) (hs : List Addr) (homes : List (Int × List Int)) (name : Int × Int), vs = [.ref l, .int sh, .ref pz, .ref ha] ∧ Same F H ∧ F l = none ∧ LedAt K F H c l ls ∧ ls.Fit ∧ ls.segs.length < 1000 ∧
  F pz = some (.tup [.ref inner]) ∧ InAt F inner ∧ H ha = some (.lst (hs.map V.ref)) ∧ Paired (HomeAt K F) hs homes ∧ homes.length ≤ 2000 ∧ (homes.map (·.1)).Nodup ∧ ∀ F' H', Gr [l] F H F' H' → LedAt K F' H' c l (ownL sh inner homes name ls) → Q (.int ls.up) H'
theorem ok_lown (T : Tx w K mg) (c : LC) : C8.Met P w K mg base 5 (He.ga K "Ledger") "own" (sp_lown K c) [] := by
  have c_Ledger_tidy := ok_tidy (P := P) (base := base) T c
  have c_Note_owned := ok_owned (P := P) (base := base) T
  have c_Segment := ok_Segment_init (P := P) (base := base) T
  refine met_mk (st := s_Ledger_own) T.d_Ledger_own T.c_Ledger T.m_Ledger_own sc_Ledger_own (fun _ _ _ _ _ _ us hl => match us, hl with | [_, _, _, _], _ => rfl) (fun vs H Q E h => ?_) (fun f cdv A outer s H vs Q E hr h => ?_)
  · obtain ⟨F, l, pz, ha, inner, sh, ls, hs, homes, name, rfl, _⟩ := h
    rfl
  · obtain ⟨F, l, pz, ha, inner, sh, ls, hs, homes, name, rfl, hF, nl, hL, fit, few, hpz, ⟨ixs, hin⟩, hha, hp, lh, nod, k⟩ := h
    obtain ⟨dx, pa, na, sa, hl, pp⟩ := hL.ex
    obtain ⟨nas, n1, n2⟩ := pp.notes
    obtain ⟨sas, q1, q2⟩ := pp.segs
    have ln := n2.length
    have lsg := q2.length
    have f1 := fit.notes
    have lhs := hp.length
    have hu := hu_of hr
    refine ⟨_, (pss_cons (ps_set (i := 4) sc_Ledger_own.nd rfl (.inr rfl) (pe_fldK (K := K) rfl (pv 0) rfl))
      (pss_cons (ps_set (i := 5) sc_Ledger_own.nd rfl (.inr rfl) pe_dnewK)
      (pss_cons (ps_for PassesOwn.never rfl (pi_list (pv 3)) (pg_tup rfl (pgs_cons (pg_name (i := 6) sc_Ledger_own.nd rfl (.inl rfl)) (pgs_cons (pg_name (i := 7) sc_Ledger_own.nd rfl (.inl rfl)) pgs_nil)))
        (pss_one (ps_dput hu (pv 5) (pv 6) (pv 7) rfl)))
      (pss_cons (ps_fld (pv 0) (pe_op op_add (pv 4) pe_int) rfl)
      (pss_cons (ps_fld (pv 0) (pe_lc (own := [("note", 8)]) (g := gName 8) (tt := tYes) rfl sc_Ledger_own.nd (pi_list (pe_fldK (K := K) rfl (pv 0) rfl)) (blkOk_by (N := ["self", "shard", "partitions", "homes", "number", "leaves", "home", "places", "note"]) (sc := defScope s_Ledger_own) (by decide +kernel)) (fun _ _ _ _ _ => pg_name (i := 8) sc_Ledger_own.nd rfl (.inl rfl)) (fun _ _ _ _ _ => pts_nil) (fun _ _ _ _ _ => (pe_ifExp (pt_cmp (pc_din hu (pe_fldK (K := K) rfl (pv 8) rfl) (pv 5))) (C8.pe_mt c_Note_owned hr (by decide) (pv 8) (pa_cons (pv 4) (pa_cons (pe_dget hu (pv 5) (pe_fldK (K := K) rfl (pv 8) rfl) (fun _ _ => rfl)) pa_nil))) (pv 8)))) rfl)
      (pss_cons (ps_fld (pv 0) (pe_op op_cat (pe_fldK (K := K) rfl (pv 0) rfl) (pe_lst (pa_cons (C8.pe_mk c_Segment hr (by decide) (by rfl) (pa_cons (pv 4) (pa_cons (pv 1) (pa_cons (pv 2) pa_nil)))) pa_nil))) rfl)
      (pss_cons (ps_expr (C8.pe_mt0 c_Ledger_tidy hr (by decide) (pv 0)))
      (pss_one (ps_ret (pv 4)))))))))), ?_⟩
    refine ⟨_, rfl, l, _, dx, _, _, rfl, hl, T.c_Ledger, T.n_Ledger_upcoming, ledF_upcoming, ?_⟩
    refine fun d nd => ?_
    have sd := same_new (o := .dK []) nd
    refine ⟨_, rfl, ha, rfl, ⟨_, SqL.of (sd _ _ hha)⟩, for_list (K := K) (a := ha) (xs := hs.map V.ref) (fun i σ H2 => Same H H2 ∧ (∃ lvs, Paired (fun a (h : Int × List Int) => SqT K F a (h.2.map V.int)) lvs (homes.take i) ∧ H2 d = some (.dK (kvsOf (fun h : Int × List Int => h.1) lvs (homes.take i)))) ∧ ∃ y z, σ = [some (.ref l), some (.int sh), some (.ref pz), some (.ref ha), some (.int ls.up), some (.ref d), y, z, none])
      ⟨sd, ⟨[], .nil, upd_same⟩, none, none, rfl⟩ (fun i σ H2 _ p => SqL.of (p.1 _ _ hha)) ?_ ?_⟩
    · rintro i v σ H2 hi ⟨s2, ⟨lvs, pl, hd⟩, y, z, rfl⟩
      obtain ⟨t, ht, rfl⟩ := map_at hi
      obtain ⟨h, hh, lv, rt, rl⟩ := paired_at hp ht
      refine ⟨t, _, rfl, .inl (.inl (s2 _ _ (hF _ _ rt))), rfl, _, _, rfl, _, _, rfl, rfl, ?_⟩
      have lt := pl.length
      have lk := kvsOf_len (fun h : Int × List Int => h.1) lvs (homes.take i)
      have l3 : (homes.take i).length ≤ homes.length := by
        rw [List.length_take]
        exact Nat.min_le_right _ _
      refine ⟨_, rfl, _, rfl, _, rfl, d, _, rfl, .inl ⟨_, .inl h.1, hd, rfl, lt1000 (by omega), rfl⟩, ?_⟩
      have ev : valV (kvsOf (fun h : Int × List Int => h.1) lvs (homes.take i)) (.inl h.1) = none := (val_kvs (fun h : Int × List Int => h.1) h.1 pl).1 (find_take_none nod hh)
      rw [putK_snoc ev]
      refine ⟨fun b o e => ?_, ⟨lvs ++ [lv], ?_, ?_⟩, _, _, rfl⟩
      · rw [upd_ne (ne_of_none e nd)]
        exact s2 _ _ e
      · rw [take_succ_of hh]
        exact paired_append pl (.cons rl .nil)
      · rw [take_succ_of hh, kvsOf_snoc _ lt, upd_same]
    rintro σ H2 ⟨s2, ⟨lvs, pl, hd⟩, y, z, rfl⟩
    rw [List.length_map, lhs, List.take_length] at pl hd
    have hl2 := s2 _ _ hl
    have g1 : Gr [l] F H F H2 := (Gr.refl hF).samef s2
    refine ⟨_, rfl, _, _, rfl, rfl, ?_⟩
    refine ⟨_, rfl, l, _, dx, _, rfl, hl2, T.c_Ledger, T.n_Ledger_upcoming, (by show 8 < 1000; decide), ?_⟩
    rw [ledF_p_upcoming]
    have g2 := g1.put (o := .ins (He.ga K "Ledger") dx (ledF c ls.now ls.floor pa na sa (ls.up + 1))) nl (.inr (by simp))
    have ndl : d ≠ l := fun z => by
      rw [z, hl] at nd
      cases nd
    have hd3 : (upd H2 l (.ins (He.ga K "Ledger") dx (ledF c ls.now ls.floor pa na sa (ls.up + 1)))) d = some (.dK (kvsOf (fun h : Int × List Int => h.1) lvs homes)) := by rw [upd_ne ndl]; exact hd
    have hl3 : (upd H2 l (.ins (He.ga K "Ledger") dx (ledF c ls.now ls.floor pa na sa (ls.up + 1)))) l = some (.ins (He.ga K "Ledger") dx (ledF c ls.now ls.floor pa na sa (ls.up + 1))) := upd_same
    generalize hH3 : upd H2 l (.ins (He.ga K "Ledger") dx (ledF c ls.now ls.floor pa na sa (ls.up + 1))) = H3 at *
    have n1' := g2.fh _ _ n1
    refine ⟨_, rfl, l, _, dx, _, _, rfl, hl3, T.c_Ledger, T.n_Ledger_notes, ledF_notes, na, rfl, ⟨_, SqL.of n1'⟩, fun D nD => ?_⟩
    refine lc_grow walk_list nD g2.fh (fun i w => (nas.map V.ref)[i]? = some w) (fun H4 q => SqL.of (q _ _ n1')) (fun _ _ _ _ y => y) ls.notes (by rw [List.length_map]; exact ln.symm) (by rw [List.length_map]; omega) (fun z => some (ownN ls.up homes z)) (fun F a nd => CNoteAt K F c.key a nd) (fun s e => e.mono s) ?_ ?_
    · intro i w nt Fi H4 Qn Qy rv hz gr hn hy
      obtain ⟨a, ha4, rfl⟩ := map_at rv
      obtain ⟨nd', hnd, hat⟩ := paired_at n2 ha4
      have en : nd' = nt := Option.some.inj (hnd.symm.trans hz)
      subst en
      obtain ⟨nx, ma, lv, h1, h2, h3⟩ := hat.mono gr.ff
      have h1' := gr.fh _ _ h1
      have hd4 := gr.hh _ _ hd3
      obtain ⟨v1, v2⟩ := val_kvs (fun h : Int × List Int => h.1) nd'.num pl
      refine ⟨rfl, lc_yes ?_⟩
      refine ⟨_, rfl, a, _, nx, _, _, rfl, h1', T.c_Note, T.n_Note_number, noteF_number, _, rfl, d, _, rfl, DGet.k (k := .inl nd'.num) hd4, _, rfl, ?_⟩
      cases hf : homes.find? (fun h => decide (h.1 = nd'.num)) with
      | none =>
        rw [v1 hf]
        have eo : ownN ls.up homes nd' = nd' := by unfold ownN; rw [hf]
        refine iteF ⟨_, rfl, hy _ rfl a Fi H4 (Gr.refl gr.fh) ?_⟩
        rw [eo]
        exact ⟨nx, ma, lv, h1, h2, h3⟩
      | some h =>
        obtain ⟨lv2, e1, e2⟩ := v2 h hf
        rw [e1]
        have eo : ownN ls.up homes nd' = { nd' with seg := some ls.up, leaves := h.2 } := by unfold ownN; rw [hf]
        refine iteT ?_
        have e2' : SqT K Fi lv2 (h.2.map V.int) := sqT_same gr.ff e2
        refine ⟨_, rfl, a, nx, _, rfl, h1', noteF_owned, _, rfl, _, rfl, _, rfl, a, _, nx, _, _, rfl, h1', T.c_Note, T.n_Note_number, noteF_number, d, .ref lv2, rfl, ?_, ?_⟩
        · rw [← e1]
          exact DGet.k (k := .inl nd'.num) hd4
        · refine ⟨Fi, a, nx, nd'.r.name, nd'.num, ma, oV nd'.died, recV nd', oV nd'.seg, lv, lv2, _, ls.up, rfl, gr.fh, h1', sqT_same gr.fh e2', fun F' H' b dx' g e => ?_⟩
          refine hy _ rfl b F' H' g ?_
          rw [eo]
          exact ⟨dx', ma, lv2, e, g.ff _ _ h2, sqT_same g.ff e2'⟩
    intro F4 H4 bs gr nF e pr
    rw [List.filterMap_eq_map'] at pr
    have g3 : Gr [l] F H (upd F4 D (.lst (bs.map V.ref))) H4 := g2.lcg nD gr nF e
    have hl4 := gr.hh _ _ hl3
    have nlD : D ≠ l := fun z => by
      rw [z, hl3] at nD
      cases nD
    have nl4 : (upd F4 D (.lst (bs.map V.ref))) l = none := by rw [upd_ne nlD.symm]; exact gr.out hl3 nl
    refine ⟨_, rfl, l, _, dx, _, rfl, hl4, T.c_Ledger, T.n_Ledger_notes, (by show 8 < 1000; decide), ?_⟩
    rw [ledF_p_notes]
    have g4 := g3.put (o := .ins (He.ga K "Ledger") dx (ledF c ls.now ls.floor pa D sa (ls.up + 1))) nl4 (.inr (by simp))
    have hD5 : (upd F4 D (.lst (bs.map V.ref))) D = some (.lst (bs.map V.ref)) := upd_same
    have pr5 : Paired (CNoteAt K (upd F4 D (.lst (bs.map V.ref))) c.key) bs (ls.notes.map (ownN ls.up homes)) := Paired.mono (fun _ _ z => z.mono (same_new nF)) pr
    have hl5 : (upd H4 l (.ins (He.ga K "Ledger") dx (ledF c ls.now ls.floor pa D sa (ls.up + 1)))) l = some (.ins (He.ga K "Ledger") dx (ledF c ls.now ls.floor pa D sa (ls.up + 1))) := upd_same
    generalize hF5 : upd F4 D (.lst (bs.map V.ref)) = F5 at *
    generalize hH5 : upd H4 l (.ins (He.ga K "Ledger") dx (ledF c ls.now ls.floor pa D sa (ls.up + 1))) = H5 at *
    have pp5 := pp.mono g4.ff
    have hpz5 := g4.fh _ _ (g4.ff _ _ hpz)
    have hin5 := g4.fh _ _ (g4.ff _ _ hin)
    have q1' := g4.ff _ _ q1
    refine ⟨_, rfl, l, _, dx, _, _, rfl, hl5, T.c_Ledger, T.n_Ledger_segments, ledF_segments, ?_⟩
    refine ⟨_, rfl, _, rfl, _, rfl, fun x xdx hx hxd hne => ?_⟩
    refine ⟨F5, H5, x, xdx, pz, inner, ls.up, sh, ixs, rfl, g4.fh, hx, hxd, hne, rfl, hpz5, hin5, fun F6 H6 sp g6 ex ep => ⟨rfl, (by show 1 ≤ sizeLine; decide), fun p np => ?_⟩⟩
    have g06 : Gr [l] F H F6 H6 := g4.trans (g6.mono (by simp))
    have hl6 := g6.hh _ _ hl5
    have nl6 : F6 l = none := g6.out hl5 nl4
    have q1'' := g6.ff _ _ q1'
    have npn : sa ≠ p := ne_of_none (g06.fh _ _ q1'') np
    refine ⟨sa, p, _, _, rfl, rfl, by rw [upd_ne npn]; exact g06.fh _ _ q1'', upd_same, le1000 (by rw [List.length_map]; show _ + 1 ≤ _; omega), fun q nq => ?_⟩
    have g7 := (g06.made (o := .lst [V.ref x]) np).new_ (o := .lst (sas.map V.ref ++ [V.ref x])) nq
    have npl : p ≠ l := fun z => by
      rw [z, hl6] at np
      cases np
    have nql : q ≠ l := fun z => by
      rw [z, upd_ne npl.symm, hl6] at nq
      cases nq
    have hl7 : (upd (upd H6 p (.lst [V.ref x])) q (.lst (sas.map V.ref ++ [V.ref x]))) l = some (.ins (He.ga K "Ledger") dx (ledF c ls.now ls.floor pa D sa (ls.up + 1))) := by rw [upd_ne nql.symm, upd_ne npl.symm]; exact hl6
    have nl7 : (upd F6 q (.lst (sas.map V.ref ++ [V.ref x]))) l = none := by rw [upd_ne nql.symm]; exact nl6
    refine ⟨_, rfl, l, _, dx, _, rfl, hl7, T.c_Ledger, T.n_Ledger_segments, (by show 8 < 1000; decide), ?_⟩
    rw [ledF_p_segments]
    have g8 := g7.put (o := .ins (He.ga K "Ledger") dx (ledF c ls.now ls.floor pa D q (ls.up + 1))) nl7 (.inr (by simp))
    have s67 : Same F6 (upd F6 q (.lst (sas.map V.ref ++ [V.ref x]))) := same_new (g06.fh.free (same_none (same_new np) nq))
    have pp8 := pp5.mono (g6.ff.trans s67)
    refine ⟨_, rfl, l, dx, _, rfl, upd_same, ledF_no (by simp), _, l, { ls with up := ls.up + 1, notes := ls.notes.map (ownN ls.up homes), segs := ls.segs ++ [⟨ls.up, sh, name, inner⟩] }, rfl, g8.fh, nl7, ⟨dx, pa, D, q, upd_same, ⟨pp8.pins, ⟨bs, s67 _ _ (g6.ff _ _ hD5), Paired.mono (fun _ _ z => z.mono (g6.ff.trans s67)) pr5⟩, ⟨sas ++ [x], ?_, ?_⟩⟩⟩, ⟨fit.pins, ?_, ?_⟩, fun F9 H9 g9 hL9 => ?_⟩
    · rw [upd_same, List.map_append]
      rfl
    · exact paired_append (Paired.mono (fun _ _ z => z.mono g8.ff) q2) (.cons ⟨xdx, sp, s67 _ _ ex, s67 _ _ ep⟩ .nil)
    · show (ls.notes.map _).length ≤ _
      rw [List.length_map]
      exact fit.notes
    · show (ls.segs ++ [_]).length ≤ _
      rw [List.length_append]
      exact few
    · exact ⟨_, rfl, k _ _ (g8.trans g9) hL9⟩
/-! ### __init__ -/
theorem sc_Ledger_init : FnScope ["self", "schema", "key"] ["self", "schema", "key"] (defScope s_Ledger_init) := ⟨rfl, rfl, rfl, by decide +kernel, rfl, by decide +kernel, by decide +kernel⟩
def ls0 : LS := ⟨0, 0, [], [], [], 1⟩
def sp_Ledger_init (K : PySem.W.Frag) : Sp := fun vs H Q _ => ∃ (F H0 : Hp) (x dx sa ka : Addr) (d : SchD) (kk : Int × Int), vs = [.ref x, .ref sa, .ref ka] ∧ Same F H0 ∧ H0 x = none ∧ H0 dx = none ∧ dx ≠ x ∧ H = upd (upd H0 dx (.own x)) x (.ins (He.ga K "Ledger") dx []) ∧ SchAt K F sa d ∧ d.Ok ∧ F ka = some (.tup [.int kk.1, .int kk.2]) ∧ (0 ≤ kk.1 ∧ kk.1 < 4294967291) ∧ (0 ≤ kk.2 ∧ kk.2 < 4294967291) ∧
  ∀ F' H' ka2, Gr [] F H0 F' H' → F' x = none → LcAt K F' ⟨sa, d, ka2, kk⟩ → LedAt K F' H' ⟨sa, d, ka2, kk⟩ x ls0 → Q .non H'
theorem ok_Ledger_init (T : Tx w K mg) : C8.Mak P w K mg base 2 "Ledger" (He.ga K "Ledger") (sp_Ledger_init K) [] := by
  have c_check_key := ok_check_key (P := P) (base := base) T
  refine mak_mk (st := s_Ledger_init) T.d_Ledger_init T.k_Ledger T.g_Ledger sc_Ledger_init (fun _ _ _ _ _ _ us hl => match us, hl with | [_, _, _], _ => rfl) (fun vs H Q E h => ?_) (fun f cdv A outer s H vs Q E hr h => ?_)
  · obtain ⟨F, H0, x, dx, sa, ka, d, kk, rfl, _⟩ := h
    rfl
  · obtain ⟨F, H0, x, dx, sa, ka, d, kk, rfl, hF, hx, hd, n, rfl, hs, ok, hk, b1, b2, k⟩ := h
    have nx : F x = none := hF.free hx
    have m := mk_same (C := He.ga K "Ledger") hx hd
    refine ⟨_, (pss_cons (ps_expr (C8.pe_c c_check_key hr (by decide) (by rfl) (pa_cons (pv 2) pa_nil)))
      (pss_cons (ps_fld (pv 0) (pv 1) rfl)
      (pss_cons (ps_fld (pv 0) (pe_tup (pa_cons (pe_ix (ix_tupK (K := K) rfl) (pv 2) pe_int (fun _ _ => rfl)) (pa_cons (pe_ix (ix_tupK (K := K) rfl) (pv 2) pe_int (fun _ _ => rfl)) pa_nil))) rfl)
      (pss_cons (ps_fld (pv 0) pe_int rfl)
      (pss_cons (ps_fld (pv 0) pe_int rfl)
      (pss_cons (ps_fld (pv 0) (pe_lst pa_nil) rfl)
      (pss_cons (ps_fld (pv 0) (pe_lst pa_nil) rfl)
      (pss_cons (ps_fld (pv 0) (pe_lst pa_nil) rfl)
      (pss_one (ps_fld (pv 0) pe_int rfl)))))))))), ?_⟩
    refine ⟨_, rfl, ka, kk, rfl, .inl (.inl (m _ _ (hF _ _ hk))), b1, b2, ?_⟩
    refine ⟨_, rfl, _, rfl, x, _, dx, _, rfl, upd_same, T.c_Ledger, T.n_Ledger_schema, (by show 0 < 1000; decide), ?_⟩
    rw [upd_upd]
    have g1 : Gr [] F H0 F (upd (upd H0 dx (.own x)) x (.ins (He.ga K "Ledger") dx (putF "schema" (.ref sa) []))) := ((Gr.refl hF).made hd).put nx (.inl hx)
    have hk1 := g1.fh _ _ hk
    refine ⟨_, rfl, ka, _, 0, _, rfl, rfl, .inl (.inl hk1), atI_nat (j := 0) rfl, ?_⟩
    refine ⟨_, rfl, ka, _, 1, _, rfl, rfl, .inl (.inl hk1), atI_nat (j := 1) rfl, (by show 2 ≤ sizeLine; decide), fun p np => ?_⟩
    have npx : p ≠ x := fun z => by
      rw [z, upd_same] at np
      cases np
    have g2 := g1.new_ (o := .tup [V.int kk.1, V.int kk.2]) np
    have nx2 : (upd F p (.tup [V.int kk.1, V.int kk.2])) x = none := by rw [upd_ne npx.symm]; exact nx
    have hp2 : (upd F p (.tup [V.int kk.1, V.int kk.2])) p = some (.tup [V.int kk.1, V.int kk.2]) := upd_same
    have hx2 : (upd (upd (upd H0 dx (.own x)) x (.ins (He.ga K "Ledger") dx (putF "schema" (.ref sa) []))) p (.tup [V.int kk.1, V.int kk.2])) x = some (.ins (He.ga K "Ledger") dx (putF "schema" (.ref sa) [])) := by rw [upd_ne npx.symm, upd_same]
    generalize hF2 : upd F p (.tup [V.int kk.1, V.int kk.2]) = F2 at *
    generalize hH2 : upd (upd (upd H0 dx (.own x)) x (.ins (He.ga K "Ledger") dx (putF "schema" (.ref sa) []))) p (.tup [V.int kk.1, V.int kk.2]) = H2 at *
    refine ⟨_, rfl, x, _, dx, _, rfl, hx2, T.c_Ledger, T.n_Ledger_key, (by show 1 < 1000; decide), ?_⟩
    refine ⟨_, rfl, x, _, dx, _, rfl, upd_same, T.c_Ledger, T.n_Ledger_now, (by show 2 < 1000; decide), ?_⟩
    refine ⟨_, rfl, x, _, dx, _, rfl, upd_same, T.c_Ledger, T.n_Ledger_floor, (by show 3 < 1000; decide), ?_⟩
    rw [upd_upd, upd_upd]
    have g3 := g2.put (o := .ins (He.ga K "Ledger") dx (putF "floor" (.int 0) (putF "now" (.int 0) (putF "key" (.ref p) (putF "schema" (.ref sa) []))))) nx2 (.inl hx)
    refine ⟨Nat.zero_le _, fun pp npp => ?_⟩
    have nppx : pp ≠ x := fun z => by
      rw [z, upd_same] at npp
      cases npp
    have g4 := g3.new_ (o := .lst []) npp
    have nx4 : (upd F2 pp (.lst [])) x = none := by rw [upd_ne nppx.symm]; exact nx2
    refine ⟨_, rfl, x, _, dx, _, rfl, by rw [upd_ne nppx.symm, upd_same], T.c_Ledger, T.n_Ledger_pins, (by show 4 < 1000; decide), ?_⟩
    have g5 := g4.put (o := .ins (He.ga K "Ledger") dx (putF "pins" (.ref pp) (putF "floor" (.int 0) (putF "now" (.int 0) (putF "key" (.ref p) (putF "schema" (.ref sa) [])))))) nx4 (.inl hx)
    refine ⟨Nat.zero_le _, fun pn npn => ?_⟩
    have npnx : pn ≠ x := fun z => by
      rw [z, upd_same] at npn
      cases npn
    have g6 := g5.new_ (o := .lst []) npn
    have nx6 : (upd (upd F2 pp (.lst [])) pn (.lst [])) x = none := by rw [upd_ne npnx.symm]; exact nx4
    refine ⟨_, rfl, x, _, dx, _, rfl, by rw [upd_ne npnx.symm, upd_same], T.c_Ledger, T.n_Ledger_notes, (by show 5 < 1000; decide), ?_⟩
    have g7 := g6.put (o := .ins (He.ga K "Ledger") dx (putF "notes" (.ref pn) (putF "pins" (.ref pp) (putF "floor" (.int 0) (putF "now" (.int 0) (putF "key" (.ref p) (putF "schema" (.ref sa) []))))))) nx6 (.inl hx)
    refine ⟨Nat.zero_le _, fun ps nps => ?_⟩
    have npsx : ps ≠ x := fun z => by
      rw [z, upd_same] at nps
      cases nps
    have g8 := g7.new_ (o := .lst []) nps
    have nx8 : (upd (upd (upd F2 pp (.lst [])) pn (.lst [])) ps (.lst [])) x = none := by rw [upd_ne npsx.symm]; exact nx6
    refine ⟨_, rfl, x, _, dx, _, rfl, by rw [upd_ne npsx.symm, upd_same], T.c_Ledger, T.n_Ledger_segments, (by show 6 < 1000; decide), ?_⟩
    refine ⟨_, rfl, x, _, dx, _, rfl, upd_same, T.c_Ledger, T.n_Ledger_upcoming, (by show 7 < 1000; decide), ?_⟩
    rw [upd_upd]
    have g9 := g8.put (o := .ins (He.ga K "Ledger") dx (ledF ⟨sa, d, p, kk⟩ 0 0 pp pn ps 1)) nx8 (.inl hx)
    have sp : Same (upd F2 pp (.lst [])) (upd (upd F2 pp (.lst [])) pn (.lst [])) := same_new (g5.fh.free npn)
    have sn : Same (upd (upd F2 pp (.lst [])) pn (.lst [])) (upd (upd (upd F2 pp (.lst [])) pn (.lst [])) ps (.lst [])) := same_new (g7.fh.free nps)
    have s2 : Same F2 (upd F2 pp (.lst [])) := same_new (g3.fh.free npp)
    exact k _ _ p g9 nx8 ⟨hs.mono g9.ff, ok, sn _ _ (sp _ _ (s2 _ _ hp2))⟩ ⟨dx, pp, pn, ps, upd_same, ⟨sn _ _ (sp _ _ upd_same), ⟨[], sn _ _ upd_same, .nil⟩, ⟨[], upd_same, .nil⟩⟩⟩
end
end K94
/-! The states: catalogs, deeds. -/
namespace K94
open PySem PySem.Spec PyProof.Rows L2
theorem dt {p : Prop} {i : Decidable p} (h : @decide p i = true) : p := @of_decide_eq_true p i h
theorem df {p : Prop} {i : Decidable p} (h : @decide p i = false) : ¬ p := @of_decide_eq_false p i h
structure CS where
  led : LS
  titles : List (T3 Int Int (Int × Int))
  closed : List (Int × (Int × Int))
  routes : List (Str × Int)
  begins : Int
def catF (l tl cl ro : Addr) (b : Int) : List (Str × V) := [("ledger", .ref l), ("titles", .ref tl), ("closed", .ref cl), ("routes", .ref ro), ("begins", .int b)]
section
variable {l tl cl ro : Addr} {b : Int}
theorem catF_ledger : (catF l tl cl ro b).lookup ("ledger" : Str) = some (.ref l) := by kernel_rfl
theorem catF_titles : (catF l tl cl ro b).lookup ("titles" : Str) = some (.ref tl) := by kernel_rfl
theorem catF_closed : (catF l tl cl ro b).lookup ("closed" : Str) = some (.ref cl) := by kernel_rfl
theorem catF_routes : (catF l tl cl ro b).lookup ("routes" : Str) = some (.ref ro) := by kernel_rfl
theorem catF_begins : (catF l tl cl ro b).lookup ("begins" : Str) = some (.int b) := by kernel_rfl
theorem catF_p_titles {x : Addr} : putF "titles" (.ref x) (catF l tl cl ro b) = catF l x cl ro b := by kernel_rfl
theorem catF_p_closed {x : Addr} : putF "closed" (.ref x) (catF l tl cl ro b) = catF l tl x ro b := by kernel_rfl
theorem catF_p_routes {x : Addr} : putF "routes" (.ref x) (catF l tl cl ro b) = catF l tl cl x b := by kernel_rfl
theorem catF_p_begins {x : Int} : putF "begins" (.int x) (catF l tl cl ro b) = catF l tl cl ro x := by kernel_rfl
theorem catF_no {m : Str} (h : m ∈ (["shard_of", "title_of", "turns", "close", "settle", "own", "forget", "write", "change", "apply"] : List Str)) : (catF l tl cl ro b).lookup m = none := by
  have g : ∀ m ∈ (["shard_of", "title_of", "turns", "close", "settle", "own", "forget", "write", "change", "apply"] : List Str), m ∉ (["ledger", "titles", "closed", "routes", "begins"] : List Str) := by decide +kernel
  have e := g m h
  rw [List.lookup_eq_none_iff]
  intro p hp
  simp only [catF, List.mem_cons, List.not_mem_nil, or_false] at hp
  simp only [List.mem_cons, List.not_mem_nil, or_false, not_or] at e
  rcases hp with rfl | rfl | rfl | rfl | rfl <;> simp_all
end
/-- where the changing parts of a catalog stand -/
structure CA where
  x : Addr
  l : Addr
  tl : Addr
  cl : Addr
def CA.S (a : CA) : List Addr := [a.x, a.l, a.tl, a.cl]
structure CatAt (K : PySem.W.Frag) (F H : Hp) (c : LC) (a : CA) (cs : CS) : Prop where
  xl : a.x ≠ a.l
  xt : a.x ≠ a.tl
  xc : a.x ≠ a.cl
  lt : a.l ≠ a.tl
  lc : a.l ≠ a.cl
  tc : a.tl ≠ a.cl
  fx : F a.x = none
  fl : F a.l = none
  ft : F a.tl = none
  fc : F a.cl = none
  obj : ∃ dx ro, H a.x = some (.ins (He.ga K "Catalog") dx (catF a.l a.tl a.cl ro cs.begins)) ∧ LsAt F (RtAt F) ro cs.routes
  led : LedAt K F H c a.l cs.led
  tis : ∃ ps, H a.tl = some (.lst (ps.map V.ref)) ∧ Paired (TiAt F) ps cs.titles
  cls : ∃ ps, H a.cl = some (.lst (ps.map V.ref)) ∧ Paired (ClAt F) ps cs.closed
theorem LedAt.frame {K : PySem.W.Frag} {F H F' H' : Hp} {c : LC} {l : Addr} {ls : LS} (h : LedAt K F H c l ls) (s : Same F F') (e : ∀ o, H l = some o → H' l = some o) : LedAt K F' H' c l ls := by
  obtain ⟨dx, pa, na, sa, h1, h2⟩ := h.ex
  exact ⟨dx, pa, na, sa, e _ h1, h2.mono s⟩
/-- what does not touch a catalog leaves it as it is -/
theorem CatAt.frame {K : PySem.W.Frag} {F H F' H' : Hp} {c : LC} {a : CA} {cs : CS} {S : List Addr} (h : CatAt K F H c a cs) (g : Gr S F H F' H') (nx : a.x ∉ S) (nl : a.l ∉ S) (nt : a.tl ∉ S) (nc : a.cl ∉ S) : CatAt K F' H' c a cs := by
  obtain ⟨dx, ro, h1, h2⟩ := h.obj
  obtain ⟨lx, pa, na, sa, l1, l2⟩ := h.led.ex
  obtain ⟨ps, t1, t2⟩ := h.tis
  obtain ⟨qs, c1, c2⟩ := h.cls
  exact ⟨h.xl, h.xt, h.xc, h.lt, h.lc, h.tc, g.out h1 h.fx, g.out l1 h.fl, g.out t1 h.ft, g.out c1 h.fc, ⟨dx, ro, g.keep _ _ h1 nx, h2.mono g.ff fun _ _ e => e.mono g.ff⟩, h.led.frame g.ff fun o e => g.keep _ _ e nl,
    ⟨ps, g.keep _ _ t1 nt, Paired.mono (fun _ _ e => e.mono g.ff) t2⟩, ⟨qs, g.keep _ _ c1 nc, Paired.mono (fun _ _ e => e.mono g.ff) c2⟩⟩
theorem CatAt.same {K : PySem.W.Frag} {F H F' H' : Hp} {c : LC} {a : CA} {cs : CS} (h : CatAt K F H c a cs) (g : Gr [] F H F' H') : CatAt K F' H' c a cs := h.frame g (by simp) (by simp) (by simp) (by simp)
structure CS.Fit (cs : CS) : Prop where
  led : cs.led.Fit
  titles : cs.titles.length ≤ 1000
  closed : cs.closed.length ≤ 1000
  routes : cs.routes.length ≤ 1000
/-! ### what a catalog does -/
def strLe (a b : Str) : Bool := !decide (b.cps.toList < a.cps.toList)
def firstR : List (Str × Int) → Int
  | [] => 0
  | r :: _ => r.2
def shardOf (routes : List (Str × Int)) (name : Str) : Int := routes.foldl (fun f r => if strLe r.1 name = true then r.2 else f) (firstR routes)
def titleOf (ts : List (T3 Int Int (Int × Int))) (n : Int) : Option (T3 Int Int (Int × Int)) := ts.find? fun t => decide (t.a = n)
def nmLt (a b : Int × Int) : Bool := HT.lexLt [a.1, a.2] [b.1, b.2]
def segTitle (ts : List (T3 Int Int (Int × Int))) : Option Int → Option (T3 Int Int (Int × Int))
  | none => none
  | some n => titleOf ts n
def turnsC (cs : CS) (sh : Int) (name : Int × Int) (nd : NoteD) : Bool := match segTitle cs.titles nd.seg with
  | some t => if t.b = sh then nmLt t.c name else decide (shardOf cs.routes nd.r.name = sh)
  | none => decide (shardOf cs.routes nd.r.name = sh)
def closeC (x : Int × (Int × Int)) (cl : List (Int × (Int × Int))) : List (Int × (Int × Int)) := if x ∈ cl then cl else cl ++ [x]
def hasSeg (ls : LS) (n : Int) : Bool := ls.segs.any fun s => decide (s.num = n)
def settleC (cs : CS) : CS := { cs with
  closed := (cs.titles.filter fun t => !hasSeg cs.led t.a).foldl (fun cl t => closeC (t.b, t.c) cl) cs.closed
  titles := cs.titles.filter fun t => hasSeg cs.led t.a }
def findNote (ns : List NoteD) (n : Int) : Option NoteD := ns.find? fun nd => decide (nd.num = n)
def turning (cs : CS) (sh : Int) (name : Int × Int) (homes : List (Int × List Int)) : List (Int × List Int) := homes.filter fun h => match findNote cs.led.notes h.1 with
  | none => false
  | some nd => turnsC cs sh name nd
def ownC (sh : Int) (name : Int × Int) (inner : Addr) (homes : List (Int × List Int)) (cs : CS) : CS := { cs with
  led := ownL sh inner (turning cs sh name homes) name cs.led
  titles := cs.titles ++ [⟨cs.led.up, sh, name⟩] }
def forgetC (x : Int × (Int × Int)) (cs : CS) : CS := { cs with closed := cs.closed.filter fun y => decide (y ≠ x) }
def keyR (r : Str × Int) : PyData := .str r.1
/-- rows by their first -/
def byKey (rs : List (Str × Int)) : List (Str × Int) := rs.mergeSort (PySem.W.dataLe false keyR)
def routeK (low : Str) (sh : Int) (rs : List (Str × Int)) : List (Str × Int) := byKey (rs.filter (fun r => decide (r.1 ≠ low)) ++ [(low, sh)])
inductive Deed where
  | put (ra : Addr) (r : Rec)
  | drop (x : Str)
  | pin
  | unpin (m : Int)
  | lift (m : Int)
  | own (sh : Int) (name : Int × Int) (inner : Addr) (homes : List (Int × List Int))
  | close (sh : Int) (name : Int × Int)
  | forget (sh : Int) (name : Int × Int)
  | route (low : Str) (sh : Int)
  | begin_
def DeedAt (K : PySem.W.Frag) (F : Hp) (a : Addr) : Deed → Prop
  | .put ra r => F a = some (.tup [.str "put", .ref ra]) ∧ RecAt K F ra r
  | .drop x => F a = some (.tup [.str "drop", .str x])
  | .pin => F a = some (.tup [.str "pin"])
  | .unpin m => F a = some (.tup [.str "unpin", .int m])
  | .lift m => F a = some (.tup [.str "lift", .int m])
  | .own sh name inner homes => ∃ na pz ha hs, F a = some (.tup [.str "own", .int sh, .ref na, .ref pz, .ref ha]) ∧ NmAt F na name ∧ F pz = some (.tup [.ref inner]) ∧ InAt F inner ∧ F ha = some (.tup (hs.map V.ref)) ∧ Paired (HomeAt K F) hs homes
  | .close sh name => ∃ na, F a = some (.tup [.str "close", .int sh, .ref na]) ∧ NmAt F na name
  | .forget sh name => ∃ na, F a = some (.tup [.str "forget", .int sh, .ref na]) ∧ NmAt F na name
  | .route low sh => F a = some (.tup [.str "route", .str low, .int sh])
  | .begin_ => F a = some (.tup [.str "begin"])
theorem DeedAt.mono {K : PySem.W.Frag} {F F' : Hp} {a : Addr} {d : Deed} (s : Same F F') (h : DeedAt K F a d) : DeedAt K F' a d := by
  cases d with
  | put ra r => exact ⟨s _ _ h.1, h.2.mono s⟩
  | drop x => exact s _ _ h
  | pin => exact s _ _ h
  | unpin m => exact s _ _ h
  | lift m => exact s _ _ h
  | own sh name inner homes =>
    obtain ⟨na, pz, ha, hs, h1, h2, h3, ⟨xs, h4⟩, h5, h6⟩ := h
    exact ⟨na, pz, ha, hs, s _ _ h1, h2.mono s, s _ _ h3, ⟨xs, s _ _ h4⟩, s _ _ h5, Paired.mono (fun _ _ e => e.mono s) h6⟩
  | close sh name =>
    obtain ⟨na, h1, h2⟩ := h
    exact ⟨na, s _ _ h1, h2.mono s⟩
  | forget sh name =>
    obtain ⟨na, h1, h2⟩ := h
    exact ⟨na, s _ _ h1, h2.mono s⟩
  | route low sh => exact s _ _ h
  | begin_ => exact s _ _ h
/-- what a deed does before the closing of what is not needed, and its outcome -/
def changeC : Deed → CS → CS × Option Int
  | .put ra r, cs => ({ cs with led := putL ra r cs.led }, some (cs.led.now + 1))
  | .drop x, cs => ({ cs with led := dropL x cs.led }, if hasN x cs.led = true then some (cs.led.now + 1) else none)
  | .pin, cs => ({ cs with led := pinL cs.led }, some cs.led.now)
  | .unpin m, cs => (if m ∈ cs.led.pins then { cs with led := unpinL m cs.led } else cs, some m)
  | .lift m, cs => ({ cs with led := liftL m cs.led }, some (max cs.led.floor (min m cs.led.now)))
  | .own sh name inner homes, cs => (ownC sh name inner homes cs, some cs.led.up)
  | .close sh name, cs => ({ cs with closed := closeC (sh, name) cs.closed }, none)
  | .forget sh name, cs => (forgetC (sh, name) cs, none)
  | .route low sh, cs => ({ cs with routes := routeK low sh cs.routes }, some sh)
  | .begin_, cs => ({ cs with begins := cs.begins + 1 }, some (cs.begins + 1))
def applyC (d : Deed) (cs : CS) : CS × Option Int := (settleC (changeC d cs).1, (changeC d cs).2)
/-- what a deed must be -/
def DeedOk (sd : SchD) : Deed → Prop
  | .put _ r => RecOk sd r ∧ Small r
  | .own _ _ _ homes => homes.length ≤ 2000 ∧ (homes.map (·.1)).Nodup
  | _ => True
end K94
/-! The catalog's functions, part 1. -/
namespace K94
open PySem PySem.Spec PyProof.Rows L2
section
variable {P : Program} {w : World} {K : PySem.W.Frag} {mg : Str → Option Value} {base : Heap}
/-! ### shard_of -/
theorem sc_Catalog_shard_of : FnScope ["self", "name", "found", "low", "shard"] ["self", "name"] (defScope s_Catalog_shard_of) := ⟨rfl, rfl, rfl, by decide +kernel, rfl, by decide +kernel, by decide +kernel⟩
def sp_shard_of (K : PySem.W.Frag) (c : LC) : Sp := fun vs H Q _ => ∃ (F : Hp) (a : CA) (cs : CS) (x : Str), vs = [.ref a.x, .str x] ∧ Same F H ∧ CatAt K F H c a cs ∧ cs.routes ≠ [] ∧ Q (.int (shardOf cs.routes x)) H
theorem ok_shard_of (T : Tx w K mg) (c : LC) : C8.Met P w K mg base 1 (He.ga K "Catalog") "shard_of" (sp_shard_of K c) [] := by
  refine met_mk (st := s_Catalog_shard_of) T.d_Catalog_shard_of T.c_Catalog T.m_Catalog_shard_of sc_Catalog_shard_of (fun _ _ _ _ _ _ us hl => match us, hl with | [_, _], _ => rfl) (fun vs H Q E h => ?_) (fun f cdv A outer s H vs Q E hr h => ?_)
  · obtain ⟨F, a, cs, x, rfl, _⟩ := h
    rfl
  · obtain ⟨F, a, cs, x, rfl, hF, hC, ne, k⟩ := h
    obtain ⟨dx, ro, h1, ps, r1, r2⟩ := hC.obj
    refine ⟨_, (pss_cons (ps_set (i := 2) sc_Catalog_shard_of.nd rfl (.inl rfl) (pe_ix (ix_tupK (K := K) rfl) (pe_ix ix_list (pe_fldK (K := K) rfl (pv 0) rfl) pe_int (fun _ _ => rfl)) pe_int (fun _ _ => rfl)))
      (pss_cons (ps_for PassesOwn.never rfl (pi_list (pe_fldK (K := K) rfl (pv 0) rfl)) (pg_tup rfl (pgs_cons (pg_name (i := 3) sc_Catalog_shard_of.nd rfl (.inl rfl)) (pgs_cons (pg_name (i := 4) sc_Catalog_shard_of.nd rfl (.inl rfl)) pgs_nil)))
        (pss_one (ps_if (pt_cmpR op_le_str (pv 3) (pv 1) (nomark _))
          (pss_one (ps_set (i := 2) sc_Catalog_shard_of.nd rfl (.inl rfl) (pv 4)))
          pss_nil)))
      (pss_one (ps_ret (pv 2))))), ?_⟩
    have r1' := hF _ _ r1
    obtain ⟨q0, rest, e0⟩ := List.exists_cons_of_ne_nil ne
    have z0 : cs.routes[0]? = some q0 := by rw [e0]; rfl
    obtain ⟨p0, hp0, rp0⟩ := paired_at2 r2 z0
    have hm0 : (ps.map V.ref)[0]? = some (.ref p0) := by rw [List.getElem?_map, hp0]; rfl
    refine ⟨_, rfl, a.x, _, dx, _, _, rfl, h1, T.c_Catalog, T.n_Catalog_routes, catF_routes, ro, _, 0, _, rfl, rfl, SqL.of r1', atI_nat (j := 0) hm0, p0, _, 1, _, rfl, rfl, .inl (.inl (hF _ _ rp0)), atI_nat (j := 1) rfl, ?_⟩
    have f0 : firstR cs.routes = q0.2 := by rw [e0]; rfl
    refine ⟨_, rfl, a.x, _, dx, _, _, rfl, h1, T.c_Catalog, T.n_Catalog_routes, catF_routes, ro, rfl, ⟨_, SqL.of r1'⟩, for_list (K := K) (a := ro) (xs := ps.map V.ref) (fun i σ H2 => H2 = H ∧ ∃ y z, σ = [some (.ref a.x), some (.str x), some (.int ((cs.routes.take i).foldl (fun f r => if strLe r.1 x = true then r.2 else f) (firstR cs.routes))), y, z]) ⟨rfl, none, none, by rw [f0]; rfl⟩ (fun i σ H2 _ p => by rw [p.1]; exact SqL.of r1') ?_ ?_⟩
    · rintro i v σ H2 hi ⟨rfl, y, z, rfl⟩
      obtain ⟨t, ht, rfl⟩ := map_at hi
      obtain ⟨q, hq, rq⟩ := paired_at r2 ht
      refine ⟨t, _, rfl, .inl (.inl (hF _ _ rq)), rfl, _, _, rfl, _, _, rfl, rfl, ?_⟩
      refine ⟨_, rfl, _, rfl, _, _, rfl, rfl, _, rfl, ?_⟩
      have st : (cs.routes.take (i + 1)).foldl (fun f r => if strLe r.1 x = true then r.2 else f) (firstR cs.routes) = if strLe q.1 x = true then q.2 else (cs.routes.take i).foldl (fun f r => if strLe r.1 x = true then r.2 else f) (firstR cs.routes) := by
        rw [take_succ_of hq, List.foldl_append]
        rfl
      refine ite_b (fun hc => ?_) (fun hc => ?_)
      · rw [st, if_pos (show strLe q.1 x = true from hc)]
        exact ⟨_, rfl, rfl, _, _, rfl⟩
      · rw [st, if_neg (by rw [show strLe q.1 x = false from hc]; decide)]
        exact ⟨rfl, _, _, rfl⟩
    · rintro σ H2 ⟨rfl, y, z, rfl⟩
      rw [List.length_map, r2.length, List.take_length]
      exact ⟨_, rfl, k⟩
/-! ### title_of -/
theorem sc_Catalog_title_of : FnScope ["self", "segment", "number", "shard", "name"] ["self", "segment"] (defScope s_Catalog_title_of) := ⟨rfl, rfl, rfl, by decide +kernel, rfl, by decide +kernel, by decide +kernel⟩
def sp_title_of (K : PySem.W.Frag) (c : LC) : Sp := fun vs H Q _ => ∃ (F : Hp) (a : CA) (cs : CS) (n : Int), vs = [.ref a.x, .int n] ∧ Same F H ∧ CatAt K F H c a cs ∧ (titleOf cs.titles n = none → Q .non H) ∧ (∀ t, titleOf cs.titles n = some t → ∀ na p, NmAt F na t.c → H p = none → Q (.ref p) (upd H p (.tup [.int t.b, .ref na])))
theorem ok_title_of (T : Tx w K mg) (c : LC) : C8.Met P w K mg base 1 (He.ga K "Catalog") "title_of" (sp_title_of K c) [] := by
  refine met_mk (st := s_Catalog_title_of) T.d_Catalog_title_of T.c_Catalog T.m_Catalog_title_of sc_Catalog_title_of (fun _ _ _ _ _ _ us hl => match us, hl with | [_, _], _ => rfl) (fun vs H Q E h => ?_) (fun f cdv A outer s H vs Q E hr h => ?_)
  · obtain ⟨F, a, cs, x, rfl, _⟩ := h
    rfl
  · obtain ⟨F, a, cs, n, rfl, hF, hC, k1, k2⟩ := h
    obtain ⟨dx, ro, h1, _⟩ := hC.obj
    obtain ⟨ps, t1, t2⟩ := hC.tis
    refine ⟨_, (pss_cons (ps_for PassesOwn.never rfl (pi_list (pe_fldK (K := K) rfl (pv 0) rfl)) (pg_tup rfl (pgs_cons (pg_name (i := 2) sc_Catalog_title_of.nd rfl (.inl rfl)) (pgs_cons (pg_name (i := 3) sc_Catalog_title_of.nd rfl (.inl rfl)) (pgs_cons (pg_name (i := 4) sc_Catalog_title_of.nd rfl (.inl rfl)) pgs_nil))))
        (pss_one (ps_if (pt_cmpR op_eq (pv 2) (pv 1) (nomark _))
          (pss_one (ps_ret (pe_tup (pa_cons (pv 3) (pa_cons (pv 4) pa_nil)))))
          pss_nil)))
      (pss_one (ps_ret pe_non))), ?_⟩
    refine ⟨_, rfl, a.x, _, dx, _, _, rfl, h1, T.c_Catalog, T.n_Catalog_titles, catF_titles, a.tl, rfl, ⟨_, SqL.of t1⟩, for_list (K := K) (a := a.tl) (xs := ps.map V.ref) (fun i σ H2 => H2 = H ∧ (cs.titles.take i).find? (fun t => decide (t.a = n)) = none ∧ ∃ y z u, σ = [some (.ref a.x), some (.int n), y, z, u]) ⟨rfl, rfl, none, none, none, rfl⟩ (fun i σ H2 _ p => by rw [p.1]; exact SqL.of t1) ?_ ?_⟩
    · rintro i v σ H2 hi ⟨rfl, no, y, z, u, rfl⟩
      obtain ⟨t, ht, rfl⟩ := map_at hi
      obtain ⟨q, hq, na, rq, rn⟩ := paired_at t2 ht
      refine ⟨t, _, rfl, .inl (.inl (hF _ _ rq)), rfl, _, _, rfl, _, _, rfl, _, _, rfl, rfl, ?_⟩
      refine ⟨_, rfl, _, rfl, rfl, _, rfl, ?_⟩
      have sp : cs.titles = cs.titles.take i ++ (q :: cs.titles.drop (i + 1)) := by
        obtain ⟨hlt, e⟩ := List.getElem?_eq_some_iff.mp hq
        rw [← e, List.getElem_cons_drop, List.take_append_drop]
      by_cases hx : q.a = n
      · rw [decide_eq_true (show V.int q.a = V.int n by rw [hx])]
        refine iteT ⟨_, rfl, _, rfl, (by show 2 ≤ sizeLine; decide), fun p np => ?_⟩
        refine k2 q ?_ na p rn np
        unfold titleOf
        rw [sp, List.find?_append, no]
        simp [hx]
      · rw [decide_eq_false (show ¬ V.int q.a = V.int n from fun z => hx (V.int.inj z))]
        refine iteF ⟨rfl, ?_, _, _, _, rfl⟩
        rw [take_succ_of hq, List.find?_append, no]
        simp [hx]
    · rintro σ H2 ⟨rfl, no, y, z, u, rfl⟩
      rw [List.length_map, t2.length, List.take_length] at no
      exact k1 no
/-! ### turns -/
theorem sc_Catalog_turns : FnScope ["self", "shard", "name", "note", "title"] ["self", "shard", "name", "note"] (defScope s_Catalog_turns) := ⟨rfl, rfl, rfl, by decide +kernel, rfl, by decide +kernel, by decide +kernel⟩
def sp_turns (K : PySem.W.Frag) (c : LC) : Sp := fun vs H Q _ => ∃ (F : Hp) (a : CA) (cs : CS) (sh : Int) (name : Int × Int) (nd : NoteD) (na nt : Addr), vs = [.ref a.x, .int sh, .ref na, .ref nt] ∧ Same F H ∧ CatAt K F H c a cs ∧ cs.routes ≠ [] ∧ NmAt F na name ∧ CNoteAt K F c.key nt nd ∧ ∀ H', Same H H' → Q (.bl (turnsC cs sh name nd)) H'
theorem ok_turns (T : Tx w K mg) (c : LC) : C8.Met P w K mg base 2 (He.ga K "Catalog") "turns" (sp_turns K c) [] := by
  have c_Catalog_shard_of := ok_shard_of (P := P) (base := base) T c
  have c_Catalog_title_of := ok_title_of (P := P) (base := base) T c
  refine met_mk (st := s_Catalog_turns) T.d_Catalog_turns T.c_Catalog T.m_Catalog_turns sc_Catalog_turns (fun _ _ _ _ _ _ us hl => match us, hl with | [_, _, _, _], _ => rfl) (fun vs H Q E h => ?_) (fun f cdv A outer s H vs Q E hr h => ?_)
  · obtain ⟨F, a, cs, sh, name, nd, na, nt, rfl, _⟩ := h
    rfl
  · obtain ⟨F, a, cs, sh, name, nd, na, nt, rfl, hF, hC, ne, hna, hnt, k⟩ := h
    obtain ⟨dx, ro, h1, _⟩ := hC.obj
    obtain ⟨nx, ma, lv, n1, n2, n3⟩ := hnt
    have n1' := hF _ _ n1
    refine ⟨_, (pss_cons (ps_set (i := 4) sc_Catalog_turns.nd rfl (.inl rfl) (pe_ifExp (pt_cmpR op_isN (pe_fldK (K := K) rfl (pv 3) rfl) pe_non (nomark _)) pe_non (C8.pe_mt c_Catalog_title_of hr (by decide) (pv 0) (pa_cons (pe_fldK (K := K) rfl (pv 3) rfl) pa_nil))))
      (pss_cons (ps_if (PW.pt (pw_or (pt_cmpR op_isN (pv 4) pe_non (nomark _)) (pw_or1 (pt_cmpR op_ne (pe_ix (ix_tupK (K := K) rfl) (pv 4) pe_int (fun _ _ => rfl)) (pv 1) (nomark _)))))
        (pss_one (ps_ret (pe_cmpR op_eq (C8.pe_mt c_Catalog_shard_of hr (by decide) (pv 0) (pa_cons (pe_fldK (K := K) rfl (pv 3) rfl) pa_nil)) (pv 1) (nomark _))))
        pss_nil)
      (pss_one (ps_ret (pe_cmpR (op_ltTK (K := K) rfl hr.units0) (pe_ix (ix_tupK (K := K) rfl) (pv 4) pe_int (fun _ _ => rfl)) (pv 2) (nomark _)))))), ?_⟩
    have byR : turnsC cs sh name nd = decide (shardOf cs.routes nd.r.name = sh) → ∀ H2, Same H H2 → CatAt K F H2 c a cs → Q (.bl (decide (V.int (shardOf cs.routes nd.r.name) = V.int sh))) H2 := fun e H2 s2 _ => by
      have k2 := k H2 s2
      rw [e] at k2
      have e2 : decide (V.int (shardOf cs.routes nd.r.name) = V.int sh) = decide (shardOf cs.routes nd.r.name = sh) := by
        by_cases z : shardOf cs.routes nd.r.name = sh
        · rw [z]; simp
        · rw [decide_eq_false z, decide_eq_false fun y => z (V.int.inj y)]
      rw [e2]
      exact k2
    refine ⟨_, rfl, nt, _, nx, _, _, rfl, n1', T.c_Note, T.n_Note_segment, noteF_segment, rfl, _, rfl, ?_⟩
    cases hs : nd.seg with
    | none =>
      have e : turnsC cs sh name nd = decide (shardOf cs.routes nd.r.name = sh) := by unfold turnsC; rw [hs]; rfl
      refine iteT ?_
      refine ⟨_, rfl, rfl, _, rfl, iteT ?_⟩
      refine ⟨_, rfl, a.x, dx, _, rfl, h1, catF_no (by simp), _, rfl, nt, _, nx, _, _, rfl, n1', T.c_Note, T.n_Note_name, noteF_name, F, a, cs, nd.r.name, rfl, hF, hC, ne, _, rfl, rfl, ?_⟩
      exact byR e H (Same.refl _) hC
    | some n =>
      rw [hs] at n1'
      refine iteF ?_
      refine ⟨_, rfl, a.x, dx, _, rfl, h1, catF_no (by simp), _, rfl, nt, _, nx, _, _, rfl, n1', T.c_Note, T.n_Note_segment, noteF_segment, F, a, cs, n, rfl, hF, hC, fun ht => ?_, fun t ht tna p hna2 np => ?_⟩
      · have e : turnsC cs sh name nd = decide (shardOf cs.routes nd.r.name = sh) := by unfold turnsC; rw [hs]; show (match titleOf cs.titles n with | some t => _ | none => _) = _; rw [ht]
        refine ⟨_, rfl, rfl, _, rfl, iteT ?_⟩
        refine ⟨_, rfl, a.x, dx, _, rfl, h1, catF_no (by simp), _, rfl, nt, _, nx, _, _, rfl, n1', T.c_Note, T.n_Note_name, noteF_name, F, a, cs, nd.r.name, rfl, hF, hC, ne, _, rfl, rfl, ?_⟩
        exact byR e H (Same.refl _) hC
      · have s2 := same_new (o := .tup [V.int t.b, V.ref tna]) np
        have hC2 : CatAt K F (upd H p (.tup [V.int t.b, V.ref tna])) c a cs := hC.same (Gr.same hF s2)
        refine ⟨_, rfl, rfl, _, rfl, iteF ?_⟩
        refine ⟨_, rfl, p, _, 0, _, rfl, rfl, .inl (.inl upd_same), atI_nat (j := 0) rfl, _, rfl, rfl, _, rfl, ?_⟩
        by_cases hb : t.b = sh
        · rw [decide_eq_true (show V.int t.b = V.int sh by rw [hb])]
          have e : turnsC cs sh name nd = nmLt t.c name := by unfold turnsC; rw [hs]; show (match titleOf cs.titles n with | some t => _ | none => _) = _; rw [ht]; exact if_pos hb
          refine iteF ?_
          refine ⟨_, rfl, p, _, 1, _, rfl, rfl, .inl (.inl upd_same), atI_nat (j := 1) rfl, _, rfl, tna, na, [t.c.1, t.c.2], [name.1, name.2], rfl, rfl, .inl (.inl (s2 _ _ (hF _ _ hna2))), .inl (.inl (s2 _ _ (hF _ _ hna))), ?_⟩
          have k2 := k _ s2
          rw [e] at k2
          exact k2
        · rw [decide_eq_false (show ¬ V.int t.b = V.int sh from fun z => hb (V.int.inj z))]
          have e : turnsC cs sh name nd = decide (shardOf cs.routes nd.r.name = sh) := by unfold turnsC; rw [hs]; show (match titleOf cs.titles n with | some t => _ | none => _) = _; rw [ht]; exact if_neg hb
          refine iteT ?_
          refine ⟨_, rfl, a.x, dx, _, rfl, s2 _ _ h1, catF_no (by simp), _, rfl, nt, _, nx, _, _, rfl, s2 _ _ n1', T.c_Note, T.n_Note_name, noteF_name, F, a, cs, nd.r.name, rfl, hF.trans s2, hC2, ne, _, rfl, rfl, ?_⟩
          exact byR e _ s2 hC2
end
end K94
/-! The catalog's functions, part 2. -/
namespace K94
open PySem PySem.Spec PyProof.Rows L2
theorem is_nm {K : PySem.W.Frag} {H : Hp} {a : Addr} {n : Int × Int} (h : NmAt H a n) : Is K H (.ref a) n := is_pair (.inl (.inl h)) (is_int _) (is_int _)
theorem is_cl {K : PySem.W.Frag} {H : Hp} {a : Addr} {x : Int × (Int × Int)} (h : ClAt H a x) : Is K H (.ref a) x := by
  obtain ⟨na, h1, h2⟩ := h
  exact is_pair (.inl (.inl h1)) (is_int _) (is_nm h2)
section
variable {P : Program} {w : World} {K : PySem.W.Frag} {mg : Str → Option Value} {base : Heap}
/-! ### close -/
theorem sc_Catalog_close : FnScope ["self", "shard", "name"] ["self", "shard", "name"] (defScope s_Catalog_close) := ⟨rfl, rfl, rfl, by decide +kernel, rfl, by decide +kernel, by decide +kernel⟩
def sp_close (K : PySem.W.Frag) (c : LC) : Sp := fun vs H Q _ => ∃ (F : Hp) (a : CA) (cs : CS) (sh : Int) (name : Int × Int) (na : Addr), vs = [.ref a.x, .int sh, .ref na] ∧ Same F H ∧ CatAt K F H c a cs ∧ NmAt F na name ∧ cs.closed.length ≤ 5000 ∧ ∀ F' H', Gr [a.cl] F H F' H' → CatAt K F' H' c a { cs with closed := closeC (sh, name) cs.closed } → Q .non H'
theorem ok_close (T : Tx w K mg) (c : LC) : C8.Met P w K mg base 1 (He.ga K "Catalog") "close" (sp_close K c) [] := by
  refine met_mk (st := s_Catalog_close) T.d_Catalog_close T.c_Catalog T.m_Catalog_close sc_Catalog_close (fun _ _ _ _ _ _ us hl => match us, hl with | [_, _, _], _ => rfl) (fun vs H Q E h => ?_) (fun f cdv A outer s H vs Q E hr h => ?_)
  · obtain ⟨F, a, cs, sh, name, na, rfl, _⟩ := h
    rfl
  · obtain ⟨F, a, cs, sh, name, na, rfl, hF, hC, hna, few, k⟩ := h
    obtain ⟨dx, ro, h1, hro⟩ := hC.obj
    obtain ⟨ps, c1, c2⟩ := hC.cls
    have lc := c2.length
    have hu64 := hr.units
    refine ⟨_, (pss_one (ps_if (pt_cmpR (op_notInT (α := (Int) × ((Int) × (Int))) (K := K) rfl (by decide) hu64) (pe_tup (pa_cons (pv 1) (pa_cons (pv 2) pa_nil))) (pe_fldK (K := K) rfl (pv 0) rfl) (by rfl))
        (pss_one (ps_expr (pe_bm PySem.F.plainAttrs_list PySem.F.slot_list_append PySem.F.type_list_append mt_append (pe_fldK (K := K) rfl (pv 0) rfl) (pa_cons (pe_tup (pa_cons (pv 1) (pa_cons (pv 2) pa_nil))) pa_nil))))
        pss_nil)), ?_⟩
    refine ⟨_, rfl, _, rfl, (by show 2 ≤ sizeLine; decide), fun p np => ?_⟩
    have s1 := same_new (o := .tup [V.int sh, V.ref na]) np
    have e1 : Is K (upd H p (.tup [V.int sh, V.ref na])) (.ref p) ((sh, name) : Int × (Int × Int)) := is_cl ⟨na, upd_same, s1 _ _ (hF _ _ hna)⟩
    have e2 : Is K (upd H p (.tup [V.int sh, V.ref na])) (.ref a.cl) cs.closed := is_list (At := ClAt (upd H p (.tup [V.int sh, V.ref na]))) (SqL.of (s1 _ _ c1)) (Paired.mono (fun _ _ z => z.mono (hF.trans s1)) c2) is_cl
    refine ⟨_, rfl, a.x, _, dx, _, _, rfl, s1 _ _ h1, T.c_Catalog, T.n_Catalog_closed, catF_closed, _, _, e1, e2, _, rfl, ?_⟩
    refine ite_b (fun hc => ?_) (fun hc => ?_)
    rotate_left
    · have hm : (sh, name) ∈ cs.closed := Classical.not_not.mp (df hc)
      have e : closeC (sh, name) cs.closed = cs.closed := if_pos hm
      rw [e] at k
      have g : Gr [a.cl] F H F (upd H p (.tup [V.int sh, V.ref na])) := (Gr.refl hF).samef s1
      exact k _ _ g (hC.same (Gr.same hF s1))
    · have hm : (sh, name) ∉ cs.closed := dt hc
      have e : closeC (sh, name) cs.closed = cs.closed ++ [(sh, name)] := if_neg hm
      rw [e] at k
      refine ⟨_, rfl, a.x, _, dx, _, _, rfl, s1 _ _ h1, T.c_Catalog, T.n_Catalog_closed, catF_closed, .inl ⟨rfl, _, SqL.of (s1 _ _ c1)⟩, ?_⟩
      refine ⟨_, rfl, _, rfl, (by show 2 ≤ sizeLine; decide), fun q nq => ?_⟩
      have s2 := same_app (o := .tup [V.int sh, V.ref na]) s1 nq
      have g1 : Gr [a.cl] F H F (upd H p (.tup [V.int sh, V.ref na])) := (Gr.refl hF).samef s1
      have g2 := g1.new_ (o := .tup [V.int sh, V.ref na]) nq
      refine ⟨a.cl, _, _, rfl, rfl, s2 _ _ c1, lt1000 (by rw [List.length_map]; omega), ?_⟩
      have nqc : q ≠ a.cl := fun z => by
        rw [z, s1 _ _ c1] at nq
        cases nq
      have nc : (upd F q (.tup [V.int sh, V.ref na])) a.cl = none := by rw [upd_ne nqc.symm]; exact hC.fc
      have g3 := g2.put (o := .lst (ps.map V.ref ++ [V.ref q])) nc (.inr (by simp))
      have sf := g3.ff
      have g0 := (Gr.refl hF).samef (S := []) s1
      have hC2 := (hC.same (g0.new_ (o := .tup [V.int sh, V.ref na]) nq))
      refine k _ _ g3 ⟨hC.xl, hC.xt, hC.xc, hC.lt, hC.lc, hC.tc, hC2.fx, hC2.fl, hC2.ft, nc, ?_, ?_, ?_, ⟨ps ++ [q], ?_, ?_⟩⟩
      · obtain ⟨dx', ro', z1, z2⟩ := hC2.obj
        exact ⟨dx', ro', by rw [upd_ne hC.xc]; exact z1, z2⟩
      · exact hC2.led.frame (Same.refl _) fun o z => by rw [upd_ne hC.lc]; exact z
      · obtain ⟨ps', z1, z2⟩ := hC2.tis
        exact ⟨ps', by rw [upd_ne hC.tc]; exact z1, z2⟩
      · rw [upd_same, List.map_append]
        rfl
      · refine paired_append (Paired.mono (fun _ _ z => z.mono sf) c2) (.cons ⟨na, upd_same, ?_⟩ .nil)
        exact sf _ _ hna
/-! ### settle -/
theorem sc_Catalog_settle : FnScope ["self", "stay", "number", "shard", "name"] ["self"] (defScope s_Catalog_settle) := ⟨rfl, rfl, rfl, by decide +kernel, rfl, by decide +kernel, by decide +kernel⟩
def sp_settle (K : PySem.W.Frag) (c : LC) : Sp := fun vs H Q _ => ∃ (F : Hp) (a : CA) (cs : CS), vs = [.ref a.x] ∧ Same F H ∧ CatAt K F H c a cs ∧ cs.closed.length ≤ 2000 ∧ cs.titles.length ≤ 2000 ∧ ∀ F' H' tl, Gr a.S F H F' H' → H tl = none → CatAt K F' H' c { a with tl := tl } (settleC cs) → Q .non H'
theorem closeC_len (x : Int × (Int × Int)) (cl : List (Int × (Int × Int))) : (closeC x cl).length ≤ cl.length + 1 := by
  unfold closeC
  split
  · omega
  · rw [List.length_append]
    exact Nat.le_refl _
theorem foldClose_len (f : T3 Int Int (Int × Int) → Int × (Int × Int)) : ∀ (ts : List (T3 Int Int (Int × Int))) (cl : List (Int × (Int × Int))), (ts.foldl (fun cl t => closeC (f t) cl) cl).length ≤ cl.length + ts.length
  | [], cl => Nat.le_refl _
  | t :: ts, cl => by
    have h1 := foldClose_len f ts (closeC (f t) cl)
    have h2 := closeC_len (f t) cl
    rw [List.foldl_cons, List.length_cons]
    omega
theorem ok_settle (T : Tx w K mg) (c : LC) : C8.Met P w K mg base 2 (He.ga K "Catalog") "settle" (sp_settle K c) [] := by
  have c_Catalog_close := ok_close (P := P) (base := base) T c
  have c_Ledger_segment_of := ok_segment_of (P := P) (base := base) T c
  refine met_mk (st := s_Catalog_settle) T.d_Catalog_settle T.c_Catalog T.m_Catalog_settle sc_Catalog_settle (fun _ _ _ _ _ _ us hl => match us, hl with | [_], _ => rfl) (fun vs H Q E h => ?_) (fun f cdv A outer s H vs Q E hr h => ?_)
  · obtain ⟨F, a, cs, rfl, _⟩ := h
    rfl
  · obtain ⟨F, a, cs, rfl, hF, hC, fc, ft, k⟩ := h
    obtain ⟨dx, ro, h1, hro⟩ := hC.obj
    obtain ⟨ps, t1, t2⟩ := hC.tis
    have lt := t2.length
    refine ⟨_, (pss_cons (ps_set (i := 1) sc_Catalog_settle.nd rfl (.inl rfl) (pe_lst pa_nil))
      (pss_cons (ps_for PassesOwn.never rfl (pi_list (pe_fldK (K := K) rfl (pv 0) rfl)) (pg_tup rfl (pgs_cons (pg_name (i := 2) sc_Catalog_settle.nd rfl (.inl rfl)) (pgs_cons (pg_name (i := 3) sc_Catalog_settle.nd rfl (.inl rfl)) (pgs_cons (pg_name (i := 4) sc_Catalog_settle.nd rfl (.inl rfl)) pgs_nil))))
        (pss_one (ps_if (pt_cmpR op_isN (C8.pe_mt c_Ledger_segment_of hr (by decide) (pe_fldK (K := K) rfl (pv 0) rfl) (pa_cons (pv 2) pa_nil)) pe_non (nomark _))
          (pss_one (ps_expr (C8.pe_mt c_Catalog_close hr (by decide) (pv 0) (pa_cons (pv 3) (pa_cons (pv 4) pa_nil)))))
          (pss_one (ps_expr (pe_bm PySem.F.plainAttrs_list PySem.F.slot_list_append PySem.F.type_list_append mt_append (pv 1) (pa_cons (pe_tup (pa_cons (pv 2) (pa_cons (pv 3) (pa_cons (pv 4) pa_nil)))) pa_nil)))))))
      (pss_one (ps_fld (pv 0) (pv 1) rfl)))), ?_⟩
    refine ⟨Nat.zero_le _, fun st nst => ?_⟩
    obtain ⟨lx, pa, na, sa, hl, pp⟩ := hC.led.ex
    obtain ⟨qs, c1, c2⟩ := hC.cls
    have nsx : st ≠ a.x := fun z => by rw [z, h1] at nst; cases nst
    have nsl : st ≠ a.l := fun z => by rw [z, hl] at nst; cases nst
    have nstl : st ≠ a.tl := fun z => by rw [z, t1] at nst; cases nst
    have nsc : st ≠ a.cl := fun z => by rw [z, c1] at nst; cases nst
    have g0 : Gr [a.cl] F H F (upd H st (.lst [])) := (Gr.refl hF).made nst
    have hC0 := hC.same ((Gr.refl hF).made (S := []) (o := .lst []) nst)
    have len := fun i => foldClose_len (fun t => (t.b, t.c)) ((cs.titles.take i).filter fun t => !hasSeg cs.led t.a) cs.closed
    refine ⟨_, rfl, a.x, _, dx, _, _, rfl, g0.keep _ _ h1 (by simp [hC.xc]), T.c_Catalog, T.n_Catalog_titles, catF_titles, a.tl, rfl, ⟨_, SqL.of (g0.keep _ _ t1 (by simp [hC.tc]))⟩, for_list (K := K) (a := a.tl) (xs := ps.map V.ref)
      (fun i σ H2 => ∃ Fi, Gr [a.cl] F H Fi H2 ∧ Fi st = none ∧ CatAt K Fi H2 c a { cs with closed := ((cs.titles.take i).filter fun t => !hasSeg cs.led t.a).foldl (fun cl t => closeC (t.b, t.c) cl) cs.closed } ∧
        (∃ us, H2 st = some (.lst (us.map V.ref)) ∧ Paired (TiAt Fi) us ((cs.titles.take i).filter fun t => hasSeg cs.led t.a)) ∧ ∃ y z u, σ = [some (.ref a.x), some (.ref st), y, z, u])
      ⟨F, g0, hF.free nst, hC0, ⟨[], upd_same, .nil⟩, none, none, none, rfl⟩ (fun i σ H2 _ p => by obtain ⟨Fi, g, _⟩ := p; exact SqL.of (g.keep _ _ t1 (by simp [hC.tc]))) ?_ ?_⟩
    · rintro i v σ H2 hi ⟨Fi, g, nfs, hCi, ⟨us, u1, u2⟩, y, z, u, rfl⟩
      obtain ⟨t, ht, rfl⟩ := map_at hi
      obtain ⟨q, hq, na2, rq, rn⟩ := paired_at t2 ht
      obtain ⟨dx2, ro2, h1i, _⟩ := hCi.obj
      have rq' := g.ff _ _ rq
      have rn' := rn.mono g.ff
      have tk : (cs.titles.take (i + 1)).filter (fun t => hasSeg cs.led t.a) = (cs.titles.take i).filter (fun t => hasSeg cs.led t.a) ++ (if hasSeg cs.led q.a = true then [q] else []) := by
        rw [take_succ_of hq, List.filter_append]
        congr 1
        rw [List.filter_cons]
        rfl
      have tk2 : (cs.titles.take (i + 1)).filter (fun t => !hasSeg cs.led t.a) = (cs.titles.take i).filter (fun t => !hasSeg cs.led t.a) ++ (if (!hasSeg cs.led q.a) = true then [q] else []) := by
        rw [take_succ_of hq, List.filter_append]
        congr 1
        rw [List.filter_cons]
        rfl
      have li := len i
      have lf : ((cs.titles.take i).filter fun t => !hasSeg cs.led t.a).length ≤ cs.titles.length := Nat.le_trans (List.length_filter_le _ _) (by rw [List.length_take]; exact Nat.min_le_right _ _)
      refine ⟨t, _, rfl, .inl (.inl (g.fh _ _ rq')), rfl, _, _, rfl, _, _, rfl, _, _, rfl, rfl, ?_⟩
      obtain ⟨lx2, pa2, na3, sa2, hl2, _⟩ := hCi.led.ex
      refine ⟨_, rfl, a.x, _, dx2, _, _, rfl, h1i, T.c_Catalog, T.n_Catalog_ledger, catF_ledger, a.l, lx2, _, rfl, hl2, ledF_no (by simp), _, rfl, Fi, a.l, cs.led, q.a, rfl, g.fh, hCi.led, fun hn => ?_, fun hn b => ?_⟩
      · refine ⟨rfl, _, rfl, iteT ?_⟩
        have hn' : hasSeg cs.led q.a = false := hn
        refine ⟨_, rfl, a.x, dx2, _, rfl, h1i, catF_no (by simp), _, rfl, _, rfl, Fi, a, _, q.b, q.c, na2, rfl, g.fh, hCi, rn', Nat.le_trans li (by omega), fun F' H' g' hC' => ?_⟩
        have u1' := g'.keep _ _ u1 (by simp [nsc])
        refine ⟨F', g.trans g', g'.out u1 nfs, ?_, ⟨us, u1', ?_⟩, _, _, _, rfl⟩
        · rw [tk2, hn', if_pos (by decide), List.foldl_append]
          exact hC'
        · rw [tk, hn', if_neg (by decide), List.append_nil]
          exact Paired.mono (fun _ _ z => z.mono g'.ff) u2
      · refine ⟨rfl, _, rfl, iteF ?_⟩
        have hn' : hasSeg cs.led q.a = true := hn
        refine ⟨_, rfl, .inl ⟨rfl, _, SqL.of u1⟩, ?_⟩
        refine ⟨_, rfl, _, rfl, _, rfl, (by show 3 ≤ sizeLine; decide), fun p np => ?_⟩
        have s2 := same_new (o := .tup [V.int q.a, V.int q.b, V.ref na2]) np
        have lu := u2.length
        have lu2 : ((cs.titles.take i).filter fun t => hasSeg cs.led t.a).length ≤ cs.titles.length := Nat.le_trans (List.length_filter_le _ _) (by rw [List.length_take]; exact Nat.min_le_right _ _)
        refine ⟨st, _, _, rfl, rfl, s2 _ _ u1, lt1000 (by rw [List.length_map]; omega), ?_⟩
        have g2 := g.new_ (o := .tup [V.int q.a, V.int q.b, V.ref na2]) np
        have nps : p ≠ st := fun z => by
          rw [z, u1] at np
          cases np
        have nf2 : (upd Fi p (.tup [V.int q.a, V.int q.b, V.ref na2])) st = none := by rw [upd_ne nps.symm]; exact nfs
        have g3 := g2.put (o := .lst (us.map V.ref ++ [V.ref p])) nf2 (.inl nst)
        have gx : Gr [st] Fi H2 (upd Fi p (.tup [V.int q.a, V.int q.b, V.ref na2])) (upd (upd H2 p (.tup [V.int q.a, V.int q.b, V.ref na2])) st (.lst (us.map V.ref ++ [V.ref p]))) := ((Gr.refl g.fh).new_ np).put nf2 (.inr (by simp))
        refine ⟨_, g3, nf2, ?_, ⟨us ++ [p], ?_, ?_⟩, _, _, _, rfl⟩
        · rw [tk2, hn', if_neg (by decide), List.append_nil]
          exact hCi.frame gx (by simp [nsx.symm]) (by simp [nsl.symm]) (by simp [nstl.symm]) (by simp [nsc.symm])
        · rw [upd_same, List.map_append]
          rfl
        · rw [tk, hn', if_pos rfl]
          exact paired_append (Paired.mono (fun _ _ z => z.mono gx.ff) u2) (.cons ⟨na2, upd_same, rn'.mono gx.ff⟩ .nil)
    · rintro σ H2 ⟨Fi, g, nfs, hCi, ⟨us, u1, u2⟩, y, z, u, rfl⟩
      rw [List.length_map, lt, List.take_length] at hCi u2
      obtain ⟨dx2, ro2, h1i, hro2⟩ := hCi.obj
      refine ⟨_, rfl, _, rfl, a.x, _, dx2, _, rfl, h1i, T.c_Catalog, T.n_Catalog_titles, (by show 5 < 1000; decide), ?_⟩
      rw [catF_p_titles]
      have g1 : Gr a.S F H Fi H2 := g.mono (fun b hb => by simp at hb; simp [CA.S, hb])
      have g2 := g1.put (o := .ins (He.ga K "Catalog") dx2 (catF a.l st a.cl ro2 cs.begins)) hCi.fx (.inr (by simp [CA.S]))
      refine k _ _ st g2 nst ⟨hC.xl, nsx.symm, hC.xc, nsl.symm, hC.lc, nsc, hCi.fx, hCi.fl, nfs, hCi.fc, ⟨dx2, ro2, upd_same, hro2⟩, ?_, ⟨us, ?_, u2⟩, ?_⟩
      · exact hCi.led.frame (Same.refl _) fun o z => by rw [upd_ne hC.xl.symm]; exact z
      · show upd H2 a.x _ st = _
        rw [upd_ne nsx]
        exact u1
      · obtain ⟨qs', z1, z2⟩ := hCi.cls
        exact ⟨qs', by show upd H2 a.x _ a.cl = _; rw [upd_ne hC.xc.symm]; exact z1, z2⟩
end
end K94
/-! The catalog's functions, part 3. -/
namespace K94
open PySem PySem.Spec PyProof.Rows L2
theorem paired_take {α β : Type} {R : α → β → Prop} : ∀ {xs : List α} {ys : List β}, Paired R xs ys → ∀ i, Paired R (xs.take i) (ys.take i)
  | _, _, .nil, i => by
    rw [List.take_nil, List.take_nil]
    exact .nil
  | _, _, .cons r t, 0 => .nil
  | _, _, .cons r t, i + 1 => .cons r (paired_take t i)
theorem CatAt.led_ {K : PySem.W.Frag} {F H F' H' : Hp} {c : LC} {a : CA} {cs : CS} {ls : LS} (h : CatAt K F H c a cs) (g : Gr [a.l] F H F' H') (hL : LedAt K F' H' c a.l ls) : CatAt K F' H' c a { cs with led := ls } := by
  obtain ⟨dx, ro, h1, h2⟩ := h.obj
  obtain ⟨lx, pa, na, sa, l1, l2⟩ := h.led.ex
  obtain ⟨ps, t1, t2⟩ := h.tis
  obtain ⟨qs, c1, c2⟩ := h.cls
  exact ⟨h.xl, h.xt, h.xc, h.lt, h.lc, h.tc, g.out h1 h.fx, g.out l1 h.fl, g.out t1 h.ft, g.out c1 h.fc, ⟨dx, ro, g.keep _ _ h1 (by simp [h.xl]), h2.mono g.ff fun _ _ e => e.mono g.ff⟩, hL,
    ⟨ps, g.keep _ _ t1 (by simp [h.lt.symm]), Paired.mono (fun _ _ e => e.mono g.ff) t2⟩, ⟨qs, g.keep _ _ c1 (by simp [h.lc.symm]), Paired.mono (fun _ _ e => e.mono g.ff) c2⟩⟩
theorem CatAt.push {K : PySem.W.Frag} {F H : Hp} {c : LC} {a : CA} {cs : CS} {p : Addr} {t : T3 Int Int (Int × Int)} {ps : List Addr} (h : CatAt K F H c a cs) (t2 : Paired (TiAt F) ps cs.titles) (hp : TiAt F p t) : CatAt K F (upd H a.tl (.lst (ps.map V.ref ++ [V.ref p]))) c a { cs with titles := cs.titles ++ [t] } := by
  obtain ⟨dx, ro, h1, h2⟩ := h.obj
  obtain ⟨qs, c1, c2⟩ := h.cls
  refine ⟨h.xl, h.xt, h.xc, h.lt, h.lc, h.tc, h.fx, h.fl, h.ft, h.fc, ⟨dx, ro, by rw [upd_ne h.xt]; exact h1, h2⟩, h.led.frame (Same.refl _) fun o z => by rw [upd_ne h.lt]; exact z, ⟨ps ++ [p], ?_, paired_append t2 (.cons hp .nil)⟩, ⟨qs, by rw [upd_ne h.tc.symm]; exact c1, c2⟩⟩
  rw [upd_same, List.map_append]
  rfl
section
variable {P : Program} {w : World} {K : PySem.W.Frag} {mg : Str → Option Value} {base : Heap}
/-! ### forget -/
theorem sc_Catalog_forget : FnScope ["self", "shard", "name", "row"] ["self", "shard", "name"] (defScope s_Catalog_forget) := ⟨rfl, rfl, rfl, by decide +kernel, rfl, by decide +kernel, by decide +kernel⟩
def sp_forget (K : PySem.W.Frag) (c : LC) : Sp := fun vs H Q _ => ∃ (F : Hp) (a : CA) (cs : CS) (sh : Int) (name : Int × Int) (na : Addr), vs = [.ref a.x, .int sh, .ref na] ∧ Same F H ∧ CatAt K F H c a cs ∧ NmAt F na name ∧ cs.closed.length ≤ 5000 ∧ ∀ F' H' cl, Gr a.S F H F' H' → H cl = none → CatAt K F' H' c { a with cl := cl } (forgetC (sh, name) cs) → Q .non H'
theorem ok_forget (T : Tx w K mg) (c : LC) : C8.Met P w K mg base 1 (He.ga K "Catalog") "forget" (sp_forget K c) [] := by
  refine met_mk (st := s_Catalog_forget) T.d_Catalog_forget T.c_Catalog T.m_Catalog_forget sc_Catalog_forget (fun _ _ _ _ _ _ us hl => match us, hl with | [_, _, _], _ => rfl) (fun vs H Q E h => ?_) (fun f cdv A outer s H vs Q E hr h => ?_)
  · obtain ⟨F, a, cs, sh, name, na, rfl, _⟩ := h
    rfl
  · obtain ⟨F, a, cs, sh, name, na, rfl, hF, hC, hna, few, k⟩ := h
    obtain ⟨dx, ro, h1, hro⟩ := hC.obj
    obtain ⟨ps, c1, c2⟩ := hC.cls
    obtain ⟨ts, t1, t2⟩ := hC.tis
    obtain ⟨lx, pa, na2, sa, l1, l2⟩ := hC.led.ex
    have lc := c2.length
    have hu64 := hr.units
    refine ⟨_, (pss_one (ps_fld (pv 0) (pe_lc (own := [("row", 3)]) (g := gName 3) (tt := _) rfl sc_Catalog_forget.nd (pi_list (pe_fldK (K := K) rfl (pv 0) rfl)) (blkOk_by (N := ["self", "shard", "name", "row"]) (sc := defScope s_Catalog_forget) (by decide +kernel)) (fun _ _ _ _ _ => pg_name (i := 3) sc_Catalog_forget.nd rfl (.inl rfl)) (fun _ _ _ _ _ => pts_one (pt_cmpR (op_neT (α := (Int) × ((Int) × (Int))) (K := K) rfl (by decide) hu64) (pv 3) (pe_tup (pa_cons (pv 1) (pa_cons (pv 2) pa_nil))) (nomark _))) (fun _ _ _ _ _ => (pv 3))) rfl)), ?_⟩
    refine ⟨_, rfl, a.x, _, dx, _, _, rfl, h1, T.c_Catalog, T.n_Catalog_closed, catF_closed, a.cl, rfl, ⟨_, SqL.of c1⟩, fun D nD => ?_⟩
    obtain ⟨bs, e1, e2⟩ := paired_filter (fun y => decide (y ≠ (sh, name))) c2
    refine lc_list_pure nD (SqL.of c1) (ps.zip cs.closed) (by rw [List.length_zip, List.length_map]; omega) (by rw [List.length_map]; omega) (fun q => if decide (q.2 ≠ (sh, name)) = true then some (.ref q.1) else none) (fun i x q H2 Qn Qy hx hm s1 hn hy => ?_) (fun H2 s1 e => ?_)
    · obtain ⟨t, ht, rfl⟩ := map_at hx
      obtain ⟨z1, z2⟩ := zip_at hm
      have ea : t = q.1 := Option.some.inj (ht.symm.trans z1)
      subst ea
      obtain ⟨y, hy1, hat⟩ := paired_at c2 ht
      have en : y = q.2 := Option.some.inj (hy1.symm.trans z2)
      subst en
      refine ⟨rfl, ?_⟩
      refine ⟨_, rfl, _, rfl, _, rfl, (by show 2 ≤ sizeLine; decide), fun p np => ?_⟩
      have s2 := same_new (o := .tup [V.int sh, V.ref na]) np
      have s02 := hF.trans (s1.trans s2)
      refine ⟨q.2, (sh, name), is_cl (hat.mono s02), is_cl ⟨na, upd_same, hna.mono s02⟩, _, rfl, ?_⟩
      refine ite_b (fun hc => ⟨_, rfl, hy _ ?_ _ s2⟩) (fun hc => hn ?_ _ s2)
      · rw [if_pos (decide_eq_true (dt hc))]
      · rw [if_neg (fun z => df hc (of_decide_eq_true z))]
    rw [e1] at e
    have nDx : D ≠ a.x := fun z => by rw [z, h1] at nD; cases nD
    have nDt : D ≠ a.tl := fun z => by rw [z, t1] at nD; cases nD
    have nDl : D ≠ a.l := fun z => by rw [z, l1] at nD; cases nD
    refine ⟨_, rfl, a.x, _, dx, _, rfl, s1 _ _ h1, T.c_Catalog, T.n_Catalog_closed, (by show 5 < 1000; decide), ?_⟩
    rw [catF_p_closed]
    have g1 := (((Gr.refl (S := a.S) hF).samef s1)).put (o := .ins (He.ga K "Catalog") dx (catF a.l a.tl D ro cs.begins)) hC.fx (.inr (by simp [CA.S]))
    refine k _ _ D g1 nD ⟨hC.xl, hC.xt, nDx.symm, hC.lt, nDl.symm, nDt.symm, hC.fx, hC.fl, hC.ft, hF.free nD, ⟨dx, ro, upd_same, hro⟩, ?_, ⟨ts, ?_, t2⟩, ⟨bs, ?_, e2⟩⟩
    · exact hC.led.frame (Same.refl _) fun o z => by rw [upd_ne hC.xl.symm]; exact s1 _ _ z
    · show upd H2 a.x _ a.tl = _
      rw [upd_ne hC.xt.symm]
      exact s1 _ _ t1
    · show upd H2 a.x _ D = _
      rw [upd_ne nDx]
      exact e
/-! ### own -/
theorem sc_Catalog_own : FnScope ["self", "shard", "name", "partitions", "homes", "notes", "note", "turning", "number", "leaves", "segment"] ["self", "shard", "name", "partitions", "homes"] (defScope s_Catalog_own) := ⟨rfl, rfl, rfl, by decide +kernel, rfl, by decide +kernel, by decide +kernel⟩
def sp_cown (K : PySem.W.Frag) (c : LC) : Sp := fun vs H Q _ => ∃ (F : Hp) (a : CA) (cs : CS) (sh : Int) (name : Int × Int) (na pz ha inner : Addr) (hs : List Addr) (homes : List (Int × List Int)), vs = [.ref a.x, .int sh, .ref na, .ref pz, .ref ha] ∧ Same F H ∧ CatAt K F H c a cs ∧ cs.Fit ∧ cs.led.segs.length < 1000 ∧ cs.routes ≠ [] ∧
  (cs.led.notes.map (·.num)).Nodup ∧ NmAt F na name ∧ F pz = some (.tup [.ref inner]) ∧ InAt F inner ∧ F ha = some (.tup (hs.map V.ref)) ∧ Paired (HomeAt K F) hs homes ∧ homes.length ≤ 2000 ∧ (homes.map (·.1)).Nodup ∧ ∀ F' H', Gr a.S F H F' H' → CatAt K F' H' c a (ownC sh name inner homes cs) → Q (.int cs.led.up) H'
theorem nodup_filter_map {α : Type} (num : α → Int) (p : α → Bool) {xs : List α} (h : (xs.map num).Nodup) : ((xs.filter p).map num).Nodup := h.sublist (List.Sublist.map _ List.filter_sublist)
theorem ok_cown (T : Tx w K mg) (c : LC) : C8.Met P w K mg base 6 (He.ga K "Catalog") "own" (sp_cown K c) [] := by
  have c_Catalog_turns := ok_turns (P := P) (base := base) T c
  have c_Ledger_own := ok_lown (P := P) (base := base) T c
  refine met_mk (st := s_Catalog_own) T.d_Catalog_own T.c_Catalog T.m_Catalog_own sc_Catalog_own (fun _ _ _ _ _ _ us hl => match us, hl with | [_, _, _, _, _], _ => rfl) (fun vs H Q E h => ?_) (fun f cdv A outer s H vs Q E hr h => ?_)
  · obtain ⟨F, a, cs, sh, name, na, pz, ha, inner, hs, homes, rfl, _⟩ := h
    rfl
  · obtain ⟨F, a, cs, sh, name, na, pz, ha, inner, hs, homes, rfl, hF, hC, fit, few, ne, nod, hna, hpz, hin, hha, hp, lh, nodh, k⟩ := h
    obtain ⟨dx, ro, h1, hro⟩ := hC.obj
    obtain ⟨lx, pa, nta, sa, l1, l2⟩ := hC.led.ex
    obtain ⟨nas, n1, n2⟩ := l2.notes
    have ln := n2.length
    have lhs := hp.length
    have fn := fit.led.notes
    have hu := hu_of hr
    refine ⟨_, (pss_cons (ps_set (i := 5) sc_Catalog_own.nd rfl (.inr rfl) pe_dnewK)
      (pss_cons (ps_for PassesOwn.never rfl (pi_list (pe_fldK (K := K) rfl (pe_fldK (K := K) rfl (pv 0) rfl) rfl)) (pg_name (i := 6) sc_Catalog_own.nd rfl (.inl rfl))
        (pss_one (ps_dput hu (pv 5) (pe_fldK (K := K) rfl (pv 6) rfl) (pv 6) rfl)))
      (pss_cons (ps_setLc (i := 7) (own := [("number", 8), ("leaves", 9)]) (g := gTup K 2 (gCons (gName 8) (gCons (gName 9) gNil))) (tt := _) rfl sc_Catalog_own.nd rfl rfl (sw_true rfl rfl rfl (by decide +kernel)) (pi_tup (pv 4)) (blkOk_by (N := ["self", "shard", "name", "partitions", "homes", "notes", "note", "turning", "number", "leaves", "segment"]) (sc := defScope s_Catalog_own) (by decide +kernel)) (fun _ _ _ _ _ => (pg_tup rfl (pgs_cons (pg_name (i := 8) sc_Catalog_own.nd rfl (.inl rfl) (.inr rfl)) (pgs_cons (pg_name (i := 9) sc_Catalog_own.nd rfl (.inl rfl) (.inr rfl)) pgs_nil)))) (fun _ _ _ _ _ => pts_one (PW.pt (pw_and (pt_cmp (pc_din hu (pv 8) (pv 5))) (pw_and1 (pt_val (C8.pe_mt c_Catalog_turns hr (by decide) (pv 0) (pa_cons (pv 1) (pa_cons (pv 2) (pa_cons (pe_dget hu (pv 5) (pv 8) (fun _ _ => rfl)) pa_nil))))))))) (fun _ _ _ _ _ => (pe_tup (pa_cons (pv 8) (pa_cons (pv 9) pa_nil)))))
      (pss_cons (ps_set (i := 10) sc_Catalog_own.nd rfl (.inl rfl) (C8.pe_mt c_Ledger_own hr (by decide) (pe_fldK (K := K) rfl (pv 0) rfl) (pa_cons (pv 1) (pa_cons (pv 3) (pa_cons (pv 7) pa_nil)))))
      (pss_cons (ps_expr (pe_bm PySem.F.plainAttrs_list PySem.F.slot_list_append PySem.F.type_list_append mt_append (pe_fldK (K := K) rfl (pv 0) rfl) (pa_cons (pe_tup (pa_cons (pv 10) (pa_cons (pv 1) (pa_cons (pv 2) pa_nil)))) pa_nil)))
      (pss_one (ps_ret (pv 10)))))))), ?_⟩
    refine fun d nd => ?_
    have sd := same_new (o := .dK []) nd
    refine ⟨_, rfl, a.x, _, dx, _, _, rfl, sd _ _ h1, T.c_Catalog, T.n_Catalog_ledger, catF_ledger, a.l, _, lx, _, _, rfl, sd _ _ l1, T.c_Ledger, T.n_Ledger_notes, ledF_notes, nta, rfl, ⟨_, SqL.of (sd _ _ (hF _ _ n1))⟩, for_list (K := K) (a := nta) (xs := nas.map V.ref)
      (fun i σ H2 => Same H H2 ∧ H2 d = some (.dK (kvsOf (fun nt : NoteD => nt.num) (nas.take i) (cs.led.notes.take i))) ∧ ∃ y, σ = [some (.ref a.x), some (.int sh), some (.ref na), some (.ref pz), some (.ref ha), some (.ref d), y, none, none, none, none])
      ⟨sd, upd_same, none, rfl⟩ (fun i σ H2 _ p => SqL.of (p.1 _ _ (hF _ _ n1))) ?_ ?_⟩
    · rintro i v σ H2 hi ⟨s2, hd, y, rfl⟩
      obtain ⟨t, ht, rfl⟩ := map_at hi
      obtain ⟨nt, hh, nx, ma, lv, q1, q2, q3⟩ := paired_at n2 ht
      refine ⟨_, rfl, _, rfl, _, rfl, t, _, nx, _, _, rfl, s2 _ _ (hF _ _ q1), T.c_Note, T.n_Note_number, noteF_number, d, _, rfl, .inl ⟨_, .inl nt.num, hd, rfl, lt1000 (Nat.le_trans (kvsOf_len _ _ _) (by rw [List.length_take]; omega)), rfl⟩, ?_⟩
      have pl : Paired (CNoteAt K F c.key) (nas.take i) (cs.led.notes.take i) := paired_take n2 i
      have ev : valV (kvsOf (fun nt : NoteD => nt.num) (nas.take i) (cs.led.notes.take i)) (.inl nt.num) = none := (val_kvs (fun nt : NoteD => nt.num) nt.num pl).1 (find_take_none nod hh)
      rw [putK_snoc ev]
      refine ⟨fun b o e => ?_, ?_, _, rfl⟩
      · rw [upd_ne (ne_of_none e nd)]
        exact s2 _ _ e
      · rw [take_succ_of hh, take_succ_of ht, kvsOf_snoc _ pl.length, upd_same]
    rintro σ H2 ⟨s2, hd, y, rfl⟩
    rw [List.length_map, List.take_length, ln, List.take_length] at hd
    have g1 : Gr [a.l] F H F H2 := (Gr.refl hF).samef s2
    have hC1 := hC.same (Gr.same hF s2)
    refine ⟨_, rfl, ha, rfl, ⟨_, .inl (.inl (g1.fh _ _ hha))⟩, fun D nD => ?_⟩
    refine lc_grow walk_tup nD g1.fh (fun i w => (hs.map V.ref)[i]? = some w) (fun H4 q => .inl (.inl (q _ _ (g1.fh _ _ hha)))) (fun _ _ _ _ y => y) homes (by rw [List.length_map]; exact lhs.symm) (by rw [List.length_map]; omega)
      (fun h => if (match findNote cs.led.notes h.1 with | none => false | some nd => turnsC cs sh name nd) = true then some h else none) (fun F a h => HomeAt K F a h) (fun s e => e.mono s) ?_ ?_
    · intro i w h Fi H4 Qn Qy rv hz gr hn hy
      obtain ⟨t, ht, rfl⟩ := map_at rv
      obtain ⟨h', hh, lv, rt, rl⟩ := paired_at hp ht
      have en : h' = h := Option.some.inj (hh.symm.trans hz)
      subst en
      have rt4 := gr.hh _ _ (g1.fh _ _ rt)
      refine ⟨t, _, rfl, .inl (.inl rt4), rfl, _, _, rfl, _, _, rfl, rfl, rfl, ?_⟩
      obtain ⟨v1, v2⟩ := val_kvs (fun nt : NoteD => nt.num) h'.1 n2
      refine ⟨_, rfl, _, rfl, d, _, rfl, DGet.k (k := .inl h'.1) (gr.hh _ _ hd), _, rfl, ?_⟩
      cases hf : cs.led.notes.find? (fun nt => decide (nt.num = h'.1)) with
      | none =>
        rw [v1 hf]
        refine iteF (hn ?_ Fi H4 (Gr.refl gr.fh))
        have ef : findNote cs.led.notes h'.1 = none := hf
        rw [ef]
        exact if_neg fun z => Bool.noConfusion (show false = true from z)
      | some nt =>
        obtain ⟨na4, e1, e2⟩ := v2 nt hf
        rw [e1]
        refine iteT ?_
        refine ⟨_, rfl, a.x, dx, _, rfl, gr.hh _ _ (s2 _ _ h1), catF_no (by simp), _, rfl, _, rfl, _, rfl, _, rfl, d, .ref na4, rfl, ?_, ?_⟩
        · rw [← e1]
          exact DGet.k (k := .inl h'.1) (gr.hh _ _ hd)
        refine ⟨Fi, a, cs, sh, name, nt, na, na4, rfl, gr.fh, hC1.same gr, ne, hna.mono gr.ff, e2.mono gr.ff, fun H5 s5 => ?_⟩
        refine ⟨_, rfl, ?_⟩
        have ef : findNote cs.led.notes h'.1 = some nt := hf
        have g5 : Gr [] Fi H4 Fi H5 := Gr.same gr.fh s5
        refine ite_b (fun hc => ?_) (fun hc => hn ?_ Fi H5 g5)
        · refine ⟨_, rfl, _, rfl, (by show 2 ≤ sizeLine; decide), fun p np => ?_⟩
          have g6 := g5.new_ (o := .tup [V.int h'.1, V.ref lv]) np
          refine hy h' ?_ p _ _ g6 ⟨lv, upd_same, sqT_same (gr.ff.trans g6.ff) rl⟩
          rw [ef]
          exact if_pos hc
        · rw [ef]
          exact if_neg fun z => Bool.noConfusion (hc.symm.trans z)
    intro F3 H3 bs gr nF e pr
    have ez : homes.filterMap (fun h => if (match findNote cs.led.notes h.1 with | none => false | some nd => turnsC cs sh name nd) = true then some h else none) = turning cs sh name homes := by
      unfold turning
      rw [← List.filterMap_eq_filter]
      rfl
    rw [ez] at pr
    have hC3 := hC1.same gr
    have g3 : Gr a.S F H F3 H3 := (g1.trans (gr.mono (by simp))).mono (by simp [CA.S])
    obtain ⟨dx3, ro3, h13, _⟩ := hC3.obj
    obtain ⟨lx3, pa3, nta3, sa3, l13, _⟩ := hC3.led.ex
    refine ⟨_, rfl, a.x, _, dx3, _, _, rfl, h13, T.c_Catalog, T.n_Catalog_ledger, catF_ledger, a.l, lx3, _, rfl, l13, ledF_no (by simp), _, rfl, _, rfl, _, rfl, ?_⟩
    refine ⟨F3, a.l, pz, D, inner, sh, cs.led, bs, turning cs sh name homes, name, rfl, g3.fh, hC3.fl, hC3.led, fit.led, few, g3.ff _ _ hpz, ?_, e, pr, ?_, nodup_filter_map _ _ nodh, fun F4 H4 g4 hL4 => ?_⟩
    · obtain ⟨xs, z⟩ := hin
      exact ⟨xs, g3.ff _ _ z⟩
    · exact Nat.le_trans (List.length_filter_le _ _) lh
    have hC4 := hC3.led_ g4 hL4
    have g34 : Gr a.S F H F4 H4 := g3.trans (g4.mono (by simp [CA.S]))
    obtain ⟨dx4, ro4, h14, _⟩ := hC4.obj
    obtain ⟨ps, t1, t2⟩ := hC4.tis
    have lt := t2.length
    have ft := fit.titles
    refine ⟨_, rfl, a.x, _, dx4, _, _, rfl, h14, T.c_Catalog, T.n_Catalog_titles, catF_titles, .inl ⟨rfl, _, SqL.of t1⟩, ?_⟩
    refine ⟨_, rfl, _, rfl, _, rfl, (by show 3 ≤ sizeLine; decide), fun p np => ?_⟩
    have g5 := g34.new_ (o := .tup [V.int cs.led.up, V.int sh, V.ref na]) np
    have sA := same_new (o := .tup [V.int cs.led.up, V.int sh, V.ref na]) np
    refine ⟨a.tl, _, _, rfl, rfl, sA _ _ t1, lt1000 (by rw [List.length_map]; show ps.length ≤ _; have : ps.length = cs.titles.length := lt; omega), ?_⟩
    have gq : Gr [] F4 H4 (upd F4 p (.tup [V.int cs.led.up, V.int sh, V.ref na])) (upd H4 p (.tup [V.int cs.led.up, V.int sh, V.ref na])) := (Gr.refl g34.fh).new_ np
    have hC5 := hC4.same gq
    have g6 := g5.put (o := .lst (ps.map V.ref ++ [V.ref p])) hC5.ft (.inr (by simp [CA.S]))
    refine ⟨_, rfl, k _ _ g6 (hC5.push (t := ⟨cs.led.up, sh, name⟩) (Paired.mono (fun _ _ z => z.mono gq.ff) t2) ⟨na, upd_same, hna.mono g6.ff⟩)⟩
end
end K94
/-! sorted(rows, key=lambda row: row[0]), and the table of code objects that the making of the lambda writes. -/
namespace K94
open PySem PySem.Spec PyProof.Rows L2 LamX
/-! ### the call of the lambda -/
section
variable {prog : Program} {w : World} {A : Around} {s : Shared}
/-- (lambda row: row[0])(t), t a pair whose first is a text -/
theorem lam_row {f c' t : Addr} {q x : Str} {pm ctv u : Value} {tk : Tok} {params : Arguments} {scope : Scope} {p1 p2 p3 : Pos} {j : Nat} (hd : A.depth < recursionLimit) (hn : s.heap.NoLimit)
    (ho : s.heap.get? f = some (PySem.W.kla_obj "<lambda>" q params (.Subscript (.Name "row" p1) (.Constant (.int 0) j p2) p3) scope [] pm c' ctv)) (hc : s.heap.CodeRec (.ref c') q)
    (hsk : scope.kind = .function) (hsn : scope.names = [(("row" : Str), NameKind.local)]) (hsg : scope.isGenerator = false) (hsc : scope.isCoroutine = false)
    (hb : bindArgs (PySem.W.kla_fn "<lambda>" q params (.Subscript (.Name "row" p1) (.Constant (.int 0) j p2) p3) scope [] pm (.ref c') ctv) ⟨[.ref t], []⟩ = pure [(("row" : Str), Value.ref t)])
    (ht : IsTup s.heap t #[.str x tk, u]) : wpAny (model prog w) A (call (.ref f) [.ref t]) (PySem.W.KeyPure (.str x) s) (fun _ _ => False) s := by
  have hl : ∀ y ∈ [(("row" : Str), Value.ref t)], scope.names.lookup y.1 = some .local := fun y hy => by
    rw [List.mem_singleton.mp hy, hsn]
    rfl
  refine wpAny_call (codeAny_mono (R := fun r s' => match r with | .ok (.ret v) => PySem.W.KeyPure (.str x) s v s' | _ => False) (PySem.W.kla_callFunE hd ho rfl hsc hsg rfl hc ?_) fun r s' hq => ?_)
  · rw [hb]
    refine wpAny_pure (wpAny_newFunctionEnv (fun y hy => by rw [hsn] at hy; rw [List.mem_singleton.mp hy]; decide) hl (fun h₁ hns hsb => ⟨hn.fresh _ hsb, ?_⟩) hsk)
    have kp : ∀ b o, s.heap.get? b = some o → h₁.get? b = some o := fun b o e => hsb.extBut b o (Nat.ne_of_lt (Heap.lt_size e)) (Heap.get?_push_of_some _ e)
    refine PySem.W.kla_codeExpr ?_
    refine Subscript_ (wpAny_Name (wpAny_loadName_local hsk (by show scope.names.lookup _ = _; exact hl _ (List.mem_singleton.mpr rfl)) hns (v := .ref t) rfl ?_))
    refine wpAny_Constant_int ?_
    have ht1 : IsTup h₁ t #[.str x tk, u] := by
      obtain ⟨o, e1, e2⟩ := ht
      exact ⟨o, kp _ _ e1, e2⟩
    refine subscriptTail_builtinR (x := .str x tk) ht1.typeIs slot_tuple_getitem.lookup (getItem_tuple (j := 0) ht1 (by decide) (by decide) (by rfl) rfl ⟨rfl, ?_⟩)
    exact ⟨h₁, _, rfl, kp, .str x tk⟩
  · cases r with
    | error e => exact (show False from hq).elim
    | ok fl =>
      cases fl with
      | ret v => exact hq
      | next => exact (show False from hq).elim
      | brk => exact (show False from hq).elim
      | cont => exact (show False from hq).elim
end
/-! ### sorted(rows, key=lambda row: row[0]) -/
theorem each_of {R : Addr → Str × Int → Prop} : ∀ {ps : List Addr} {its : List Value} {rs : List (Str × Int)}, Vals (ps.map V.ref) its → Paired R ps rs → PySem.W.EachIs (fun v r => ∃ p, v = Value.ref p ∧ R p r) its rs
  | [], _, _, r, p => by
    cases r
    cases p
    exact .nil
  | a :: ps, _, _, r, p => by
    cases r with
    | cons h t =>
      cases p with
      | cons q z =>
        cases h
        exact .cons ⟨a, rfl, q⟩ (each_of t z)
theorem of_each {R : Addr → Str × Int → Prop} : ∀ {its : List Value} {rs : List (Str × Int)}, PySem.W.EachIs (fun v r => ∃ p, v = Value.ref p ∧ R p r) its rs → ∃ ps : List Addr, Vals (ps.map V.ref) its ∧ Paired R ps rs
  | _, _, .nil => ⟨[], .nil, .nil⟩
  | _, _, .cons h t => by
    obtain ⟨p, rfl, hp⟩ := h
    obtain ⟨ps, h1, h2⟩ := of_each t
    exact ⟨p :: ps, .cons rfl h1, .cons hp h2⟩
def tSortLam (P : Addr) (q : Str) (t : TA) : TE := fun σ H Q => t σ H fun vs H1 => ∃ a ps rs, ∃ R : Addr → Str × Int → Prop, vs = [V.ref a] ∧ H1 a = some (.lst (ps.map V.ref)) ∧ Paired R ps rs ∧ (∀ p r, R p r → RtAt H1 p r) ∧ rs.length ≤ 10000 ∧ TabS H1 P q ∧
  ∀ H2 ps' D, ExtN H1 H2 → TabS H2 P q → H2 D = none → Paired R ps' (byKey rs) → Q (.ref D) (upd H2 D (.lst (ps'.map V.ref)))
theorem extN_rt {H H' : Hp} (e : ExtN H H') {p : Addr} {r : Str × Int} (h : RtAt H p r) : RtAt H' p r := e _ _ h fun _ z => by cases z
theorem pe_sortedLam {X : Cx} {c P : Addr} {e : Expr} {t : TA} {params : Arguments} {scope : Scope} {p p1 p2 p3 lpos kpos pos : Pos} {j k : Nat} (hr : Room k X.A) (hg : Gl X "sorted") (hm : X.mg "sorted" = none) (ha : PA X [e] t)
    (TB : TabB X.base X.mg c P) (hcode : X.env.code = .ref c) (hdef : defaultsOf params X.env = ([], [])) (hsk : scope.kind = .function) (hsn : scope.names = [(("row" : Str), NameKind.local)]) (hsg : scope.isGenerator = false) (hsc : scope.isCoroutine = false)
    (hb : ∀ (q : Str) (pm cv ctv v : Value), bindArgs (PySem.W.kla_fn "<lambda>" q params (.Subscript (.Name "row" p1) (.Constant (.int 0) j p2) p3) scope [] pm cv ctv) ⟨[v], []⟩ = pure [(("row" : Str), v)])
    (hst : backTo pos (starEach [e] X.env) = (false, eval e X.env) :: backTo pos (starEach [] X.env) := by rfl) (hpl : (backTo pos (starEach [e] X.env)).any (·.1) = false := by rfl) :
    PE X (.Call (.Name "sorted" p) [e] [⟨some "key", .Lambda params (.Subscript (.Name "row" p1) (.Constant (.int 0) j p2) p3) scope lpos, kpos⟩] pos) (tSortLam P (X.env.qual ++ "<lambda>") t) := by
  refine ⟨fun pins s σ H Q I h => ?_⟩
  refine wpAny_Call_Name_kw (ld_blt I hg hm (u := .builtin "sorted") (by decide +kernel) ?_ (by decide) (by decide))
  refine PyProof.Rows.callWith_kw (thn (ha.run pos pins s σ H _ I h) fun us s1 ⟨vs, H1, I1, r1, a, ps, rs, R, ev, hs, hp, hR1, hl, hT, q1⟩ => ?_) hst hpl (by rfl) (by rfl)
  subst ev
  have hT1 : Tabs [(P, X.env.qual ++ "<lambda>")] H1 := fun z hz => by
    rw [List.mem_singleton.mp hz]
    exact hT
  show wpAny _ _ (evalAll [(do let v ← eval (.Lambda params (.Subscript (.Name "row" p1) (.Constant (.int 0) j p2) p3) scope lpos) X.env; standAt pos; pure v)]) _ _ s1
  refine wpAny_evalAll_cons (wpAny_bind (lam_make2 I1 TB hcode (T := [(P, X.env.qual ++ "<lambda>")]) (by simp) (fun z hz _ => by rw [List.mem_singleton.mp hz]) hT1 hdef (fun y hy hf => ?_) fun f c' pm ctv H2 s2 I2 eN T2 hf hfn hfr hco => wpAny_bind (wpAny_standAt (wpAny_pure ?_))))
  · rw [hsn] at hy
    rw [List.mem_singleton.mp hy] at hf
    cases hf
  refine wpAny_evalAll_nil ?_
  have hclo : cloFrom X.env.cells scope.names [] = [] := by
    rw [hsn]
    rfl
  rw [hclo] at hf
  have hs2 : SqL X.K H2 a (ps.map V.ref) := SqL.of (eN _ _ hs fun _ z => by cases z)
  obtain ⟨its, rv, hli, hz⟩ := I2.list hs2
  obtain rfl := Vals.ref1 r1
  have each := each_of rv hp
  obtain ⟨⟨oc, ws, t, hoc, hdc, hvc⟩, _, _⟩ := I2.hok c' _ hco
  refine PySem.W.sorted_key_data (k := keyR) (b := false) hli.isList each (PySem.W.AllAlike.of fun _ _ => rfl) (PySem.W.Sortable.others (enc := keyR) fun b => ⟨fun z => PyData.noConfusion (show PyData.str b.1 = PyData.none from z), fun xs z => PyData.noConfusion (show PyData.str b.1 = PyData.tuple xs from z)⟩) (Nat.le_trans hl (by decide)) (fun x _ => ?_) (PyProof.Rows.ksk_s1 _ _) (fun _ => PyProof.Rows.ksk_l1 _ _) (fun x => PyProof.Rows.ksk_t1 f x) (fun v x hR hx hh tk kp => ?_) fun out c2 h2 tk kp hn hD hlen eo => ?_
  · have := hr.un
    show X.A.units + 2 + 0 < cLine
    omega
  · obtain ⟨p0, rfl, hp0⟩ := hR
    have hp0 := extN_rt eN (hR1 _ _ hp0)
    obtain ⟨_, its2, r2, o, ho, hc, n, hd⟩ := I2.hok _ _ hp0
    obtain ⟨u1, u2, rfl, ri, rj⟩ := vals2 r2
    obtain ⟨t1, rfl⟩ := ri
    refine lam_row (s := { s2 with heap := hh, toks := tk }) (by have := hr.dp; show X.A.depth < _; omega) (I2.nolimit.keeps kp) (kp _ _ hf) ⟨c', oc, ws, t, rfl, kp _ _ hoc, hdc, hvc⟩ hsk hsn hsg hsc (hb _ _ _ _ _) ⟨o, kp _ _ ho, hc, n, hd⟩
  · obtain ⟨ps', e1, e2⟩ := of_each eo
    have hl2 : (ps'.map V.ref).length ≤ sizeLine := by
      rw [e1.length, hlen]
      exact Nat.le_trans hl (by decide)
    refine ⟨.ref _, upd H2 (s2.heap.objs.size + 1) (.lst (ps'.map V.ref)), I2.laid (t' := tk) kp (Nat.le_succ _) ⟨hl2, out, c2, e1, hD⟩, rfl, q1 H2 ps' _ eN (T2 _ (List.mem_singleton.mpr rfl)) (I2.hok.fresh (Nat.le_succ _)) e2⟩
end K94
/-! put_route, and heaps in which a table of code objects may grow. -/
namespace K94
open PySem PySem.Spec PyProof.Rows L2 LamX
def NoExt (o : HO) : Prop := ∀ p, o ≠ .ext p
def NoTabs (F : Hp) : Prop := ∀ a ps, F a ≠ some (.tbl ps)
/-- as Gr, but the table at P may have grown -/
structure GrW (P : Addr) (q : Str) (S : List Addr) (F H F' H' : Hp) : Prop where
  ff : Same F F'
  fh : Same F' H'
  keep : ∀ a o, H a = some o → a ∉ S → NoTab o → H' a = some o
  new : ∀ a o, F' a = some o → F a = some o ∨ ∀ o', H a = some o' → ¬ NoTab o'
  dom : ∀ a o, H a = some o → NoTab o → ∃ o', H' a = some o' ∧ NoTab o'
  nt : ∀ a ps, F' a = some (.tbl ps) → F a = some (.tbl ps)
  tab : TabS H P q → TabS H' P q
section
variable {P : Addr} {q : Str} {S : List Addr} {F H F' H' : Hp}
theorem GrW.out (g : GrW P q S F H F' H') {a : Addr} {o : HO} (h : H a = some o) (ho : NoTab o) (n : F a = none) : F' a = none := by
  cases e : F' a with
  | none => rfl
  | some u =>
    rcases g.new a u e with z | z
    · rw [n] at z
      cases z
    · exact absurd ho (z o h)
theorem GrW.noTabs (g : GrW P q S F H F' H') (h : NoTabs F) : NoTabs F' := fun a ps e => h a ps (g.nt a ps e)
theorem TabS.ne {H : Hp} {P : Addr} {q : Str} (t : TabS H P q) {a : Addr} {o : HO} (h : H a = some o) (ho : NoTab o) : P ≠ a := fun z => by
  obtain ⟨ps, e, _⟩ := t
  rw [z, h] at e
  exact ho ps (Option.some.inj e)
theorem GrW.of (g : Gr S F H F' H') (nP : P ∉ S) (hS : ∀ a ∈ S, ∀ o, H a = some o → NoExt o) : GrW P q S F H F' H' := by
  refine ⟨g.ff, g.fh, fun a o e n _ => g.keep a o e n, fun a o e => ?_, fun a o e ho => ?_, g.nt, fun t => ?_⟩
  · rcases g.new a o e with z | z
    · exact .inl z
    · exact .inr fun o' e' => by rw [z] at e'; cases e'
  · obtain ⟨o', e'⟩ := g.dom a o e
    refine ⟨o', e', fun ps z => ?_⟩
    rw [z] at e'
    rcases g.tb a ps e' with y | y
    · rw [e] at y
      exact ho ps (Option.some.inj y)
    · rw [e] at y
      cases y
  · obtain ⟨ps, h1, h2, h3⟩ := t
    refine ⟨ps, g.keep _ _ h1 nP, h2, fun pos cv hc => ?_⟩
    obtain ⟨c, e1, e2⟩ := h3 pos cv hc
    refine ⟨c, e1, g.keep _ _ e2 fun m => ?_⟩
    have z := hS c m _ e2
    unfold CodeO at z
    exact z _ rfl
theorem GrW.of0 (g : Gr [] F H F' H') : GrW P q S F H F' H' := by
  have g' : GrW P q [] F H F' H' := GrW.of g (by simp) (fun a m => by simp at m)
  exact ⟨g'.ff, g'.fh, fun a o e _ ho => g'.keep a o e (by simp) ho, g'.new, g'.dom, g'.nt, g'.tab⟩
theorem GrW.trans {F2 H2 : Hp} (a : GrW P q S F H F' H') (b : GrW P q S F' H' F2 H2) : GrW P q S F H F2 H2 := by
  refine ⟨a.ff.trans b.ff, b.fh, fun c o e n ho => b.keep c o (a.keep c o e n ho) n ho, fun c o e => ?_, fun c o e ho => ?_, fun c ps e => a.nt c ps (b.nt c ps e), fun t => b.tab (a.tab t)⟩
  · rcases b.new c o e with z | z
    · exact a.new c o z
    · refine .inr fun o' e' ho => ?_
      obtain ⟨o2, e2, n2⟩ := a.dom c o' e' ho
      exact z o2 e2 n2
  · obtain ⟨o1, e1, n1⟩ := a.dom c o e ho
    exact b.dom c o1 e1 n1
theorem GrW.mono {S' : List Addr} (g : GrW P q S F H F' H') (h : ∀ a ∈ S, a ∈ S') : GrW P q S' F H F' H' := ⟨g.ff, g.fh, fun a o e n ho => g.keep a o e (fun z => n (h a z)) ho, g.new, g.dom, g.nt, g.tab⟩
theorem GrW.refl (h : Same F H) : GrW P q S F H F H := GrW.of0 (Gr.refl h)
theorem GrW.ext (h : Same F H) (nF : NoTabs F) (e : ExtN H H') (t : TabS H' P q) : GrW P q S F H F H' := by
  refine ⟨Same.refl F, fun a o z => e a o (h a o z) fun ps y => nF a ps (by rw [z, y]), fun a o z _ ho => e a o z ho, fun a o z => .inl z, fun a o z ho => ⟨o, e a o z ho, ho⟩, fun _ _ z => z, fun _ => t⟩
end
/-- where put_route's table stands -/
def tabR (K : PySem.W.Frag) : Addr := He.tabOf K (He.codeOf K ("put_route", none))
def qR : Str := (("put_route" : Str) ++ ".<locals>.") ++ "<lambda>"
abbrev TB (K : PySem.W.Frag) (base : Heap) (mg : Str → Option Value) : Prop := TabB base mg (He.codeOf K ("put_route", none)) (tabR K)
section
variable {P : Program} {w : World} {K : PySem.W.Frag} {mg : Str → Option Value} {base : Heap}
theorem cal_mkC {x : Str} {st : Stmt} {N ps : List Str} {k : Nat} {sp : Sp} {p : Str × Option Str} (F : ∃ z, FunD K x x (defArgs st) (defBody st) (defScope st) [] [] (He.fAd K p) z) (hm : mg x = some (.ref (He.fAd K p))) (S : FnScope N ps (defScope st))
    (hb : ∀ (kV doc pm : Value) (an : Option Addr) (cdv ct : Value) (us : List Value), us.length = ps.length → bindArgs (PySem.W.fnOf x x (defArgs st) (defBody st) (defScope st) .none kV doc pm an cdv ct) ⟨us, []⟩ = pure (ps.zip us))
    (len : ∀ vs H Q E, sp vs H Q E → vs.length = ps.length)
    (hbody : ∀ (f : Addr) (cdv : Value) (A : Around) (outer : List Env) (s : Shared) (H : Hp) (vs : List V) (Q : VK) (E : XK), cdv = .ref (He.codeOf K p) → Room k (A.deeper (envOfC x (defScope st) s.heap.objs.size f cdv)) → sp vs H Q E →
      ∃ t, PSs (cxOf C8.CX0 P w K mg base N x (defScope st) f cdv A outer s H E).nox (defBody st) t ∧ t { nx := fun _ H' => Q .non H', rt := Q } (start N vs) H) : C8.Cal P w K mg base (k + 1) x sp [] := by
  obtain ⟨z, F⟩ := F
  have F' := F
  refine ⟨He.fAd K p, z, ps, [], ?_, hm, F.kp, F.bindsN hb, .nil⟩
  obtain ⟨oc, od, dV, kV, doc, pm, an, cdv, ct, osl, rfl, lk, hcd, _, _⟩ := F'.ex
  refine fn_of lk hcd S len fun A outer s H vs Q E hr h => ?_
  obtain ⟨c, rfl⟩ := He.codeIn_ref hcd
  obtain ⟨t, h1, h2⟩ := hbody (He.fAd K p) (.ref c) A outer s H vs Q E (by rw [He.codeOf_eq lk rfl]) hr h
  exact ⟨t, h1.nox, h2⟩
theorem sc_put_route : FnScope ["routes", "low", "shard", "others", "row"] ["routes", "low", "shard"] (defScope s_put_route) := ⟨rfl, rfl, rfl, by decide +kernel, rfl, by decide +kernel, by decide +kernel⟩
def sp_put_route (K : PySem.W.Frag) : Sp := fun vs H Q _ => ∃ (F : Hp) (ra : Addr) (rs : List (Str × Int)) (low : Str) (sh : Int), vs = [.ref ra, .str low, .int sh] ∧ Same F H ∧ NoTabs F ∧ LsAt F (RtAt F) ra rs ∧ rs.length ≤ 5000 ∧ TabS H (tabR K) qR ∧
  ∀ F' H' D, GrW (tabR K) qR [] F H F' H' → LsAt F' (RtAt F') D (routeK low sh rs) → Q (.ref D) H'
theorem ok_put_route (T : Tx w K mg) (tb : TB K base mg) : C8.Cal P w K mg base 1 "put_route" (sp_put_route K) [] := by
  refine cal_mkC (st := s_put_route) (p := ("put_route", none)) T.d_put_route T.g_put_route sc_put_route (fun _ _ _ _ _ _ us hl => match us, hl with | [_, _, _], _ => rfl) (fun vs H Q E h => ?_) (fun f cdv A outer s H vs Q E hcd hr h => ?_)
  · obtain ⟨F, ra, rs, low, sh, rfl, _⟩ := h
    rfl
  · obtain ⟨F, ra, rs, low, sh, rfl, hF, nF, ⟨ps, h1, h2⟩, few, tS, k⟩ := h
    have lp := h2.length
    refine ⟨_, (pss_cons (ps_setLc (i := 3) (own := [("row", 4)]) (g := gName 4) (tt := _) rfl sc_put_route.nd rfl rfl (sw_true rfl rfl rfl (by decide +kernel)) (pi_list (pv 0)) (blkOk_by (N := ["routes", "low", "shard", "others", "row"]) (sc := defScope s_put_route) (by decide +kernel)) (fun _ _ _ _ _ => pg_name (i := 4) sc_put_route.nd rfl (.inl rfl)) (fun _ _ _ _ _ => pts_one (pt_cmpR op_ne (pe_ix (ix_tupK (K := K) rfl) (pv 4) pe_int (fun _ _ => rfl)) (pv 1) (nomark _))) (fun _ _ _ _ _ => (pv 4)))
      (pss_one (ps_ret (pe_sortedLam hr (by rfl) T.z_sorted (pa_cons (pe_op op_cat (pv 3) (pe_lst (pa_cons (pe_tup (pa_cons (pv 1) (pa_cons (pv 2) pa_nil))) pa_nil))) pa_nil) tb hcd rfl rfl rfl rfl rfl (fun _ _ _ _ _ => rfl))))), ?_⟩
    have h1' := hF _ _ h1
    refine ⟨_, rfl, ra, rfl, ⟨_, SqL.of h1'⟩, fun D nD => ?_⟩
    obtain ⟨bs, e1, e2⟩ := paired_filter (fun r : Str × Int => decide (r.1 ≠ low)) h2
    refine lc_list_pure nD (SqL.of h1') (ps.zip rs) (by rw [List.length_zip, List.length_map]; omega) (by rw [List.length_map]; omega) (fun q => if decide (q.2.1 ≠ low) = true then some (.ref q.1) else none) (fun i x q H2 Qn Qy hx hm s1 hn hy => ?_) (fun H2 s1 e => ?_)
    · obtain ⟨t, ht, rfl⟩ := map_at hx
      obtain ⟨z1, z2⟩ := zip_at hm
      have ea : t = q.1 := Option.some.inj (ht.symm.trans z1)
      subst ea
      obtain ⟨y, hy1, hat⟩ := paired_at h2 ht
      have en : y = q.2 := Option.some.inj (hy1.symm.trans z2)
      subst en
      refine ⟨rfl, ?_⟩
      refine ⟨_, rfl, q.1, _, 0, _, rfl, rfl, .inl (.inl (s1 _ _ (hF _ _ hat))), atI_nat (j := 0) rfl, _, rfl, rfl, _, rfl, ?_⟩
      by_cases hl : q.2.1 = low
      · rw [decide_eq_true (show V.str q.2.1 = V.str low by rw [hl])]
        exact iteF (hn (if_neg fun z => absurd hl (of_decide_eq_true z)) H2 (Same.refl _))
      · rw [decide_eq_false (show ¬ V.str q.2.1 = V.str low from fun z => hl (V.str.inj z))]
        exact iteT ⟨_, rfl, hy _ (if_pos (decide_eq_true hl)) H2 (Same.refl _)⟩
    rw [e1] at e
    have lb := e2.length
    have lb2 : (rs.filter fun r => decide (r.1 ≠ low)).length ≤ rs.length := List.length_filter_le _ _
    have g1 : Gr [] F H F H2 := (Gr.refl hF).samef s1
    refine ⟨_, rfl, _, rfl, _, rfl, (by show 2 ≤ sizeLine; decide), fun t nt => ⟨(by show 1 ≤ sizeLine; decide), fun p np => ?_⟩⟩
    have g2 := g1.new_ (o := .tup [V.str low, V.int sh]) nt
    have nDt : D ≠ t := ne_of_none e nt
    have eD : upd H2 t (.tup [V.str low, V.int sh]) D = some (.lst (bs.map V.ref)) := by rw [upd_ne nDt]; exact e
    have nDp : D ≠ p := ne_of_none eD np
    refine ⟨D, p, _, _, rfl, rfl, by rw [upd_ne nDp]; exact eD, upd_same, le1000 (by rw [List.length_map]; show _ + 1 ≤ _; omega), fun r nr => ?_⟩
    have g3 := g2.made (o := .lst [V.ref t]) np
    have g4 := g3.made (o := .lst (bs.map V.ref ++ [V.ref t])) nr
    generalize hH4 : upd (upd (upd H2 t (.tup [V.str low, V.int sh])) p (.lst [V.ref t])) r (.lst (bs.map V.ref ++ [V.ref t])) = H4 at *
    have hr4 : H4 r = some (.lst ((bs ++ [t]).map V.ref)) := by
      rw [← hH4, upd_same, List.map_append]
      rfl
    have pr4 : Paired (RtAt (upd F t (.tup [V.str low, V.int sh]))) (bs ++ [t]) (rs.filter (fun r => decide (r.1 ≠ low)) ++ [(low, sh)]) :=
      paired_append (Paired.mono (fun _ _ z => z.mono g4.ff) e2) (.cons upd_same .nil)
    have w4 : GrW (tabR K) qR [] F H (upd F t (.tup [V.str low, V.int sh])) H4 := GrW.of0 g4
    have nF4 : NoTabs (upd F t (.tup [V.str low, V.int sh])) := w4.noTabs nF
    refine ⟨r, bs ++ [t], rs.filter (fun r => decide (r.1 ≠ low)) ++ [(low, sh)], RtAt (upd F t (.tup [V.str low, V.int sh])), rfl, hr4, pr4, fun _ _ z => z.mono w4.fh, by rw [List.length_append]; show _ + 1 ≤ _; omega, w4.tab tS, fun H5 ps' D5 eN t5 n5 p5 => ?_⟩
    have w5 := w4.trans (GrW.ext w4.fh nF4 eN t5)
    have p5' : Paired (RtAt (upd (upd F t (.tup [V.str low, V.int sh])) D5 (.lst (ps'.map V.ref)))) ps' (routeK low sh rs) := Paired.mono (fun _ _ z => z.mono (same_new (w5.fh.free n5))) p5
    refine k _ _ D5 (w5.trans (GrW.of0 (Gr.tell w5.fh n5))) ⟨ps', upd_same, p5'⟩
end
end K94
/-! The catalog's functions, part 4. -/
namespace K94
open PySem PySem.Spec PyProof.Rows L2 LamX
def Deed.isWrite : Deed → Bool
  | .put _ _ => true
  | .drop _ => true
  | .pin => true
  | .unpin _ => true
  | .lift _ => true
  | _ => false
section
variable {P : Program} {w : World} {K : PySem.W.Frag} {mg : Str → Option Value} {base : Heap}
/-! ### write -/
theorem sc_Catalog_write : FnScope ["self", "deed"] ["self", "deed"] (defScope s_Catalog_write) := ⟨rfl, rfl, rfl, by decide +kernel, rfl, by decide +kernel, by decide +kernel⟩
def sp_write (K : PySem.W.Frag) (c : LC) : Sp := fun vs H Q _ => ∃ (F : Hp) (a : CA) (cs : CS) (da : Addr) (d : Deed), vs = [.ref a.x, .ref da] ∧ Same F H ∧ CatAt K F H c a cs ∧ cs.Fit ∧ cs.led.notes.length < 1000 ∧ LcAt K F c ∧ DeedAt K F da d ∧ DeedOk c.d d ∧ d.isWrite = true ∧
  ∀ F' H', Gr [a.l] F H F' H' → CatAt K F' H' c a (changeC d cs).1 → Q (oV (changeC d cs).2) H'
theorem ok_write (T : Tx w K mg) (c : LC) : C8.Met P w K mg base 7 (He.ga K "Catalog") "write" (sp_write K c) [] := by
  have c_Ledger_put := ok_put (P := P) (base := base) T c
  have c_Ledger_drop := ok_drop (P := P) (base := base) T c
  have c_Ledger_pin := ok_pin (P := P) (base := base) T c
  have c_Ledger_lift := ok_lift (P := P) (base := base) T c
  have c_Ledger_unpin := ok_unpin (P := P) (base := base) T c
  refine met_mk (st := s_Catalog_write) T.d_Catalog_write T.c_Catalog T.m_Catalog_write sc_Catalog_write (fun _ _ _ _ _ _ us hl => match us, hl with | [_, _], _ => rfl) (fun vs H Q E h => ?_) (fun f cdv A outer s H vs Q E hr h => ?_)
  · obtain ⟨F, a, cs, da, d, rfl, _⟩ := h
    rfl
  · obtain ⟨F, a, cs, da, d, rfl, hF, hC, fit, few, hc, hd, dok, dw, k⟩ := h
    obtain ⟨dx, ro, h1, hro⟩ := hC.obj
    obtain ⟨lx, pa, na, sa, l1, l2⟩ := hC.led.ex
    refine ⟨_, (pss_cons (ps_if (pt_cmpR op_eq (pe_ix (ix_tupK (K := K) rfl) (pv 1) pe_int (fun _ _ => rfl)) pe_str (nomark _))
        (pss_one (ps_ret (C8.pe_mt c_Ledger_put hr (by decide) (pe_fldK (K := K) rfl (pv 0) rfl) (pa_cons (pe_ix (ix_tupK (K := K) rfl) (pv 1) pe_int (fun _ _ => rfl)) pa_nil))))
        pss_nil)
      (pss_cons (ps_if (pt_cmpR op_eq (pe_ix (ix_tupK (K := K) rfl) (pv 1) pe_int (fun _ _ => rfl)) pe_str (nomark _))
        (pss_one (ps_ret (C8.pe_mt c_Ledger_drop hr (by decide) (pe_fldK (K := K) rfl (pv 0) rfl) (pa_cons (pe_ix (ix_tupK (K := K) rfl) (pv 1) pe_int (fun _ _ => rfl)) pa_nil))))
        pss_nil)
      (pss_cons (ps_if (pt_cmpR op_eq (pe_ix (ix_tupK (K := K) rfl) (pv 1) pe_int (fun _ _ => rfl)) pe_str (nomark _))
        (pss_one (ps_ret (C8.pe_mt0 c_Ledger_pin hr (by decide) (pe_fldK (K := K) rfl (pv 0) rfl))))
        pss_nil)
      (pss_cons (ps_if (pt_cmpR op_eq (pe_ix (ix_tupK (K := K) rfl) (pv 1) pe_int (fun _ _ => rfl)) pe_str (nomark _))
        (pss_one (ps_ret (C8.pe_mt c_Ledger_lift hr (by decide) (pe_fldK (K := K) rfl (pv 0) rfl) (pa_cons (pe_ix (ix_tupK (K := K) rfl) (pv 1) pe_int (fun _ _ => rfl)) pa_nil))))
        pss_nil)
      (pss_cons (ps_if (pt_cmpR (op_in_seqK (K := K) rfl) (pe_ix (ix_tupK (K := K) rfl) (pv 1) pe_int (fun _ _ => rfl)) (pe_fldK (K := K) rfl (pe_fldK (K := K) rfl (pv 0) rfl) rfl) (by rfl))
        (pss_one (ps_expr (C8.pe_mt c_Ledger_unpin hr (by decide) (pe_fldK (K := K) rfl (pv 0) rfl) (pa_cons (pe_ix (ix_tupK (K := K) rfl) (pv 1) pe_int (fun _ _ => rfl)) pa_nil))))
        pss_nil)
      (pss_one (ps_ret (pe_ix (ix_tupK (K := K) rfl) (pv 1) pe_int (fun _ _ => rfl))))))))), ?_⟩
    cases d with
    | put ra r =>
      obtain ⟨hd, hra⟩ := hd
      have sd : SqT K H da [.str "put", .ref ra] := .inl (.inl (hF _ _ hd))
      refine ⟨_, rfl, da, _, 0, _, rfl, rfl, sd, atI_nat (j := 0) rfl, rfl, _, rfl, ?_⟩
      rw [show decide (V.str "put" = V.str "put") = true by decide +kernel]
      refine iteT ⟨_, rfl, a.x, _, dx, _, _, rfl, h1, T.c_Catalog, T.n_Catalog_ledger, catF_ledger, a.l, lx, _, rfl, l1, ledF_no (by simp), _, rfl, da, _, 1, _, rfl, rfl, sd, atI_nat (j := 1) rfl, ?_⟩
      exact ⟨F, a.l, ra, cs.led, r, rfl, hF, hC.fl, hC.led, fit.led, few, hc, hra, dok.1, dok.2, fun F' H' g hL => k F' H' g (hC.led_ g hL)⟩
    | drop x =>
      have sd : SqT K H da [.str "drop", .str x] := .inl (.inl (hF _ _ hd))
      refine ⟨_, rfl, da, _, 0, _, rfl, rfl, sd, atI_nat (j := 0) rfl, rfl, _, rfl, ?_⟩
      rw [show decide (V.str "drop" = V.str "put") = false by decide +kernel]
      refine iteF ⟨_, rfl, da, _, 0, _, rfl, rfl, sd, atI_nat (j := 0) rfl, rfl, _, rfl, ?_⟩
      rw [show decide (V.str "drop" = V.str "drop") = true by decide +kernel]
      refine iteT ⟨_, rfl, a.x, _, dx, _, _, rfl, h1, T.c_Catalog, T.n_Catalog_ledger, catF_ledger, a.l, lx, _, rfl, l1, ledF_no (by simp), _, rfl, da, _, 1, _, rfl, rfl, sd, atI_nat (j := 1) rfl, ?_⟩
      refine ⟨F, a.l, cs.led, x, rfl, hF, hC.fl, hC.led, fit.led, fun F' H' g hL => ?_⟩
      have e : (if hasN x cs.led = true then V.int (cs.led.now + 1) else .non) = oV (changeC (.drop x) cs).2 := by
        show _ = oV (if hasN x cs.led = true then some (cs.led.now + 1) else none)
        split <;> rfl
      rw [e]
      exact k F' H' g (hC.led_ g hL)
    | pin =>
      have sd : SqT K H da [.str "pin"] := .inl (.inl (hF _ _ hd))
      refine ⟨_, rfl, da, _, 0, _, rfl, rfl, sd, atI_nat (j := 0) rfl, rfl, _, rfl, ?_⟩
      rw [show decide (V.str "pin" = V.str "put") = false by decide +kernel]
      refine iteF ⟨_, rfl, da, _, 0, _, rfl, rfl, sd, atI_nat (j := 0) rfl, rfl, _, rfl, ?_⟩
      rw [show decide (V.str "pin" = V.str "drop") = false by decide +kernel]
      refine iteF ⟨_, rfl, da, _, 0, _, rfl, rfl, sd, atI_nat (j := 0) rfl, rfl, _, rfl, ?_⟩
      rw [show decide (V.str "pin" = V.str "pin") = true by decide +kernel]
      refine iteT ⟨_, rfl, a.x, _, dx, _, _, rfl, h1, T.c_Catalog, T.n_Catalog_ledger, catF_ledger, a.l, lx, _, rfl, l1, ledF_no (by simp), ?_⟩
      exact ⟨F, a.l, cs.led, rfl, hF, hC.fl, hC.led, fit.led, fun F' H' g hL => k F' H' g (hC.led_ g hL)⟩
    | lift m =>
      have sd : SqT K H da [.str "lift", .int m] := .inl (.inl (hF _ _ hd))
      refine ⟨_, rfl, da, _, 0, _, rfl, rfl, sd, atI_nat (j := 0) rfl, rfl, _, rfl, ?_⟩
      rw [show decide (V.str "lift" = V.str "put") = false by decide +kernel]
      refine iteF ⟨_, rfl, da, _, 0, _, rfl, rfl, sd, atI_nat (j := 0) rfl, rfl, _, rfl, ?_⟩
      rw [show decide (V.str "lift" = V.str "drop") = false by decide +kernel]
      refine iteF ⟨_, rfl, da, _, 0, _, rfl, rfl, sd, atI_nat (j := 0) rfl, rfl, _, rfl, ?_⟩
      rw [show decide (V.str "lift" = V.str "pin") = false by decide +kernel]
      refine iteF ⟨_, rfl, da, _, 0, _, rfl, rfl, sd, atI_nat (j := 0) rfl, rfl, _, rfl, ?_⟩
      rw [show decide (V.str "lift" = V.str "lift") = true by decide +kernel]
      refine iteT ⟨_, rfl, a.x, _, dx, _, _, rfl, h1, T.c_Catalog, T.n_Catalog_ledger, catF_ledger, a.l, lx, _, rfl, l1, ledF_no (by simp), _, rfl, da, _, 1, _, rfl, rfl, sd, atI_nat (j := 1) rfl, ?_⟩
      exact ⟨F, a.l, cs.led, m, rfl, hF, hC.fl, hC.led, fit.led, fun F' H' g hL => k F' H' g (hC.led_ g hL)⟩
    | unpin m =>
      have sd : SqT K H da [.str "unpin", .int m] := .inl (.inl (hF _ _ hd))
      refine ⟨_, rfl, da, _, 0, _, rfl, rfl, sd, atI_nat (j := 0) rfl, rfl, _, rfl, ?_⟩
      rw [show decide (V.str "unpin" = V.str "put") = false by decide +kernel]
      refine iteF ⟨_, rfl, da, _, 0, _, rfl, rfl, sd, atI_nat (j := 0) rfl, rfl, _, rfl, ?_⟩
      rw [show decide (V.str "unpin" = V.str "drop") = false by decide +kernel]
      refine iteF ⟨_, rfl, da, _, 0, _, rfl, rfl, sd, atI_nat (j := 0) rfl, rfl, _, rfl, ?_⟩
      rw [show decide (V.str "unpin" = V.str "pin") = false by decide +kernel]
      refine iteF ⟨_, rfl, da, _, 0, _, rfl, rfl, sd, atI_nat (j := 0) rfl, rfl, _, rfl, ?_⟩
      rw [show decide (V.str "unpin" = V.str "lift") = false by decide +kernel]
      refine iteF ⟨_, rfl, da, _, 1, _, rfl, rfl, sd, atI_nat (j := 1) rfl, ?_⟩
      refine ⟨_, rfl, a.x, _, dx, _, _, rfl, h1, T.c_Catalog, T.n_Catalog_ledger, catF_ledger, a.l, _, lx, _, _, rfl, l1, T.c_Ledger, T.n_Ledger_pins, ledF_pins, pa, _, rfl, .inl (SqL.of (hF _ _ l2.pins)), rfl, flat_ints _, _, rfl, ?_⟩
      rw [inV_ints]
      by_cases hm : m ∈ cs.led.pins
      · rw [decide_eq_true hm]
        have e : changeC (.unpin m) cs = ({ cs with led := unpinL m cs.led }, some m) := by
          show (if m ∈ cs.led.pins then _ else _, _) = _
          rw [if_pos hm]
        rw [e] at k
        refine iteT ⟨_, rfl, a.x, _, dx, _, _, rfl, h1, T.c_Catalog, T.n_Catalog_ledger, catF_ledger, a.l, lx, _, rfl, l1, ledF_no (by simp), _, rfl, da, _, 1, _, rfl, rfl, sd, atI_nat (j := 1) rfl, ?_⟩
        refine ⟨F, a.l, cs.led, m, rfl, hF, hC.fl, hC.led, fit.led, hm, fun F' H' g hL => ?_⟩
        exact ⟨_, rfl, da, _, 1, _, rfl, rfl, .inl (.inl (g.fh _ _ (g.ff _ _ hd))), atI_nat (j := 1) rfl, k F' H' g (hC.led_ g hL)⟩
      · rw [decide_eq_false hm]
        have e : changeC (.unpin m) cs = (cs, some m) := by
          show (if m ∈ cs.led.pins then _ else _, _) = _
          rw [if_neg hm]
        rw [e] at k
        exact iteF ⟨_, rfl, da, _, 1, _, rfl, rfl, sd, atI_nat (j := 1) rfl, k F H (Gr.refl hF) hC⟩
    | own sh name inner homes => cases dw
    | close sh name => cases dw
    | forget sh name => cases dw
    | route low sh => cases dw
    | begin_ => cases dw
end
end K94
/-! The catalog's functions, part 5. -/
namespace K94
open PySem PySem.Spec PyProof.Rows L2 LamX
theorem noTab_ins {C dx : Addr} {fs : List (Str × V)} : NoTab (.ins C dx fs) := fun _ h => by cases h
theorem noTab_lst {xs : List V} : NoTab (.lst xs) := fun _ h => by cases h
theorem noTab_dK {xs : List (Key × V)} : NoTab (.dK xs) := fun _ h => by cases h
theorem noExt_ins {C dx : Addr} {fs : List (Str × V)} : NoExt (.ins C dx fs) := fun _ h => by cases h
theorem noExt_lst {xs : List V} : NoExt (.lst xs) := fun _ h => by cases h
theorem noExt_dK {xs : List (Key × V)} : NoExt (.dK xs) := fun _ h => by cases h
/-- not one of the things that stand outside S -/
def Fresh (H : Hp) (S : List Addr) (p : Addr) : Prop := ∀ b o, H b = some o → NoTab o → b ∉ S → p ≠ b
theorem Fresh.of_none {H : Hp} {S : List Addr} {p : Addr} (h : H p = none) : Fresh H S p := fun b o e _ _ z => by
  rw [← z, h] at e
  cases e
theorem Fresh.mem {H : Hp} {S : List Addr} {p : Addr} (h : p ∈ S) : Fresh H S p := fun b o _ _ n z => n (z ▸ h)
theorem GrW.trans_fresh {P : Addr} {q : Str} {S S1 : List Addr} {F H F1 H1 F2 H2 : Hp} (a : GrW P q S F H F1 H1) (b : GrW P q S1 F1 H1 F2 H2) (hS : ∀ p ∈ S1, Fresh H S p) : GrW P q S F H F2 H2 := by
  refine ⟨a.ff.trans b.ff, b.fh, fun c o e n ho => b.keep c o (a.keep c o e n ho) (fun m => hS c m c o e ho n rfl) ho, fun c o e => ?_, fun c o e ho => ?_, fun c ps e => a.nt c ps (b.nt c ps e), fun t => b.tab (a.tab t)⟩
  · rcases b.new c o e with z | z
    · exact a.new c o z
    · refine .inr fun o' e' ho => ?_
      obtain ⟨o2, e2, n2⟩ := a.dom c o' e' ho
      exact z o2 e2 n2
  · obtain ⟨o1, e1, n1⟩ := a.dom c o e ho
    exact b.dom c o1 e1 n1
theorem Fresh.back {P : Addr} {q : Str} {S S1 : List Addr} {F H F1 H1 : Hp} {p : Addr} (a : GrW P q S F H F1 H1) (hS : ∀ p ∈ S1, Fresh H S p) (h : Fresh H1 S1 p) : Fresh H S p := fun b o e ho n =>
  h b o (a.keep b o e n ho) ho fun m => hS b m b o e ho n rfl
section
variable {K : PySem.W.Frag} {F H F' H' : Hp} {c : LC} {a : CA} {cs : CS}
theorem CatAt.kinds (h : CatAt K F H c a cs) : ∀ b ∈ a.S, ∀ o, H b = some o → NoExt o ∧ NoTab o := by
  obtain ⟨dx, ro, h1, h2⟩ := h.obj
  obtain ⟨lx, pa, na, sa, l1, l2⟩ := h.led.ex
  obtain ⟨ps, t1, t2⟩ := h.tis
  obtain ⟨qs, c1, c2⟩ := h.cls
  intro b hb o e
  simp only [CA.S, List.mem_cons, List.not_mem_nil, or_false] at hb
  rcases hb with rfl | rfl | rfl | rfl
  · rw [h1] at e
    cases e
    exact ⟨noExt_ins, noTab_ins⟩
  · rw [l1] at e
    cases e
    exact ⟨noExt_ins, noTab_ins⟩
  · rw [t1] at e
    cases e
    exact ⟨noExt_lst, noTab_lst⟩
  · rw [c1] at e
    cases e
    exact ⟨noExt_lst, noTab_lst⟩
theorem CatAt.noTabS {P : Addr} {q : Str} (h : CatAt K F H c a cs) (t : TabS H P q) : P ∉ a.S := by
  obtain ⟨dx, ro, h1, h2⟩ := h.obj
  obtain ⟨lx, pa, na, sa, l1, l2⟩ := h.led.ex
  obtain ⟨ps, t1, t2⟩ := h.tis
  obtain ⟨qs, c1, c2⟩ := h.cls
  intro hb
  simp only [CA.S, List.mem_cons, List.not_mem_nil, or_false] at hb
  rcases hb with z | z | z | z
  · exact TabS.ne t h1 noTab_ins z
  · exact TabS.ne t l1 noTab_ins z
  · exact TabS.ne t t1 noTab_lst z
  · exact TabS.ne t c1 noTab_lst z
/-- from Gr to GrW, where only parts of the catalog are changed -/
theorem CatAt.grw {P : Addr} {q : Str} {S : List Addr} (h : CatAt K F H c a cs) (t : TabS H P q) (hS : ∀ b ∈ S, b ∈ a.S) (g : Gr S F H F' H') : GrW P q a.S F H F' H' :=
  (GrW.of g (fun m => h.noTabS t (hS _ m)) fun b m o e => (h.kinds b (hS b m) o e).1).mono hS
theorem CatAt.frameW {P : Addr} {q : Str} {S : List Addr} (h : CatAt K F H c a cs) (g : GrW P q S F H F' H') (nx : a.x ∉ S) (nl : a.l ∉ S) (nt : a.tl ∉ S) (nc : a.cl ∉ S) : CatAt K F' H' c a cs := by
  obtain ⟨dx, ro, h1, h2⟩ := h.obj
  obtain ⟨lx, pa, na, sa, l1, l2⟩ := h.led.ex
  obtain ⟨ps, t1, t2⟩ := h.tis
  obtain ⟨qs, c1, c2⟩ := h.cls
  exact ⟨h.xl, h.xt, h.xc, h.lt, h.lc, h.tc, g.out h1 noTab_ins h.fx, g.out l1 noTab_ins h.fl, g.out t1 noTab_lst h.ft, g.out c1 noTab_lst h.fc, ⟨dx, ro, g.keep _ _ h1 nx noTab_ins, h2.mono g.ff fun _ _ e => e.mono g.ff⟩,
    ⟨lx, pa, na, sa, g.keep _ _ l1 nl noTab_ins, l2.mono g.ff⟩, ⟨ps, g.keep _ _ t1 nt noTab_lst, Paired.mono (fun _ _ e => e.mono g.ff) t2⟩, ⟨qs, g.keep _ _ c1 nc noTab_lst, Paired.mono (fun _ _ e => e.mono g.ff) c2⟩⟩
/-- the catalog's own object is written -/
theorem CatAt.setObj (h : CatAt K F H c a cs) {dx ro : Addr} {rs : List (Str × Int)} {b : Int} (hr : LsAt F (RtAt F) ro rs) : CatAt K F (upd H a.x (.ins (He.ga K "Catalog") dx (catF a.l a.tl a.cl ro b))) c a { cs with routes := rs, begins := b } := by
  obtain ⟨ps, t1, t2⟩ := h.tis
  obtain ⟨qs, c1, c2⟩ := h.cls
  exact ⟨h.xl, h.xt, h.xc, h.lt, h.lc, h.tc, h.fx, h.fl, h.ft, h.fc, ⟨dx, ro, upd_same, hr⟩, h.led.frame (Same.refl _) fun o z => by rw [upd_ne h.xl.symm]; exact z, ⟨ps, by rw [upd_ne h.xt.symm]; exact t1, t2⟩, ⟨qs, by rw [upd_ne h.xc.symm]; exact c1, c2⟩⟩
end
section
variable {P : Program} {w : World} {K : PySem.W.Frag} {mg : Str → Option Value} {base : Heap}
/-! ### change -/
/-- what change and apply ask -/
structure Asks (K : PySem.W.Frag) (F H : Hp) (c : LC) (a : CA) (cs : CS) (da : Addr) (d : Deed) : Prop where
  same : Same F H
  nt : NoTabs F
  cat : CatAt K F H c a cs
  fit : cs.Fit
  few1 : cs.led.notes.length < 1000
  few2 : cs.led.segs.length < 1000
  nod : (cs.led.notes.map (·.num)).Nodup
  ne : cs.routes ≠ []
  lc : LcAt K F c
  deed : DeedAt K F da d
  ok : DeedOk c.d d
  tab : TabS H (tabR K) qR
theorem sc_Catalog_change : FnScope ["self", "deed"] ["self", "deed"] (defScope s_Catalog_change) := ⟨rfl, rfl, rfl, by decide +kernel, rfl, by decide +kernel, by decide +kernel⟩
def sp_change (K : PySem.W.Frag) (c : LC) : Sp := fun vs H Q _ => ∃ (F : Hp) (a : CA) (cs : CS) (da : Addr) (d : Deed), vs = [.ref a.x, .ref da] ∧ Asks K F H c a cs da d ∧
  ∀ F' H' cl, Fresh H a.S cl → GrW (tabR K) qR a.S F H F' H' → CatAt K F' H' c { a with cl := cl } (changeC d cs).1 → Q (oV (changeC d cs).2) H'
theorem ok_change (T : Tx w K mg) (tb : TB K base mg) (c : LC) : C8.Met P w K mg base 8 (He.ga K "Catalog") "change" (sp_change K c) [] := by
  have c_Catalog_own := ok_cown (P := P) (base := base) T c
  have c_Catalog_close := ok_close (P := P) (base := base) T c
  have c_Catalog_forget := ok_forget (P := P) (base := base) T c
  have c_Catalog_write := ok_write (P := P) (base := base) T c
  have c_put_route := ok_put_route (P := P) (base := base) T tb
  refine met_mk (st := s_Catalog_change) T.d_Catalog_change T.c_Catalog T.m_Catalog_change sc_Catalog_change (fun _ _ _ _ _ _ us hl => match us, hl with | [_, _], _ => rfl) (fun vs H Q E h => ?_) (fun f cdv A outer s H vs Q E hr h => ?_)
  · obtain ⟨F, a, cs, da, d, rfl, _⟩ := h
    rfl
  · obtain ⟨F, a, cs, da, d, rfl, as, k⟩ := h
    have hF := as.same
    have hC := as.cat
    have fit := as.fit
    obtain ⟨dx, ro, h1, hro⟩ := hC.obj
    have hd := as.deed
    have cl0 : Fresh H a.S a.cl := Fresh.mem (by simp [CA.S])
    refine ⟨_, (pss_cons (ps_if (pt_cmpR op_eq (pe_ix (ix_tupK (K := K) rfl) (pv 1) pe_int (fun _ _ => rfl)) pe_str (nomark _))
        (pss_one (ps_ret (C8.pe_mt c_Catalog_own hr (by decide) (pv 0) (pa_cons (pe_ix (ix_tupK (K := K) rfl) (pv 1) pe_int (fun _ _ => rfl)) (pa_cons (pe_ix (ix_tupK (K := K) rfl) (pv 1) pe_int (fun _ _ => rfl)) (pa_cons (pe_ix (ix_tupK (K := K) rfl) (pv 1) pe_int (fun _ _ => rfl)) (pa_cons (pe_ix (ix_tupK (K := K) rfl) (pv 1) pe_int (fun _ _ => rfl)) pa_nil)))))))
        pss_nil)
      (pss_cons (ps_if (pt_cmpR op_eq (pe_ix (ix_tupK (K := K) rfl) (pv 1) pe_int (fun _ _ => rfl)) pe_str (nomark _))
        (pss_cons (ps_expr (C8.pe_mt c_Catalog_close hr (by decide) (pv 0) (pa_cons (pe_ix (ix_tupK (K := K) rfl) (pv 1) pe_int (fun _ _ => rfl)) (pa_cons (pe_ix (ix_tupK (K := K) rfl) (pv 1) pe_int (fun _ _ => rfl)) pa_nil))))
        (pss_one (ps_ret pe_non)))
        pss_nil)
      (pss_cons (ps_if (pt_cmpR op_eq (pe_ix (ix_tupK (K := K) rfl) (pv 1) pe_int (fun _ _ => rfl)) pe_str (nomark _))
        (pss_cons (ps_expr (C8.pe_mt c_Catalog_forget hr (by decide) (pv 0) (pa_cons (pe_ix (ix_tupK (K := K) rfl) (pv 1) pe_int (fun _ _ => rfl)) (pa_cons (pe_ix (ix_tupK (K := K) rfl) (pv 1) pe_int (fun _ _ => rfl)) pa_nil))))
        (pss_one (ps_ret pe_non)))
        pss_nil)
      (pss_cons (ps_if (pt_cmpR op_eq (pe_ix (ix_tupK (K := K) rfl) (pv 1) pe_int (fun _ _ => rfl)) pe_str (nomark _))
        (pss_cons (ps_fld (pv 0) (C8.pe_c c_put_route hr (by decide) (by rfl) (pa_cons (pe_fldK (K := K) rfl (pv 0) rfl) (pa_cons (pe_ix (ix_tupK (K := K) rfl) (pv 1) pe_int (fun _ _ => rfl)) (pa_cons (pe_ix (ix_tupK (K := K) rfl) (pv 1) pe_int (fun _ _ => rfl)) pa_nil)))) rfl)
        (pss_one (ps_ret (pe_ix (ix_tupK (K := K) rfl) (pv 1) pe_int (fun _ _ => rfl)))))
        pss_nil)
      (pss_cons (ps_if (pt_cmpR op_eq (pe_ix (ix_tupK (K := K) rfl) (pv 1) pe_int (fun _ _ => rfl)) pe_str (nomark _))
        (pss_cons (ps_fld (pv 0) (pe_op op_add (pe_fldK (K := K) rfl (pv 0) rfl) pe_int) rfl)
        (pss_one (ps_ret (pe_fldK (K := K) rfl (pv 0) rfl))))
        pss_nil)
      (pss_one (ps_ret (C8.pe_mt c_Catalog_write hr (by decide) (pv 0) (pa_cons (pv 1) pa_nil))))))))), ?_⟩
    cases hdd : d with
    | own sh name inner homes =>
      subst hdd
      obtain ⟨na, pz, ha, hs, e1, e2, e3, e4, e5, e6⟩ := hd
      have sd : SqT K H da [.str "own", .int sh, .ref na, .ref pz, .ref ha] := .inl (.inl (hF _ _ e1))
      refine ⟨_, rfl, da, _, 0, _, rfl, rfl, sd, atI_nat (j := 0) rfl, rfl, _, rfl, ?_⟩
      rw [show decide (V.str "own" = V.str "own") = true by decide +kernel]
      refine iteT ⟨_, rfl, a.x, dx, _, rfl, h1, catF_no (by simp), _, rfl, da, _, 1, _, rfl, rfl, sd, atI_nat (j := 1) rfl, ?_⟩
      refine ⟨_, rfl, da, _, 2, _, rfl, rfl, sd, atI_nat (j := 2) rfl, ?_⟩
      refine ⟨_, rfl, da, _, 3, _, rfl, rfl, sd, atI_nat (j := 3) rfl, ?_⟩
      refine ⟨_, rfl, da, _, 4, _, rfl, rfl, sd, atI_nat (j := 4) rfl, ?_⟩
      exact ⟨F, a, cs, sh, name, na, pz, ha, inner, hs, homes, rfl, hF, hC, fit, as.few2, as.ne, as.nod, e2, e3, e4, e5, e6, as.ok.1, as.ok.2, fun F' H' g hC' => k F' H' a.cl cl0 (hC.grw as.tab (fun _ z => z) g) hC'⟩
    | close sh name =>
      subst hdd
      obtain ⟨na, e1, e2⟩ := hd
      have sd : SqT K H da [.str "close", .int sh, .ref na] := .inl (.inl (hF _ _ e1))
      refine ⟨_, rfl, da, _, 0, _, rfl, rfl, sd, atI_nat (j := 0) rfl, rfl, _, rfl, ?_⟩
      rw [show decide (V.str "close" = V.str "own") = false by decide +kernel]
      refine iteF ⟨_, rfl, da, _, 0, _, rfl, rfl, sd, atI_nat (j := 0) rfl, rfl, _, rfl, ?_⟩
      rw [show decide (V.str "close" = V.str "close") = true by decide +kernel]
      refine iteT ⟨_, rfl, a.x, dx, _, rfl, h1, catF_no (by simp), _, rfl, da, _, 1, _, rfl, rfl, sd, atI_nat (j := 1) rfl, ?_⟩
      refine ⟨_, rfl, da, _, 2, _, rfl, rfl, sd, atI_nat (j := 2) rfl, ?_⟩
      have fc := fit.closed
      exact ⟨F, a, cs, sh, name, na, rfl, hF, hC, e2, by omega, fun F' H' g hC' => k F' H' a.cl cl0 (hC.grw as.tab (fun b z => by simp at z; simp [CA.S, z]) g) hC'⟩
    | forget sh name =>
      subst hdd
      obtain ⟨na, e1, e2⟩ := hd
      have sd : SqT K H da [.str "forget", .int sh, .ref na] := .inl (.inl (hF _ _ e1))
      refine ⟨_, rfl, da, _, 0, _, rfl, rfl, sd, atI_nat (j := 0) rfl, rfl, _, rfl, ?_⟩
      rw [show decide (V.str "forget" = V.str "own") = false by decide +kernel]
      refine iteF ⟨_, rfl, da, _, 0, _, rfl, rfl, sd, atI_nat (j := 0) rfl, rfl, _, rfl, ?_⟩
      rw [show decide (V.str "forget" = V.str "close") = false by decide +kernel]
      refine iteF ⟨_, rfl, da, _, 0, _, rfl, rfl, sd, atI_nat (j := 0) rfl, rfl, _, rfl, ?_⟩
      rw [show decide (V.str "forget" = V.str "forget") = true by decide +kernel]
      refine iteT ⟨_, rfl, a.x, dx, _, rfl, h1, catF_no (by simp), _, rfl, da, _, 1, _, rfl, rfl, sd, atI_nat (j := 1) rfl, ?_⟩
      refine ⟨_, rfl, da, _, 2, _, rfl, rfl, sd, atI_nat (j := 2) rfl, ?_⟩
      have fc := fit.closed
      exact ⟨F, a, cs, sh, name, na, rfl, hF, hC, e2, by omega, fun F' H' cl g nc hC' => k F' H' cl (Fresh.of_none nc) (hC.grw as.tab (fun b z => z) g) hC'⟩
    | route low sh =>
      subst hdd
      have sd : SqT K H da [.str "route", .str low, .int sh] := .inl (.inl (hF _ _ hd))
      refine ⟨_, rfl, da, _, 0, _, rfl, rfl, sd, atI_nat (j := 0) rfl, rfl, _, rfl, ?_⟩
      rw [show decide (V.str "route" = V.str "own") = false by decide +kernel]
      refine iteF ⟨_, rfl, da, _, 0, _, rfl, rfl, sd, atI_nat (j := 0) rfl, rfl, _, rfl, ?_⟩
      rw [show decide (V.str "route" = V.str "close") = false by decide +kernel]
      refine iteF ⟨_, rfl, da, _, 0, _, rfl, rfl, sd, atI_nat (j := 0) rfl, rfl, _, rfl, ?_⟩
      rw [show decide (V.str "route" = V.str "forget") = false by decide +kernel]
      refine iteF ⟨_, rfl, da, _, 0, _, rfl, rfl, sd, atI_nat (j := 0) rfl, rfl, _, rfl, ?_⟩
      rw [show decide (V.str "route" = V.str "route") = true by decide +kernel]
      refine iteT ⟨_, rfl, a.x, _, dx, _, _, rfl, h1, T.c_Catalog, T.n_Catalog_routes, catF_routes, ?_⟩
      refine ⟨_, rfl, da, _, 1, _, rfl, rfl, sd, atI_nat (j := 1) rfl, ?_⟩
      refine ⟨_, rfl, da, _, 2, _, rfl, rfl, sd, atI_nat (j := 2) rfl, ?_⟩
      have fr := fit.routes
      refine ⟨F, ro, cs.routes, low, sh, rfl, hF, as.nt, hro, by omega, as.tab, fun F2 H2 D g2 hD => ?_⟩
      have hC2 := hC.frameW g2 (by simp) (by simp) (by simp) (by simp)
      have h12 := g2.keep _ _ h1 (by simp) noTab_ins
      refine ⟨_, rfl, a.x, _, dx, _, rfl, h12, T.c_Catalog, T.n_Catalog_routes, (by show 5 < 1000; decide), ?_⟩
      rw [catF_p_routes]
      have hC3 := hC2.setObj (dx := dx) (b := cs.begins) hD
      have g3 : Gr [a.x] F2 H2 F2 (upd H2 a.x (.ins (He.ga K "Catalog") dx (catF a.l a.tl a.cl D cs.begins))) := (Gr.refl g2.fh).put hC2.fx (.inr (by simp))
      have g4 : GrW (tabR K) qR a.S F H F2 (upd H2 a.x (.ins (He.ga K "Catalog") dx (catF a.l a.tl a.cl D cs.begins))) := (g2.mono (by simp)).trans (hC2.grw (g2.tab as.tab) (fun b z => by simp at z; simp [CA.S, z]) g3)
      refine ⟨_, rfl, da, _, 2, _, rfl, rfl, .inl (.inl (g4.fh _ _ (g4.ff _ _ hd))), atI_nat (j := 2) rfl, ?_⟩
      exact k F2 _ a.cl cl0 g4 hC3
    | begin_ =>
      subst hdd
      have sd : SqT K H da [.str "begin"] := .inl (.inl (hF _ _ hd))
      refine ⟨_, rfl, da, _, 0, _, rfl, rfl, sd, atI_nat (j := 0) rfl, rfl, _, rfl, ?_⟩
      rw [show decide (V.str "begin" = V.str "own") = false by decide +kernel]
      refine iteF ⟨_, rfl, da, _, 0, _, rfl, rfl, sd, atI_nat (j := 0) rfl, rfl, _, rfl, ?_⟩
      rw [show decide (V.str "begin" = V.str "close") = false by decide +kernel]
      refine iteF ⟨_, rfl, da, _, 0, _, rfl, rfl, sd, atI_nat (j := 0) rfl, rfl, _, rfl, ?_⟩
      rw [show decide (V.str "begin" = V.str "forget") = false by decide +kernel]
      refine iteF ⟨_, rfl, da, _, 0, _, rfl, rfl, sd, atI_nat (j := 0) rfl, rfl, _, rfl, ?_⟩
      rw [show decide (V.str "begin" = V.str "route") = false by decide +kernel]
      refine iteF ⟨_, rfl, da, _, 0, _, rfl, rfl, sd, atI_nat (j := 0) rfl, rfl, _, rfl, ?_⟩
      rw [show decide (V.str "begin" = V.str "begin") = true by decide +kernel]
      refine iteT ⟨_, rfl, a.x, _, dx, _, _, rfl, h1, T.c_Catalog, T.n_Catalog_begins, catF_begins, _, _, rfl, rfl, ?_⟩
      refine ⟨_, rfl, a.x, _, dx, _, rfl, h1, T.c_Catalog, T.n_Catalog_begins, (by show 5 < 1000; decide), ?_⟩
      rw [catF_p_begins]
      refine ⟨_, rfl, a.x, _, dx, _, _, rfl, upd_same, T.c_Catalog, T.n_Catalog_begins, catF_begins, ?_⟩
      have g3 : Gr [a.x] F H F (upd H a.x (.ins (He.ga K "Catalog") dx (catF a.l a.tl a.cl ro (cs.begins + 1)))) := (Gr.refl hF).put hC.fx (.inr (by simp))
      exact k F _ a.cl cl0 (hC.grw as.tab (fun b z => by simp at z; simp [CA.S, z]) g3) (hC.setObj (b := cs.begins + 1) hro)
    | put ra r =>
      subst hdd
      have sd : SqT K H da [.str "put", .ref ra] := .inl (.inl (hF _ _ hd.1))
      refine ⟨_, rfl, da, _, 0, _, rfl, rfl, sd, atI_nat (j := 0) rfl, rfl, _, rfl, ?_⟩
      rw [show decide (V.str "put" = V.str "own") = false by decide +kernel]
      refine iteF ⟨_, rfl, da, _, 0, _, rfl, rfl, sd, atI_nat (j := 0) rfl, rfl, _, rfl, ?_⟩
      rw [show decide (V.str "put" = V.str "close") = false by decide +kernel]
      refine iteF ⟨_, rfl, da, _, 0, _, rfl, rfl, sd, atI_nat (j := 0) rfl, rfl, _, rfl, ?_⟩
      rw [show decide (V.str "put" = V.str "forget") = false by decide +kernel]
      refine iteF ⟨_, rfl, da, _, 0, _, rfl, rfl, sd, atI_nat (j := 0) rfl, rfl, _, rfl, ?_⟩
      rw [show decide (V.str "put" = V.str "route") = false by decide +kernel]
      refine iteF ⟨_, rfl, da, _, 0, _, rfl, rfl, sd, atI_nat (j := 0) rfl, rfl, _, rfl, ?_⟩
      rw [show decide (V.str "put" = V.str "begin") = false by decide +kernel]
      refine iteF ⟨_, rfl, a.x, dx, _, rfl, h1, catF_no (by simp), _, rfl, ?_⟩
      exact ⟨F, a, cs, da, _, rfl, hF, hC, fit, as.few1, as.lc, as.deed, as.ok, rfl, fun F' H' g hC' => k F' H' a.cl cl0 (hC.grw as.tab (fun b z => by simp at z; simp [CA.S, z]) g) hC'⟩
    | drop x =>
      subst hdd
      have sd : SqT K H da [.str "drop", .str x] := .inl (.inl (hF _ _ hd))
      refine ⟨_, rfl, da, _, 0, _, rfl, rfl, sd, atI_nat (j := 0) rfl, rfl, _, rfl, ?_⟩
      rw [show decide (V.str "drop" = V.str "own") = false by decide +kernel]
      refine iteF ⟨_, rfl, da, _, 0, _, rfl, rfl, sd, atI_nat (j := 0) rfl, rfl, _, rfl, ?_⟩
      rw [show decide (V.str "drop" = V.str "close") = false by decide +kernel]
      refine iteF ⟨_, rfl, da, _, 0, _, rfl, rfl, sd, atI_nat (j := 0) rfl, rfl, _, rfl, ?_⟩
      rw [show decide (V.str "drop" = V.str "forget") = false by decide +kernel]
      refine iteF ⟨_, rfl, da, _, 0, _, rfl, rfl, sd, atI_nat (j := 0) rfl, rfl, _, rfl, ?_⟩
      rw [show decide (V.str "drop" = V.str "route") = false by decide +kernel]
      refine iteF ⟨_, rfl, da, _, 0, _, rfl, rfl, sd, atI_nat (j := 0) rfl, rfl, _, rfl, ?_⟩
      rw [show decide (V.str "drop" = V.str "begin") = false by decide +kernel]
      refine iteF ⟨_, rfl, a.x, dx, _, rfl, h1, catF_no (by simp), _, rfl, ?_⟩
      exact ⟨F, a, cs, da, _, rfl, hF, hC, fit, as.few1, as.lc, as.deed, as.ok, rfl, fun F' H' g hC' => k F' H' a.cl cl0 (hC.grw as.tab (fun b z => by simp at z; simp [CA.S, z]) g) hC'⟩
    | pin =>
      subst hdd
      have sd : SqT K H da [.str "pin"] := .inl (.inl (hF _ _ hd))
      refine ⟨_, rfl, da, _, 0, _, rfl, rfl, sd, atI_nat (j := 0) rfl, rfl, _, rfl, ?_⟩
      rw [show decide (V.str "pin" = V.str "own") = false by decide +kernel]
      refine iteF ⟨_, rfl, da, _, 0, _, rfl, rfl, sd, atI_nat (j := 0) rfl, rfl, _, rfl, ?_⟩
      rw [show decide (V.str "pin" = V.str "close") = false by decide +kernel]
      refine iteF ⟨_, rfl, da, _, 0, _, rfl, rfl, sd, atI_nat (j := 0) rfl, rfl, _, rfl, ?_⟩
      rw [show decide (V.str "pin" = V.str "forget") = false by decide +kernel]
      refine iteF ⟨_, rfl, da, _, 0, _, rfl, rfl, sd, atI_nat (j := 0) rfl, rfl, _, rfl, ?_⟩
      rw [show decide (V.str "pin" = V.str "route") = false by decide +kernel]
      refine iteF ⟨_, rfl, da, _, 0, _, rfl, rfl, sd, atI_nat (j := 0) rfl, rfl, _, rfl, ?_⟩
      rw [show decide (V.str "pin" = V.str "begin") = false by decide +kernel]
      refine iteF ⟨_, rfl, a.x, dx, _, rfl, h1, catF_no (by simp), _, rfl, ?_⟩
      exact ⟨F, a, cs, da, _, rfl, hF, hC, fit, as.few1, as.lc, as.deed, as.ok, rfl, fun F' H' g hC' => k F' H' a.cl cl0 (hC.grw as.tab (fun b z => by simp at z; simp [CA.S, z]) g) hC'⟩
    | unpin m =>
      subst hdd
      have sd : SqT K H da [.str "unpin", .int m] := .inl (.inl (hF _ _ hd))
      refine ⟨_, rfl, da, _, 0, _, rfl, rfl, sd, atI_nat (j := 0) rfl, rfl, _, rfl, ?_⟩
      rw [show decide (V.str "unpin" = V.str "own") = false by decide +kernel]
      refine iteF ⟨_, rfl, da, _, 0, _, rfl, rfl, sd, atI_nat (j := 0) rfl, rfl, _, rfl, ?_⟩
      rw [show decide (V.str "unpin" = V.str "close") = false by decide +kernel]
      refine iteF ⟨_, rfl, da, _, 0, _, rfl, rfl, sd, atI_nat (j := 0) rfl, rfl, _, rfl, ?_⟩
      rw [show decide (V.str "unpin" = V.str "forget") = false by decide +kernel]
      refine iteF ⟨_, rfl, da, _, 0, _, rfl, rfl, sd, atI_nat (j := 0) rfl, rfl, _, rfl, ?_⟩
      rw [show decide (V.str "unpin" = V.str "route") = false by decide +kernel]
      refine iteF ⟨_, rfl, da, _, 0, _, rfl, rfl, sd, atI_nat (j := 0) rfl, rfl, _, rfl, ?_⟩
      rw [show decide (V.str "unpin" = V.str "begin") = false by decide +kernel]
      refine iteF ⟨_, rfl, a.x, dx, _, rfl, h1, catF_no (by simp), _, rfl, ?_⟩
      exact ⟨F, a, cs, da, _, rfl, hF, hC, fit, as.few1, as.lc, as.deed, as.ok, rfl, fun F' H' g hC' => k F' H' a.cl cl0 (hC.grw as.tab (fun b z => by simp at z; simp [CA.S, z]) g) hC'⟩
    | lift m =>
      subst hdd
      have sd : SqT K H da [.str "lift", .int m] := .inl (.inl (hF _ _ hd))
      refine ⟨_, rfl, da, _, 0, _, rfl, rfl, sd, atI_nat (j := 0) rfl, rfl, _, rfl, ?_⟩
      rw [show decide (V.str "lift" = V.str "own") = false by decide +kernel]
      refine iteF ⟨_, rfl, da, _, 0, _, rfl, rfl, sd, atI_nat (j := 0) rfl, rfl, _, rfl, ?_⟩
      rw [show decide (V.str "lift" = V.str "close") = false by decide +kernel]
      refine iteF ⟨_, rfl, da, _, 0, _, rfl, rfl, sd, atI_nat (j := 0) rfl, rfl, _, rfl, ?_⟩
      rw [show decide (V.str "lift" = V.str "forget") = false by decide +kernel]
      refine iteF ⟨_, rfl, da, _, 0, _, rfl, rfl, sd, atI_nat (j := 0) rfl, rfl, _, rfl, ?_⟩
      rw [show decide (V.str "lift" = V.str "route") = false by decide +kernel]
      refine iteF ⟨_, rfl, da, _, 0, _, rfl, rfl, sd, atI_nat (j := 0) rfl, rfl, _, rfl, ?_⟩
      rw [show decide (V.str "lift" = V.str "begin") = false by decide +kernel]
      refine iteF ⟨_, rfl, a.x, dx, _, rfl, h1, catF_no (by simp), _, rfl, ?_⟩
      exact ⟨F, a, cs, da, _, rfl, hF, hC, fit, as.few1, as.lc, as.deed, as.ok, rfl, fun F' H' g hC' => k F' H' a.cl cl0 (hC.grw as.tab (fun b z => by simp at z; simp [CA.S, z]) g) hC'⟩
/-! ### apply -/
theorem change_sizes (d : Deed) (cs : CS) : (changeC d cs).1.closed.length ≤ cs.closed.length + 1 ∧ (changeC d cs).1.titles.length ≤ cs.titles.length + 1 := by
  cases d with
  | put ra r => exact ⟨Nat.le_succ _, Nat.le_succ _⟩
  | drop x => exact ⟨Nat.le_succ _, Nat.le_succ _⟩
  | pin => exact ⟨Nat.le_succ _, Nat.le_succ _⟩
  | unpin m =>
    show (if m ∈ cs.led.pins then ({ cs with led := unpinL m cs.led } : CS) else cs).closed.length ≤ _ ∧ (if m ∈ cs.led.pins then ({ cs with led := unpinL m cs.led } : CS) else cs).titles.length ≤ _
    split <;> exact ⟨Nat.le_succ _, Nat.le_succ _⟩
  | lift m => exact ⟨Nat.le_succ _, Nat.le_succ _⟩
  | own sh name inner homes =>
    refine ⟨Nat.le_succ _, ?_⟩
    show (cs.titles ++ [_]).length ≤ _
    rw [List.length_append]
    exact Nat.le_refl _
  | close sh name => exact ⟨closeC_len _ _, Nat.le_succ _⟩
  | forget sh name => exact ⟨Nat.le_trans (List.length_filter_le _ _) (Nat.le_succ _), Nat.le_succ _⟩
  | route low sh => exact ⟨Nat.le_succ _, Nat.le_succ _⟩
  | begin_ => exact ⟨Nat.le_succ _, Nat.le_succ _⟩
theorem sc_Catalog_apply : FnScope ["self", "deed", "outcome"] ["self", "deed"] (defScope s_Catalog_apply) := ⟨rfl, rfl, rfl, by decide +kernel, rfl, by decide +kernel, by decide +kernel⟩
def sp_apply (K : PySem.W.Frag) : Sp := fun vs H Q _ => ∃ (c : LC) (F : Hp) (a : CA) (cs : CS) (da : Addr) (d : Deed), vs = [.ref a.x, .ref da] ∧ Asks K F H c a cs da d ∧
  ∀ F' H' cl tl, Fresh H a.S cl → Fresh H a.S tl → GrW (tabR K) qR a.S F H F' H' → CatAt K F' H' c { a with cl := cl, tl := tl } (applyC d cs).1 → Q (oV (applyC d cs).2) H'
theorem ok_apply (T : Tx w K mg) (tb : TB K base mg) : C8.Met P w K mg base 9 (He.ga K "Catalog") "apply" (sp_apply K) [] := by
  refine met_mk (st := s_Catalog_apply) T.d_Catalog_apply T.c_Catalog T.m_Catalog_apply sc_Catalog_apply (fun _ _ _ _ _ _ us hl => match us, hl with | [_, _], _ => rfl) (fun vs H Q E h => ?_) (fun f cdv A outer s H vs Q E hr h => ?_)
  · obtain ⟨c, F, a, cs, da, d, rfl, _⟩ := h
    rfl
  · obtain ⟨c, F, a, cs, da, d, rfl, as, k⟩ := h
    have c_Catalog_change := ok_change (P := P) (base := base) T tb c
    have c_Catalog_settle := ok_settle (P := P) (base := base) T c
    obtain ⟨dx, ro, h1, hro⟩ := as.cat.obj
    have z := change_sizes d cs
    have fc := as.fit.closed
    have ft := as.fit.titles
    refine ⟨_, (pss_cons (ps_set (i := 2) sc_Catalog_apply.nd rfl (.inl rfl) (C8.pe_mt c_Catalog_change hr (by decide) (pv 0) (pa_cons (pv 1) pa_nil)))
      (pss_cons (ps_expr (C8.pe_mt0 c_Catalog_settle hr (by decide) (pv 0)))
      (pss_one (ps_ret (pv 2))))), ?_⟩
    refine ⟨_, rfl, a.x, dx, _, rfl, h1, catF_no (by simp), _, rfl, F, a, cs, da, d, rfl, as, fun F1 H1 cl fcl g1 hC1 => ?_⟩
    obtain ⟨dx1, ro1, h11, _⟩ := hC1.obj
    refine ⟨_, rfl, a.x, dx1, _, rfl, h11, catF_no (by simp), F1, { a with cl := cl }, (changeC d cs).1, rfl, g1.fh, hC1, by omega, by omega, fun F2 H2 tl g2 ntl hC2 => ?_⟩
    have g2' := hC1.grw (g1.tab as.tab) (fun b z => z) g2
    have hS : ∀ p ∈ ({ a with cl := cl } : CA).S, Fresh H a.S p := fun p hp => by
      simp only [CA.S, List.mem_cons, List.not_mem_nil, or_false] at hp
      rcases hp with rfl | rfl | rfl | rfl
      · exact Fresh.mem (by simp [CA.S])
      · exact Fresh.mem (by simp [CA.S])
      · exact Fresh.mem (by simp [CA.S])
      · exact fcl
    exact ⟨_, rfl, k F2 H2 cl tl fcl (Fresh.back g1 hS (Fresh.of_none ntl)) (g1.trans_fresh g2' hS) hC2⟩
/-! ### __init__ -/
theorem sc_Catalog_init : FnScope ["self", "schema", "key", "shard"] ["self", "schema", "key", "shard"] (defScope s_Catalog_init) := ⟨rfl, rfl, rfl, by decide +kernel, rfl, by decide +kernel, by decide +kernel⟩
def cs0 (sh : Int) : CS := ⟨ls0, [], [], [("", sh)], 0⟩
def sp_Catalog_init (K : PySem.W.Frag) : Sp := fun vs H Q _ => ∃ (F H0 : Hp) (x dx sa ka : Addr) (d : SchD) (kk : Int × Int) (sh : Int), vs = [.ref x, .ref sa, .ref ka, .int sh] ∧ Same F H0 ∧ H0 x = none ∧ H0 dx = none ∧ dx ≠ x ∧ H = upd (upd H0 dx (.own x)) x (.ins (He.ga K "Catalog") dx []) ∧ SchAt K F sa d ∧ d.Ok ∧ F ka = some (.tup [.int kk.1, .int kk.2]) ∧ (0 ≤ kk.1 ∧ kk.1 < 4294967291) ∧ (0 ≤ kk.2 ∧ kk.2 < 4294967291) ∧
  ∀ F' H' c a, Gr [] F H0 F' H' → a.x = x → c.key = kk → c.d = d → LcAt K F' c → CatAt K F' H' c a (cs0 sh) → Q .non H'
theorem ok_Catalog_init (T : Tx w K mg) : C8.Mak P w K mg base 4 "Catalog" (He.ga K "Catalog") (sp_Catalog_init K) [] := by
  have c_Ledger := ok_Ledger_init (P := P) (base := base) T
  refine mak_mk (st := s_Catalog_init) T.d_Catalog_init T.k_Catalog T.g_Catalog sc_Catalog_init (fun _ _ _ _ _ _ us hl => match us, hl with | [_, _, _, _], _ => rfl) (fun vs H Q E h => ?_) (fun f cdv A outer s H vs Q E hr h => ?_)
  · obtain ⟨F, H0, x, dx, sa, ka, d, kk, sh, rfl, _⟩ := h
    rfl
  · obtain ⟨F, H0, x, dx, sa, ka, d, kk, sh, rfl, hF, hx, hd, n, rfl, hs, ok, hk, b1, b2, k⟩ := h
    have nx : F x = none := hF.free hx
    refine ⟨_, (pss_cons (ps_fld (pv 0) (C8.pe_mk c_Ledger hr (by decide) (by rfl) (pa_cons (pv 1) (pa_cons (pv 2) pa_nil))) rfl)
      (pss_cons (ps_fld (pv 0) (pe_lst pa_nil) rfl)
      (pss_cons (ps_fld (pv 0) (pe_lst pa_nil) rfl)
      (pss_cons (ps_fld (pv 0) (pe_lst (pa_cons (pe_tup (pa_cons pe_str (pa_cons (pv 3) pa_nil))) pa_nil)) rfl)
      (pss_one (ps_fld (pv 0) pe_int rfl)))))), ?_⟩
    have g1 : Gr [] F H0 F (upd (upd H0 dx (.own x)) x (.ins (He.ga K "Catalog") dx [])) := ((Gr.refl hF).made hd).put nx (.inl hx)
    have hx1 : (upd (upd H0 dx (.own x)) x (.ins (He.ga K "Catalog") dx [])) x = some (.ins (He.ga K "Catalog") dx []) := upd_same
    generalize hH1 : upd (upd H0 dx (.own x)) x (.ins (He.ga K "Catalog") dx []) = H1 at *
    refine ⟨_, rfl, _, rfl, fun l ldx hl hld hne => ?_⟩
    refine ⟨F, H1, l, ldx, sa, ka, d, kk, rfl, g1.fh, hl, hld, hne, rfl, hs, ok, hk, b1, b2, fun F2 H2 ka2 g2 nl2 hc hL => ⟨rfl, ?_⟩⟩
    have g12 := g1.trans g2
    have hx2 := g2.hh _ _ hx1
    have nx2 : F2 x = none := g2.out hx1 nx
    obtain ⟨lx, pa, na, sga, hl2, lp⟩ := hL.ex
    have nlx : l ≠ x := fun z => by rw [z, hx1] at hl; cases hl
    have hl0 : H0 l = none := g1.h0none hl
    refine ⟨_, rfl, x, _, dx, _, rfl, hx2, T.c_Catalog, T.n_Catalog_ledger, (by show 0 < 1000; decide), ?_⟩
    have g3 := g12.put (o := .ins (He.ga K "Catalog") dx (putF "ledger" (.ref l) [])) nx2 (.inl hx)
    have hl3 : (upd H2 x (.ins (He.ga K "Catalog") dx (putF "ledger" (.ref l) []))) l = some (ledO K ⟨sa, d, ka2, kk⟩ ls0 lx pa na sga) := by rw [upd_ne nlx]; exact hl2
    refine ⟨Nat.zero_le _, fun tl ntl => ?_⟩
    have ntx : tl ≠ x := fun z => by rw [z, upd_same] at ntl; cases ntl
    have ntl_l : tl ≠ l := fun z => by rw [z, hl3] at ntl; cases ntl
    have g4 := g3.made (o := .lst []) ntl
    have hl4 := same_new (o := .lst []) ntl _ _ hl3
    have hx4 := same_new (o := .lst []) ntl _ _ (upd_same (H := H2) (a := x) (o := .ins (He.ga K "Catalog") dx (putF "ledger" (.ref l) [])))
    have ht4 : (upd (upd H2 x (.ins (He.ga K "Catalog") dx (putF "ledger" (.ref l) []))) tl (.lst [])) tl = some (.lst []) := upd_same
    have ftl : F2 tl = none := g3.fh.free ntl
    have htl0 : H0 tl = none := g3.h0none ntl
    generalize hH4 : upd (upd H2 x (.ins (He.ga K "Catalog") dx (putF "ledger" (.ref l) []))) tl (.lst []) = H4 at *
    refine ⟨_, rfl, x, _, dx, _, rfl, hx4, T.c_Catalog, T.n_Catalog_titles, (by show 1 < 1000; decide), ?_⟩
    have g5 := g4.put (o := .ins (He.ga K "Catalog") dx (putF "titles" (.ref tl) (putF "ledger" (.ref l) []))) nx2 (.inl hx)
    refine ⟨Nat.zero_le _, fun cl ncl => ?_⟩
    have ncx : cl ≠ x := fun z => by rw [z, upd_same] at ncl; cases ncl
    have ncl_l : cl ≠ l := fun z => by rw [z, upd_ne nlx, hl4] at ncl; cases ncl
    have ncl_t : cl ≠ tl := fun z => by rw [z, upd_ne ntx, ht4] at ncl; cases ncl
    have g6 := g5.made (o := .lst []) ncl
    have fcl : F2 cl = none := g5.fh.free ncl
    have s56 := same_new (o := .lst []) ncl
    refine ⟨_, rfl, x, _, dx, _, rfl, s56 _ _ upd_same, T.c_Catalog, T.n_Catalog_closed, (by show 2 < 1000; decide), ?_⟩
    have g7 := g6.put (o := .ins (He.ga K "Catalog") dx (putF "closed" (.ref cl) (putF "titles" (.ref tl) (putF "ledger" (.ref l) [])))) nx2 (.inl hx)
    have hl7 : (upd (upd (upd H4 x (.ins (He.ga K "Catalog") dx (putF "titles" (.ref tl) (putF "ledger" (.ref l) [])))) cl (.lst [])) x (.ins (He.ga K "Catalog") dx (putF "closed" (.ref cl) (putF "titles" (.ref tl) (putF "ledger" (.ref l) []))))) l = some (ledO K ⟨sa, d, ka2, kk⟩ ls0 lx pa na sga) := by rw [upd_ne nlx, upd_ne ncl_l.symm, upd_ne nlx]; exact hl4
    have ht7 : (upd (upd (upd H4 x (.ins (He.ga K "Catalog") dx (putF "titles" (.ref tl) (putF "ledger" (.ref l) [])))) cl (.lst [])) x (.ins (He.ga K "Catalog") dx (putF "closed" (.ref cl) (putF "titles" (.ref tl) (putF "ledger" (.ref l) []))))) tl = some (.lst []) := by rw [upd_ne ntx, upd_ne ncl_t.symm, upd_ne ntx]; exact ht4
    have hc7 : (upd (upd (upd H4 x (.ins (He.ga K "Catalog") dx (putF "titles" (.ref tl) (putF "ledger" (.ref l) [])))) cl (.lst [])) x (.ins (He.ga K "Catalog") dx (putF "closed" (.ref cl) (putF "titles" (.ref tl) (putF "ledger" (.ref l) []))))) cl = some (.lst []) := by rw [upd_ne ncx, upd_same]
    have hx7 : (upd (upd (upd H4 x (.ins (He.ga K "Catalog") dx (putF "titles" (.ref tl) (putF "ledger" (.ref l) [])))) cl (.lst [])) x (.ins (He.ga K "Catalog") dx (putF "closed" (.ref cl) (putF "titles" (.ref tl) (putF "ledger" (.ref l) []))))) x = some (.ins (He.ga K "Catalog") dx (putF "closed" (.ref cl) (putF "titles" (.ref tl) (putF "ledger" (.ref l) [])))) := upd_same
    generalize hH7 : upd (upd (upd H4 x (.ins (He.ga K "Catalog") dx (putF "titles" (.ref tl) (putF "ledger" (.ref l) [])))) cl (.lst [])) x (.ins (He.ga K "Catalog") dx (putF "closed" (.ref cl) (putF "titles" (.ref tl) (putF "ledger" (.ref l) [])))) = H7 at *
    refine ⟨_, rfl, (by show 2 ≤ sizeLine; decide), fun t nt => ⟨(by show 1 ≤ sizeLine; decide), fun p np => ?_⟩⟩
    have g8 := g7.new_ (o := .tup [V.str "", V.int sh]) nt
    have g9 := g8.new_ (o := .lst [V.ref t]) np
    have sA := same_new (o := .tup [V.str "", V.int sh]) nt
    have sB := same_app (o := .lst [V.ref t]) sA np
    have fx9 : (upd (upd F2 t (.tup [V.str "", V.int sh])) p (.lst [V.ref t])) x = none := by
      rw [upd_ne (ne_of_none (sA _ _ hx7) np), upd_ne (ne_of_none hx7 nt)]
      exact nx2
    refine ⟨_, rfl, x, _, dx, _, rfl, sB _ _ hx7, T.c_Catalog, T.n_Catalog_routes, (by show 3 < 1000; decide), ?_⟩
    refine ⟨_, rfl, x, _, dx, _, rfl, upd_same, T.c_Catalog, T.n_Catalog_begins, (by show 4 < 1000; decide), ?_⟩
    rw [upd_upd]
    have gA := g9.put (o := .ins (He.ga K "Catalog") dx (catF l tl cl p 0)) fx9 (.inl hx)
    have sF1 : Same F2 (upd F2 t (.tup [V.str "", V.int sh])) := same_new (g7.fh.free nt)
    have sF2 : Same (upd F2 t (.tup [V.str "", V.int sh])) (upd (upd F2 t (.tup [V.str "", V.int sh])) p (.lst [V.ref t])) := same_new (g8.fh.free np)
    have out : ∀ b o, H7 b = some o → F2 b = none → (upd (upd F2 t (.tup [V.str "", V.int sh])) p (.lst [V.ref t])) b = none := fun b o e z => by
      rw [upd_ne (ne_of_none (sA _ _ e) np), upd_ne (ne_of_none e nt)]
      exact z
    refine k _ _ ⟨sa, d, ka2, kk⟩ ⟨x, l, tl, cl⟩ gA rfl rfl rfl (hc.mono (sF1.trans sF2)) ⟨nlx.symm, ntx.symm, ncx.symm, ntl_l.symm, ncl_l.symm, ncl_t.symm, fx9, out _ _ hl7 nl2, out _ _ ht7 ftl, out _ _ hc7 fcl, ⟨dx, p, upd_same, ⟨[t], upd_same, .cons (sF2 _ _ upd_same) .nil⟩⟩, ⟨lx, pa, na, sga, ?_, lp.mono (sF1.trans sF2)⟩, ⟨[], ?_, .nil⟩, ⟨[], ?_, .nil⟩⟩
    · show upd _ x _ l = _
      rw [upd_ne nlx]
      exact sB _ _ hl7
    · show upd _ x _ tl = _
      rw [upd_ne ntx]
      exact sB _ _ ht7
    · show upd _ x _ cl = _
      rw [upd_ne ncx]
      exact sB _ _ hc7
end
end K94
/-! The law's draws. -/
namespace K94
open PySem PySem.Spec PyProof.Rows L2 LamX
/-- the state of the draws -/
structure StAt (F H : Hp) (st : Addr) : Prop where
  out : F st = none
  ex : ∃ (sc : Addr) (k : Nat) (c : Int) (ns : List Int), H st = some (.lst [.ref sc, .int k, .int c]) ∧ F sc = some (.lst (ns.map V.int))
theorem cmulR {i j : Int} (h : -(2 ^ 64) < j ∧ j < 2 ^ 64) : CMul i j := .inr h
theorem cmulL {i j : Int} (h : -(2 ^ 64) < i ∧ i < 2 ^ 64) : CMul i j := .inl h
theorem mod64 (x : Int) {m : Int} (h0 : 0 < m) (h1 : m < 2 ^ 63) : -(2 ^ 64) < x % m ∧ x % m < 2 ^ 64 := by
  have a := Int.emod_nonneg x (show m ≠ 0 by omega)
  have b := Int.emod_lt_of_pos x h0
  omega
section
variable {P : Program} {w : World} {K : PySem.W.Frag} {mg : Str → Option Value} {base : Heap}
theorem sc_l_row : FnScope ["_law_script", "_law_k", "_law_cell", "_law_a", "_law_b", "_law_c"] ["_law_script", "_law_k"] (defScope s_l_row) := ⟨rfl, rfl, rfl, by decide +kernel, rfl, by decide +kernel, by decide +kernel⟩
def sp_l_row (K : PySem.W.Frag) : Sp := fun vs H Q _ => ∃ (sc : Addr) (k : Nat) (ns : List Int), vs = [.ref sc, .int k] ∧ H sc = some (.lst (ns.map V.int)) ∧ ∀ n, Q (.int n) H
theorem ok_l_row (T : Tx w K mg) : C8.Cal P w K mg base 1 "_law_row" (sp_l_row K) [] := by
  refine cal_mk (st := s_l_row) T.d_l_row T.g_l_row sc_l_row (fun _ _ _ _ _ _ us hl => match us, hl with | [_, _], _ => rfl) (fun vs H Q E h => ?_) (fun f cdv A outer s H vs Q E hr h => ?_)
  · obtain ⟨sc, k, ns, rfl, _⟩ := h
    rfl
  · obtain ⟨sc, k, ns, rfl, hs, q⟩ := h
    refine ⟨_, (pss_cons (ps_set (i := 2) sc_l_row.nd rfl (.inl rfl) pe_int)
      (pss_cons (ps_if (pt_cmpR op_lt (pv 1) (pe_callB call_len_seq (by rfl) T.z_len PySem.boot_len (pa_cons (pv 0) pa_nil)) (nomark _))
        (pss_one (ps_set (i := 2) sc_l_row.nd rfl (.inl rfl) (pe_ix ix_list (pv 0) (pv 1) (fun _ _ => rfl))))
        pss_nil)
      (pss_cons (ps_if (pt_cmpR op_lt (pv 2) pe_int (nomark _))
        (pss_one (ps_set (i := 2) sc_l_row.nd rfl (.inl rfl) (pe_op op_sub (pe_op op_mul (pe_un un_neg pe_int) (pv 2)) pe_int)))
        pss_nil)
      (pss_cons (ps_if (pt_cmpR op_lt (pv 2) (pe_op op_pow pe_int pe_int) (nomark _))
        (pss_cons (ps_set (i := 3) sc_l_row.nd rfl (.inl rfl) (pe_op op_mod (pe_callTy call_int1 (by rfl) T.z_int (by decide +kernel) (pa_cons (pe_op op_add (pe_op op_add (pe_op op_mul (pv 2) pe_int) (pe_op op_mul (pv 1) pe_int)) pe_int) pa_nil)) pe_int))
        (pss_cons (ps_set (i := 4) sc_l_row.nd rfl (.inl rfl) (pe_op op_mod (pe_callTy call_int1 (by rfl) T.z_int (by decide +kernel) (pa_cons (pe_op op_add (pe_op op_add (pe_op op_add (pe_op op_mul (pv 3) pe_int) (pe_op op_mul (pv 2) pe_int)) (pv 1)) pe_int) pa_nil)) pe_int))
        (pss_cons (ps_set (i := 5) sc_l_row.nd rfl (.inl rfl) (pe_op op_mod (pe_callTy call_int1 (by rfl) T.z_int (by decide +kernel) (pa_cons (pe_op op_add (pe_op op_add (pe_op op_mul (pv 4) pe_int) (pe_op op_mul (pv 3) (pv 4))) pe_int) pa_nil)) pe_int))
        (pss_one (ps_set (i := 2) sc_l_row.nd rfl (.inl rfl) (pe_op op_add (pe_op op_add (pv 3) (pe_op op_mul (pv 4) pe_int)) (pe_op op_mul (pv 5) (pe_op op_pow pe_int pe_int))))))))
        pss_nil)
      (pss_one (ps_ret (pv 2))))))), ?_⟩
    refine ⟨_, rfl, _, rfl, sc, _, rfl, .inl (SqL.of hs), _, _, rfl, rfl, _, rfl, ?_⟩
    refine ite_b (fun h1 => ?_) (fun h1 => ?_)
    · have h1 : (k : Int) < ((ns.map V.int).length : Nat) := of_decide_eq_true h1
      have hk : k < ns.length := by
        rw [List.length_map] at h1
        omega
      refine ⟨_, rfl, _, rfl, sc, _, k, _, rfl, rfl, SqL.of hs, atI_nat (j := k) (by rw [List.getElem?_map, List.getElem?_eq_getElem hk]; rfl), ?_⟩
      generalize ns[k] = c
      refine ⟨_, rfl, _, _, rfl, rfl, _, rfl, ite_b (fun h2 => ?_) (fun h2 => ?_)⟩
      · refine ⟨_, rfl, _, rfl, _, _, rfl, rfl, cmulL (by decide), _, _, rfl, rfl, ?_⟩
        refine ⟨_, rfl, _, _, rfl, rfl, ⟨by decide, by decide, by decide⟩, _, _, rfl, rfl, _, rfl, ite_b (fun h3 => ?_) (fun h3 => ?_)⟩
        · refine ⟨_, rfl, _, _, rfl, rfl, cmulR (by decide), _, rfl, _, _, rfl, rfl, cmulR (by decide), _, _, rfl, rfl, _, _, rfl, rfl, .inl ⟨_, rfl, _, _, rfl, rfl, (show (0 : Int) < 2147483647 by decide), ?_⟩⟩
          refine ⟨_, rfl, _, _, rfl, rfl, cmulR (by decide), _, rfl, _, _, rfl, rfl, cmulR (by decide), _, _, rfl, rfl, _, rfl, _, _, rfl, rfl, _, _, rfl, rfl, .inl ⟨_, rfl, _, _, rfl, rfl, (show (0 : Int) < 2147483629 by decide), ?_⟩⟩
          refine ⟨_, rfl, _, _, rfl, rfl, cmulR (by decide), _, rfl, _, rfl, _, _, rfl, rfl, cmulL (mod64 _ (by decide) (by decide)), _, _, rfl, rfl, _, _, rfl, rfl, .inl ⟨_, rfl, _, _, rfl, rfl, (show (0 : Int) < 2147483587 by decide), ?_⟩⟩
          refine ⟨_, rfl, _, rfl, _, _, rfl, rfl, cmulR (by decide), _, _, rfl, rfl, _, rfl, _, _, rfl, rfl, ⟨by decide, by decide, by decide⟩, _, _, rfl, rfl, cmulR (by decide), _, _, rfl, rfl, ?_⟩
          exact ⟨_, rfl, q _⟩
        · exact ⟨_, rfl, q _⟩
      · refine ⟨_, rfl, _, _, rfl, rfl, ⟨by decide, by decide, by decide⟩, _, _, rfl, rfl, _, rfl, ite_b (fun h3 => ?_) (fun h3 => ?_)⟩
        · refine ⟨_, rfl, _, _, rfl, rfl, cmulR (by decide), _, rfl, _, _, rfl, rfl, cmulR (by decide), _, _, rfl, rfl, _, _, rfl, rfl, .inl ⟨_, rfl, _, _, rfl, rfl, (show (0 : Int) < 2147483647 by decide), ?_⟩⟩
          refine ⟨_, rfl, _, _, rfl, rfl, cmulR (by decide), _, rfl, _, _, rfl, rfl, cmulR (by decide), _, _, rfl, rfl, _, rfl, _, _, rfl, rfl, _, _, rfl, rfl, .inl ⟨_, rfl, _, _, rfl, rfl, (show (0 : Int) < 2147483629 by decide), ?_⟩⟩
          refine ⟨_, rfl, _, _, rfl, rfl, cmulR (by decide), _, rfl, _, rfl, _, _, rfl, rfl, cmulL (mod64 _ (by decide) (by decide)), _, _, rfl, rfl, _, _, rfl, rfl, .inl ⟨_, rfl, _, _, rfl, rfl, (show (0 : Int) < 2147483587 by decide), ?_⟩⟩
          refine ⟨_, rfl, _, rfl, _, _, rfl, rfl, cmulR (by decide), _, _, rfl, rfl, _, rfl, _, _, rfl, rfl, ⟨by decide, by decide, by decide⟩, _, _, rfl, rfl, cmulR (by decide), _, _, rfl, rfl, ?_⟩
          exact ⟨_, rfl, q _⟩
        · exact ⟨_, rfl, q _⟩
    · refine ⟨_, rfl, _, _, rfl, rfl, _, rfl, ite_b (fun h2 => ?_) (fun h2 => ?_)⟩
      · refine ⟨_, rfl, _, rfl, _, _, rfl, rfl, cmulL (by decide), _, _, rfl, rfl, ?_⟩
        refine ⟨_, rfl, _, _, rfl, rfl, ⟨by decide, by decide, by decide⟩, _, _, rfl, rfl, _, rfl, ite_b (fun h3 => ?_) (fun h3 => ?_)⟩
        · refine ⟨_, rfl, _, _, rfl, rfl, cmulR (by decide), _, rfl, _, _, rfl, rfl, cmulR (by decide), _, _, rfl, rfl, _, _, rfl, rfl, .inl ⟨_, rfl, _, _, rfl, rfl, (show (0 : Int) < 2147483647 by decide), ?_⟩⟩
          refine ⟨_, rfl, _, _, rfl, rfl, cmulR (by decide), _, rfl, _, _, rfl, rfl, cmulR (by decide), _, _, rfl, rfl, _, rfl, _, _, rfl, rfl, _, _, rfl, rfl, .inl ⟨_, rfl, _, _, rfl, rfl, (show (0 : Int) < 2147483629 by decide), ?_⟩⟩
          refine ⟨_, rfl, _, _, rfl, rfl, cmulR (by decide), _, rfl, _, rfl, _, _, rfl, rfl, cmulL (mod64 _ (by decide) (by decide)), _, _, rfl, rfl, _, _, rfl, rfl, .inl ⟨_, rfl, _, _, rfl, rfl, (show (0 : Int) < 2147483587 by decide), ?_⟩⟩
          refine ⟨_, rfl, _, rfl, _, _, rfl, rfl, cmulR (by decide), _, _, rfl, rfl, _, rfl, _, _, rfl, rfl, ⟨by decide, by decide, by decide⟩, _, _, rfl, rfl, cmulR (by decide), _, _, rfl, rfl, ?_⟩
          exact ⟨_, rfl, q _⟩
        · exact ⟨_, rfl, q _⟩
      · refine ⟨_, rfl, _, _, rfl, rfl, ⟨by decide, by decide, by decide⟩, _, _, rfl, rfl, _, rfl, ite_b (fun h3 => ?_) (fun h3 => ?_)⟩
        · refine ⟨_, rfl, _, _, rfl, rfl, cmulR (by decide), _, rfl, _, _, rfl, rfl, cmulR (by decide), _, _, rfl, rfl, _, _, rfl, rfl, .inl ⟨_, rfl, _, _, rfl, rfl, (show (0 : Int) < 2147483647 by decide), ?_⟩⟩
          refine ⟨_, rfl, _, _, rfl, rfl, cmulR (by decide), _, rfl, _, _, rfl, rfl, cmulR (by decide), _, _, rfl, rfl, _, rfl, _, _, rfl, rfl, _, _, rfl, rfl, .inl ⟨_, rfl, _, _, rfl, rfl, (show (0 : Int) < 2147483629 by decide), ?_⟩⟩
          refine ⟨_, rfl, _, _, rfl, rfl, cmulR (by decide), _, rfl, _, rfl, _, _, rfl, rfl, cmulL (mod64 _ (by decide) (by decide)), _, _, rfl, rfl, _, _, rfl, rfl, .inl ⟨_, rfl, _, _, rfl, rfl, (show (0 : Int) < 2147483587 by decide), ?_⟩⟩
          refine ⟨_, rfl, _, rfl, _, _, rfl, rfl, cmulR (by decide), _, _, rfl, rfl, _, rfl, _, _, rfl, rfl, ⟨by decide, by decide, by decide⟩, _, _, rfl, rfl, cmulR (by decide), _, _, rfl, rfl, ?_⟩
          exact ⟨_, rfl, q _⟩
        · exact ⟨_, rfl, q _⟩
theorem sc_l_next : FnScope ["_law_state", "_law_many", "_law_drawn"] ["_law_state", "_law_many"] (defScope s_l_next) := ⟨rfl, rfl, rfl, by decide +kernel, rfl, by decide +kernel, by decide +kernel⟩
def sp_l_next : Sp := fun vs H Q _ => ∃ (F : Hp) (st : Addr) (many : Int), vs = [.ref st, .int many] ∧ Same F H ∧ StAt F H st ∧ 0 < many ∧ many < 2 ^ 40 ∧ ∀ H' r, Gr [st] F H F H' → StAt F H' st → 0 ≤ r → r < many → Q (.int r) H'
theorem log40 {m : Int} (h0 : 0 < m) (h : m < 2 ^ 40) : CDivW 0 m := wide_div (b := 40) h0 (by omega) (by decide) (by decide)
theorem ok_l_next (T : Tx w K mg) : C8.Cal P w K mg base 2 "_law_next" sp_l_next [] := by
  have c_l_row := ok_l_row (P := P) (base := base) T
  refine cal_mk (st := s_l_next) T.d_l_next T.g_l_next sc_l_next (fun _ _ _ _ _ _ us hl => match us, hl with | [_, _], _ => rfl) (fun vs H Q E h => ?_) (fun f cdv A outer s H vs Q E hr h => ?_)
  · obtain ⟨F, st, many, rfl, _⟩ := h
    rfl
  · obtain ⟨F, st, many, rfl, hF, hS, m0, m1, q⟩ := h
    obtain ⟨sc, k, c, ns, hst, hsc⟩ := hS.ex
    have out := hS.out
    refine ⟨_, (pss_cons (ps_if (pt_cmpR op_lt (pe_ix ix_list (pv 0) pe_int (fun _ _ => rfl)) (pv 1) (nomark _))
        (pss_cons (ps_asg (C8.pe_c c_l_row hr (by decide) (by rfl) (pa_cons (pe_ix ix_list (pv 0) pe_int (fun _ _ => rfl)) (pa_cons (pe_ix ix_list (pv 0) pe_int (fun _ _ => rfl)) pa_nil))) (pg_sub (pv 0) pe_int set_list))
        (pss_one (ps_asg (pe_op op_add (pe_ix ix_list (pv 0) pe_int (fun _ _ => rfl)) pe_int) (pg_sub (pv 0) pe_int set_list))))
        pss_nil)
      (pss_cons (ps_set (i := 2) sc_l_next.nd rfl (.inl rfl) (pe_op op_mod (pe_callTy call_int1 (by rfl) T.z_int (by decide +kernel) (pa_cons (pe_ix ix_list (pv 0) pe_int (fun _ _ => rfl)) pa_nil)) (pv 1)))
      (pss_cons (ps_asg (pe_op op_fdivW (pe_ix ix_list (pv 0) pe_int (fun _ _ => rfl)) (pv 1)) (pg_sub (pv 0) pe_int set_list))
      (pss_one (ps_ret (pv 2)))))), ?_⟩
    have last : ∀ (k2 : Nat) (c2 : Int) (H2 : Hp), Gr [st] F H F H2 → H2 st = some (.lst [.ref sc, .int k2, .int c2]) → Gr [st] F H F (upd H2 st (.lst [.ref sc, .int k2, .int (c2 / many)])) ∧ StAt F (upd H2 st (.lst [.ref sc, .int k2, .int (c2 / many)])) st := fun k2 c2 H2 g e =>
      ⟨g.put out (.inr (by simp)), out, sc, k2, _, ns, upd_same, hsc⟩
    refine ⟨_, rfl, st, _, 2, _, rfl, rfl, SqL.of hst, atI_nat (j := 2) rfl, _, rfl, _, _, rfl, rfl, _, rfl, ite_b (fun h1 => ?_) (fun h1 => ?_)⟩
    · refine ⟨_, rfl, st, _, 0, _, rfl, rfl, SqL.of hst, atI_nat (j := 0) rfl, ?_⟩
      refine ⟨_, rfl, st, _, 1, _, rfl, rfl, SqL.of hst, atI_nat (j := 1) rfl, ?_⟩
      refine ⟨sc, k, ns, rfl, hF _ _ hsc, fun c1 => ?_⟩
      refine ⟨_, rfl, st, _, 2, 2, rfl, rfl, hst, rfl, ?_⟩
      have g1 := (Gr.refl (S := [st]) hF).put (o := .lst [.ref sc, .int k, .int c1]) out (.inr (by simp))
      refine ⟨_, rfl, st, _, 1, _, rfl, rfl, SqL.of (xs := [.ref sc, .int k, .int c1]) upd_same, atI_nat (j := 1) rfl, _, _, rfl, rfl, ?_⟩
      refine ⟨_, rfl, st, _, 1, 1, rfl, rfl, upd_same, rfl, ?_⟩
      rw [upd_upd]
      have g2 := (Gr.refl (S := [st]) hF).put (o := .lst [.ref sc, .int ((k + 1 : Nat) : Nat), .int c1]) out (.inr (by simp))
      refine ⟨_, rfl, st, _, 2, _, rfl, rfl, SqL.of (xs := [.ref sc, .int ((k + 1 : Nat) : Nat), .int c1]) upd_same, atI_nat (j := 2) rfl, .inl ⟨_, rfl, _, rfl, _, _, rfl, rfl, m0, ?_⟩⟩
      refine ⟨_, rfl, st, _, 2, _, rfl, rfl, SqL.of (xs := [.ref sc, .int ((k + 1 : Nat) : Nat), .int c1]) upd_same, atI_nat (j := 2) rfl, _, rfl, _, _, rfl, rfl, log40 m0 m1, ?_⟩
      refine ⟨_, rfl, st, _, 2, 2, rfl, rfl, upd_same, rfl, ?_⟩
      obtain ⟨z1, z2⟩ := last (k + 1) c1 _ g2 upd_same
      exact ⟨_, rfl, q _ _ z1 z2 (Int.emod_nonneg _ (by omega)) (Int.emod_lt_of_pos _ m0)⟩
    · refine ⟨_, rfl, st, _, 2, _, rfl, rfl, SqL.of hst, atI_nat (j := 2) rfl, .inl ⟨_, rfl, _, rfl, _, _, rfl, rfl, m0, ?_⟩⟩
      refine ⟨_, rfl, st, _, 2, _, rfl, rfl, SqL.of hst, atI_nat (j := 2) rfl, _, rfl, _, _, rfl, rfl, log40 m0 m1, ?_⟩
      refine ⟨_, rfl, st, _, 2, 2, rfl, rfl, hst, rfl, ?_⟩
      obtain ⟨z1, z2⟩ := last k c _ (Gr.refl hF) hst
      exact ⟨_, rfl, q _ _ z1 z2 (Int.emod_nonneg _ (by omega)) (Int.emod_lt_of_pos _ m0)⟩
end
end K94
/-! The law's schema, vectors, records. -/
namespace K94
open PySem PySem.Spec PyProof.Rows L2 LamX
/-- what is shown once of the rest of a body -/
theorem cut {c : TT} {a b t2 : TS} {D : Ends} {σ : L2.St} {H : Hp} (Post : L2.St → Hp → Prop) (h2 : ∀ σ' H', Post σ' H' → t2 D σ' H') (h1 : (∀ σ' H', Post σ' H' → t2 D σ' H') → tSeq (tIfS c a b) t2 D σ H) : tSeq (tIfS c a b) t2 D σ H := h1 h2
theorem StAt.frame {S : List Addr} {F H F' H' : Hp} {st : Addr} (h : StAt F H st) (g : Gr S F H F' H') (n : st ∉ S) : StAt F' H' st := by
  obtain ⟨sc, k, c, ns, h1, h2⟩ := h.ex
  exact ⟨g.out h1 h.out, sc, k, c, ns, g.keep _ _ h1 n, g.ff _ _ h2⟩
theorem StAt.upd_ {F H : Hp} {st p : Addr} {o : HO} (h : StAt F H st) (n : p ≠ st) : StAt F (upd H p o) st := by
  obtain ⟨sc, k, c, ns, h1, h2⟩ := h.ex
  exact ⟨h.out, sc, k, c, ns, by rw [upd_ne n.symm]; exact h1, h2⟩
theorem StAt.ne {F H : Hp} {st p : Addr} (h : StAt F H st) (n : H p = none) : p ≠ st := fun z => by
  obtain ⟨sc, k, c, ns, h1, h2⟩ := h.ex
  rw [z, h1] at n
  cases n
section
variable {P : Program} {w : World} {K : PySem.W.Frag} {mg : Str → Option Value} {base : Heap}
theorem sc_l_schema : FnScope ["_law_state", "_law_size", "_law_measure", "_law_width"] ["_law_state"] (defScope s_l_schema) := ⟨rfl, rfl, rfl, by decide +kernel, rfl, by decide +kernel, by decide +kernel⟩
def sp_l_schema (K : PySem.W.Frag) : Sp := fun vs H Q _ => ∃ (F : Hp) (st : Addr), vs = [.ref st] ∧ Same F H ∧ StAt F H st ∧ ∀ F' H' sa d, Gr [st] F H F' H' → StAt F' H' st → SchAt K F' sa d → d.Ok → Q (.ref sa) H'
theorem three {r : Int} (h0 : 0 ≤ r) (h1 : r < 3) : r = 0 ∨ r = 1 ∨ r = 2 := by omega
theorem ok_l_schema (T : Tx w K mg) : C8.Cal P w K mg base 5 "_law_schema" (sp_l_schema K) [] := by
  have c_l_next := ok_l_next (P := P) (base := base) T
  have c_Schema := mk_Schema (P := P) (base := base) T
  refine cal_mk (st := s_l_schema) T.d_l_schema T.g_l_schema sc_l_schema (fun _ _ _ _ _ _ us hl => match us, hl with | [_], _ => rfl) (fun vs H Q E h => ?_) (fun f cdv A outer s H vs Q E hr h => ?_)
  · obtain ⟨F, st, rfl, _⟩ := h
    rfl
  · obtain ⟨F, st, rfl, hF, hS, k⟩ := h
    refine ⟨_, (pss_cons (ps_set (i := 1) sc_l_schema.nd rfl (.inl rfl) (pe_op op_add pe_int (C8.pe_c c_l_next hr (by decide) (by rfl) (pa_cons (pv 0) (pa_cons pe_int pa_nil)))))
      (pss_cons (ps_set (i := 2) sc_l_schema.nd rfl (.inl rfl) (pe_ix ix_list (pe_lst (pa_cons pe_str (pa_cons pe_str (pa_cons pe_str pa_nil)))) (C8.pe_c c_l_next hr (by decide) (by rfl) (pa_cons (pv 0) (pa_cons pe_int pa_nil))) (fun _ _ => rfl)))
      (pss_cons (ps_set (i := 3) sc_l_schema.nd rfl (.inl rfl) pe_str)
      (pss_cons (ps_if (pt_cmpR op_eq (pv 2) pe_str (nomark _))
        (pss_one (ps_set (i := 3) sc_l_schema.nd rfl (.inl rfl) pe_str))
        pss_nil)
      (pss_one (ps_ret (pe_mkN c_Schema hr (by decide) (by rfl) (pa_cons (pv 1) pa_nil) (pk_cons (pv 3) (pk_cons (pv 2) (pk_cons (pe_tup (pa_cons (pe_tup (pa_cons pe_str (pa_cons pe_str pa_nil))) (pa_cons (pe_tup (pa_cons pe_str (pa_cons pe_str pa_nil))) pa_nil))) pk_nil)))))))))), ?_⟩
    refine ⟨_, rfl, F, st, 3, rfl, hF, hS, by decide, by decide, fun H1 r g1 hS1 r0 r1 => ⟨_, _, rfl, rfl, ?_⟩⟩
    refine ⟨(by show 3 ≤ sizeLine; decide), fun p np => ?_⟩
    have g2 := g1.made (o := .lst [V.str "square", V.str "dot", V.str "bits"]) np
    have hS2 : StAt F (upd H1 p (.lst [V.str "square", V.str "dot", V.str "bits"])) st := hS1.upd_ (hS1.ne np)
    refine ⟨_, rfl, F, st, 3, rfl, g2.fh, hS2, by decide, by decide, fun H3 m g3 hS3 m0 m1 => ?_⟩
    have hp3 := g3.keep _ _ (upd_same (H := H1) (a := p) (o := .lst [V.str "square", V.str "dot", V.str "bits"])) (by simp [hS1.ne np])
    have hm : ∃ me : Str, atI [V.str "square", V.str "dot", V.str "bits"] m = some (.str me) ∧ (me = "square" ∨ me = "dot" ∨ me = "bits") := by
      rcases three m0 m1 with rfl | rfl | rfl
      · exact ⟨_, atI_nat (j := 0) rfl, .inl rfl⟩
      · exact ⟨_, atI_nat (j := 1) rfl, .inr (.inl rfl)⟩
      · exact ⟨_, atI_nat (j := 2) rfl, .inr (.inr rfl)⟩
    obtain ⟨me, e1, e2⟩ := hm
    refine ⟨p, _, m, _, rfl, rfl, SqL.of hp3, e1, ?_⟩
    have g4 := g2.trans g3
    have fin : ∀ (wd : Str), SchD.Ok ⟨1 + r, wd, me⟩ → ∀ t1 t2 ft : Addr, H3 t1 = none → (upd H3 t1 (.tup [V.str "k", V.str "integer"])) t2 = none → (upd (upd H3 t1 (.tup [V.str "k", V.str "integer"])) t2 (.tup [V.str "t", V.str "text"])) ft = none →
        ∀ x dx, (upd (upd (upd H3 t1 (.tup [V.str "k", V.str "integer"])) t2 (.tup [V.str "t", V.str "text"])) ft (.tup [V.ref t1, V.ref t2])) x = none → (upd (upd (upd H3 t1 (.tup [V.str "k", V.str "integer"])) t2 (.tup [V.str "t", V.str "text"])) ft (.tup [V.ref t1, V.ref t2])) dx = none → dx ≠ x →
        sp_Schema_init K [.ref x, .int (1 + r), .str wd, .str me, .ref ft] (upd (upd (upd (upd (upd H3 t1 (.tup [V.str "k", V.str "integer"])) t2 (.tup [V.str "t", V.str "text"])) ft (.tup [V.ref t1, V.ref t2])) dx (.own x)) x (.ins (He.ga K "Schema") dx [])) (fun v H3 => v = .non ∧ Q (.ref x) H3) C8.E0 := by
      intro wd ok t1 t2 ft n1 n2 n3 x dx hx hd hne
      have s1 := same_new (o := .tup [V.str "k", V.str "integer"]) n1
      have s2 := same_app (o := .tup [V.str "t", V.str "text"]) s1 n2
      have s3 := same_app (o := .tup [V.ref t1, V.ref t2]) s2 n3
      have n12 : t1 ≠ t2 := fun z => by rw [← z, upd_same] at n2; cases n2
      have n13 : t1 ≠ ft := fun z => by rw [← z, upd_ne n12, upd_same] at n3; cases n3
      have n23 : t2 ≠ ft := fun z => by rw [← z, upd_same] at n3; cases n3
      have g5 := g4.samef s3
      refine ⟨F, _, x, dx, ft, t1, t2, ⟨1 + r, wd, me⟩, rfl, ok, g5.fh, hx, hd, hne, rfl, upd_same, ?_, ?_, fun F' H' g hs => ⟨rfl, ?_⟩⟩
      · rw [upd_ne n13, upd_ne n12, upd_same]
      · rw [upd_ne n23, upd_same]
      · have g6 := g5.trans (g.mono (by simp))
        have hS5 := hS3.frame (S := []) ((Gr.refl g4.fh).samef s3) (by simp)
        exact k F' H' x _ g6 (hS5.frame g (by simp)) hs ok
    by_cases hb : me = "bits"
    · refine ⟨_, rfl, rfl, _, rfl, ?_⟩
      rw [decide_eq_true (show V.str me = V.str "bits" by rw [hb])]
      refine iteT ⟨_, rfl, _, rfl, _, rfl, (by show 2 ≤ sizeLine; decide), fun t1 n1 => ⟨(by show 2 ≤ sizeLine; decide), fun t2 n2 => ⟨(by show 2 ≤ sizeLine; decide), fun ft n3 => ⟨rfl, rfl, fun x dx hx hd hne => ?_⟩⟩⟩⟩
      exact fin "bit" ⟨⟨by show 1 ≤ 1 + r; omega, by show 1 + r ≤ 3; omega⟩, .inl ⟨rfl, hb⟩⟩ t1 t2 ft n1 n2 n3 x dx hx hd hne
    · refine ⟨_, rfl, rfl, _, rfl, ?_⟩
      rw [decide_eq_false (show ¬ V.str me = V.str "bits" from fun z => hb (V.str.inj z))]
      refine iteF ⟨_, rfl, _, rfl, _, rfl, (by show 2 ≤ sizeLine; decide), fun t1 n1 => ⟨(by show 2 ≤ sizeLine; decide), fun t2 n2 => ⟨(by show 2 ≤ sizeLine; decide), fun ft n3 => ⟨rfl, rfl, fun x dx hx hd hne => ?_⟩⟩⟩⟩
      have e2' : me = "square" ∨ me = "dot" := by
        rcases e2 with z | z | z
        · exact .inl z
        · exact .inr z
        · exact absurd z hb
      exact fin "small" ⟨⟨by show 1 ≤ 1 + r; omega, by show 1 + r ≤ 3; omega⟩, .inr ⟨rfl, e2'⟩⟩ t1 t2 ft n1 n2 n3 x dx hx hd hne
/-! ### vectors -/
theorem sc_l_vector : FnScope ["_law_state", "_law_schema_here", "_law_k"] ["_law_state", "_law_schema_here"] (defScope s_l_vector) := ⟨rfl, rfl, rfl, by decide +kernel, rfl, by decide +kernel, by decide +kernel⟩
def sp_l_vector (K : PySem.W.Frag) : Sp := fun vs H Q _ => ∃ (F : Hp) (st sa : Addr) (d : SchD), vs = [.ref st, .ref sa] ∧ Same F H ∧ StAt F H st ∧ SchAt K F sa d ∧ d.Ok ∧ ∀ (H' : Hp) (p : Addr) (vec : List Int), Gr [st] F H F H' → StAt F H' st → H p = none → H' p = some (.lst (vec.map V.int)) → (vec.length : Int) = d.size → (∀ n ∈ vec, d.lo ≤ n ∧ n ≤ d.hi) → Q (.ref p) H'
theorem ok_l_vector (T : Tx w K mg) : C8.Cal P w K mg base 3 "_law_vector" (sp_l_vector K) [] := by
  have c_l_next := ok_l_next (P := P) (base := base) T
  refine cal_mk (st := s_l_vector) T.d_l_vector T.g_l_vector sc_l_vector (fun _ _ _ _ _ _ us hl => match us, hl with | [_, _], _ => rfl) (fun vs H Q E h => ?_) (fun f cdv A outer s H vs Q E hr h => ?_)
  · obtain ⟨F, st, sa, d, rfl, _⟩ := h
    rfl
  · obtain ⟨F, st, sa, d, rfl, hF, hS, hsa, ok, k⟩ := h
    obtain ⟨dx, ft, t1, t2, h1, h2, h3, h4⟩ := hsa.ex
    have h1' := hF _ _ h1
    have z1 := ok.size.1
    have z2 := ok.size.2
    have Pn : ∀ (D : Addr), H D = none → ∀ i : Nat, i < d.size.toNat → ∀ (H2 : Hp) (vec : List Int), Gr [st] F H F H2 → StAt F H2 st → H2 D = some (.lst (vec.map V.int)) → vec.length = i → (∀ n ∈ vec, d.lo ≤ n ∧ n ≤ d.hi) → ∀ v : Int, d.lo ≤ v → v ≤ d.hi → ∀ H3, Gr [st] F H2 F H3 → StAt F H3 st →
        ∃ acc, H3 D = some (.lst acc) ∧ acc.length < sizeLine ∧ ∃ vec' : List Int, Gr [st] F H F (upd H3 D (.lst (acc ++ [V.int v]))) ∧ StAt F (upd H3 D (.lst (acc ++ [V.int v]))) st ∧ (upd H3 D (.lst (acc ++ [V.int v]))) D = some (.lst (vec'.map V.int)) ∧ vec'.length = i + 1 ∧ ∀ n ∈ vec', d.lo ≤ n ∧ n ≤ d.hi := by
      intro D nD i hi H2 vec g hS2 hD hl hv v v0 v1 H3 g3 hS3
      have nDs : D ≠ st := hS.ne nD
      refine ⟨_, g3.keep _ _ hD (by simp [nDs]), lt1000 (by rw [List.length_map]; omega), vec ++ [v], (g.trans g3).put (hF.free nD) (.inl nD), hS3.upd_ nDs, ?_, ?_, ?_⟩
      · rw [upd_same, List.map_append]
        rfl
      · rw [List.length_append, hl]
        rfl
      · intro n hn
        rcases List.mem_append.mp hn with hn | hn
        · exact hv n hn
        · rw [List.mem_singleton.mp hn]
          exact ⟨v0, v1⟩
    have fin : ∀ (D : Addr), H D = none → ∀ (H2 : Hp) (vec : List Int), Gr [st] F H F H2 → StAt F H2 st → H2 D = some (.lst (vec.map V.int)) → vec.length = d.size.toNat → (∀ n ∈ vec, d.lo ≤ n ∧ n ≤ d.hi) → Q (.ref D) H2 := fun D nD H2 vec g hS2 hD hl hv => k H2 D vec g hS2 nD hD (by rw [hl]; omega) hv
    refine ⟨_, (pss_cons (ps_if (pt_cmpR op_eq (pe_fldK (K := K) rfl (pv 1) rfl) pe_str (nomark _))
        (pss_one (ps_ret (pe_lc (own := [("_law_k", 2)]) (g := gName 2) (tt := tYes) rfl sc_l_vector.nd (pi_range1 (by rfl) T.z_range (pa_cons (pe_fldK (K := K) rfl (pv 1) rfl) pa_nil)) (blkOk_by (N := ["_law_state", "_law_schema_here", "_law_k"]) (sc := defScope s_l_vector) (by decide +kernel)) (fun _ _ _ _ _ => pg_name (i := 2) sc_l_vector.nd rfl (.inl rfl)) (fun _ _ _ _ _ => pts_nil) (fun _ _ _ _ _ => (C8.pe_c c_l_next hr (by decide) (by rfl) (pa_cons (pv 0) (pa_cons pe_int pa_nil)))))))
        pss_nil)
      (pss_one (ps_ret (pe_lc (own := [("_law_k", 2)]) (g := gName 2) (tt := tYes) rfl sc_l_vector.nd (pi_range1 (by rfl) T.z_range (pa_cons (pe_fldK (K := K) rfl (pv 1) rfl) pa_nil)) (blkOk_by (N := ["_law_state", "_law_schema_here", "_law_k"]) (sc := defScope s_l_vector) (by decide +kernel)) (fun _ _ _ _ _ => pg_name (i := 2) sc_l_vector.nd rfl (.inl rfl)) (fun _ _ _ _ _ => pts_nil) (fun _ _ _ _ _ => (pe_op op_sub (C8.pe_c c_l_next hr (by decide) (by rfl) (pa_cons (pv 0) (pa_cons pe_int pa_nil))) pe_int)))))), ?_⟩
    refine ⟨_, rfl, sa, _, dx, _, _, rfl, h1', T.c_Schema, T.n_Schema_width, schF_width d ft, rfl, _, rfl, ?_⟩
    by_cases hb : d.width = "bit"
    · rw [decide_eq_true (show V.str d.width = V.str "bit" by rw [hb])]
      have lo : d.lo = 0 := if_pos hb
      have hi_ : d.hi = 1 := if_pos hb
      refine iteT ⟨_, rfl, sa, _, dx, _, _, rfl, h1', T.c_Schema, T.n_Schema_size, schF_size d ft, d.size, rfl, by omega, by omega, fun D nD => ?_⟩
      have nDs : D ≠ st := hS.ne nD
      refine lc_it walk_range (fun i H2 => ∃ vec : List Int, Gr [st] F H F H2 ∧ StAt F H2 st ∧ H2 D = some (.lst (vec.map V.int)) ∧ vec.length = i ∧ ∀ n ∈ vec, d.lo ≤ n ∧ n ≤ d.hi) ⟨[], (Gr.refl hF).made nD, hS.upd_ nDs, upd_same, rfl, fun n hn => by cases hn⟩ (fun _ _ _ _ => trivial) (fun i x H2 H3 hi p y => ?_) (fun H2 p => ?_)
      · obtain ⟨rfl, rfl⟩ := y
        obtain ⟨vec, g, hS2, hD, hl, hv⟩ := p
        refine ⟨rfl, lc_yes ?_⟩
        refine ⟨_, rfl, F, st, 2, rfl, g.fh, hS2, by decide, by decide, fun H4 v g4 hS4 v0 v1 => ?_⟩
        exact Pn D nD i hi _ vec g hS2 hD hl hv v (by omega) (by omega) H4 g4 hS4
      · obtain ⟨vec, g, hS2, hD, hl, hv⟩ := p
        exact fin D nD H2 vec g hS2 hD hl hv
    · rw [decide_eq_false (show ¬ V.str d.width = V.str "bit" from fun z => hb (V.str.inj z))]
      have lo : d.lo = -128 := if_neg hb
      have hi_ : d.hi = 127 := if_neg hb
      refine iteF ⟨_, rfl, sa, _, dx, _, _, rfl, h1', T.c_Schema, T.n_Schema_size, schF_size d ft, d.size, rfl, by omega, by omega, fun D nD => ?_⟩
      have nDs : D ≠ st := hS.ne nD
      refine lc_it walk_range (fun i H2 => ∃ vec : List Int, Gr [st] F H F H2 ∧ StAt F H2 st ∧ H2 D = some (.lst (vec.map V.int)) ∧ vec.length = i ∧ ∀ n ∈ vec, d.lo ≤ n ∧ n ≤ d.hi) ⟨[], (Gr.refl hF).made nD, hS.upd_ nDs, upd_same, rfl, fun n hn => by cases hn⟩ (fun _ _ _ _ => trivial) (fun i x H2 H3 hi p y => ?_) (fun H2 p => ?_)
      · obtain ⟨rfl, rfl⟩ := y
        obtain ⟨vec, g, hS2, hD, hl, hv⟩ := p
        refine ⟨rfl, lc_yes ?_⟩
        refine ⟨_, rfl, F, st, 9, rfl, g.fh, hS2, by decide, by decide, fun H4 v g4 hS4 v0 v1 => ⟨_, _, rfl, rfl, ?_⟩⟩
        exact Pn D nD i hi _ vec g hS2 hD hl hv (v - 4) (by omega) (by omega) H4 g4 hS4
      · obtain ⟨vec, g, hS2, hD, hl, hv⟩ := p
        exact fin D nD H2 vec g hS2 hD hl hv
end
end K94
/-! The law's records. -/
namespace K94
open PySem PySem.Spec PyProof.Rows L2 LamX
/-- a list that grows while draws are made -/
structure LP {α : Type} (At : Hp → Addr → α → Prop) (F H F1 H1 : Hp) (st fl : Addr) (xs : List α) : Prop where
  g : Gr [st] F H F1 H1
  hS : StAt F1 H1 st
  out : F1 fl = none
  ne : fl ≠ st
  h0 : H fl = none
  ls : ∃ as : List Addr, H1 fl = some (.lst (as.map V.ref)) ∧ Paired (At F1) as xs
section
variable {α : Type} {At : Hp → Addr → α → Prop} {F H F1 H1 F2 H2 : Hp} {st fl : Addr} {xs : List α}
theorem LP.start (g : Gr [st] F H F1 H1) (hS : StAt F1 H1 st) (n : H1 fl = none) : LP At F H F1 (upd H1 fl (.lst [])) st fl [] :=
  ⟨g.made n, hS.upd_ (hS.ne n), g.f0none n, hS.ne n, g.h0none n, [], upd_same, .nil⟩
theorem LP.next (h : LP At F H F1 H1 st fl xs) (g : Gr [st] F1 H1 F1 H2) (hS : StAt F1 H2 st) : LP At F H F1 H2 st fl xs := by
  obtain ⟨as, e1, e2⟩ := h.ls
  exact ⟨h.g.trans g, hS, h.out, h.ne, h.h0, as, g.keep _ _ e1 (by simp [h.ne]), e2⟩
theorem LP.same (h : LP At F H F1 H1 st fl xs) (s : Same H1 H2) : LP At F H F1 H2 st fl xs := h.next ((Gr.refl h.g.fh).samef s) (h.hS.frame (S := []) ((Gr.refl h.g.fh).samef s) (by simp))
theorem LP.push (mono : ∀ (F F' : Hp) (p : Addr) (b : α), Same F F' → At F p b → At F' p b) (h : LP At F H F1 H1 st fl xs) {t : Addr} {o : HO} (ho : NoTab o) (nt : H1 t = none) {x : α} (at_ : At (upd F1 t o) t x) {as : List Addr} (e1 : H1 fl = some (.lst (as.map V.ref))) (e2 : Paired (At F1) as xs) :
    LP At F H (upd F1 t o) (upd (upd H1 t o) fl (.lst (as.map V.ref ++ [V.ref t]))) st fl (xs ++ [x]) := by
  have g2 := h.g.new_ (o := o) nt ho
  have ntf : fl ≠ t := ne_of_none e1 nt
  have nf : (upd F1 t o) fl = none := by rw [upd_ne ntf]; exact h.out
  have hS2 : StAt (upd F1 t o) (upd H1 t o) st := h.hS.frame (S := []) ((Gr.refl h.g.fh).new_ nt ho) (by simp)
  refine ⟨g2.put nf (.inl h.h0), hS2.upd_ h.ne, nf, h.ne, h.h0, as ++ [t], ?_, paired_append (Paired.mono (fun _ _ z => mono _ _ _ _ (same_new (h.g.fh.free nt)) z) e2) (.cons at_ .nil)⟩
  rw [upd_same, List.map_append]
  rfl
/-- the other list stays -/
theorem LP.stay {wl : Addr} (mono : ∀ (F F' : Hp) (p : Addr) (b : α), Same F F' → At F p b → At F' p b) (h : LP At F H F1 H1 st fl xs) (g1 : Gr [st] F H F2 H2) (hS2 : StAt F2 H2 st) (g : Gr [st, wl] F1 H1 F2 H2) (n : fl ≠ wl) : LP At F H F2 H2 st fl xs := by
  obtain ⟨as, e1, e2⟩ := h.ls
  exact ⟨g1, hS2, g.out e1 h.out, h.ne, h.h0, as, g.keep _ _ e1 (by simp [h.ne, n]), Paired.mono (fun _ _ z => mono _ _ _ _ g.ff z) e2⟩
end
theorem FAt.mono_ (F F' : Hp) (p : Addr) (b : Str × FV) (s : Same F F') (h : FAt F p b) : FAt F' p b := s _ _ h
theorem WAt.mono_ (F F' : Hp) (p : Addr) (b : Str × Int) (s : Same F F') (h : WAt F p b) : WAt F' p b := s _ _ h
section
variable {P : Program} {w : World} {K : PySem.W.Frag} {mg : Str → Option Value} {base : Heap}
theorem sc_l_record : FnScope ["_law_state", "_law_schema_here", "_law_name", "_law_fields", "_law_words"] ["_law_state", "_law_schema_here", "_law_name"] (defScope s_l_record) := ⟨rfl, rfl, rfl, by decide +kernel, rfl, by decide +kernel, by decide +kernel⟩
def sp_l_record (K : PySem.W.Frag) : Sp := fun vs H Q _ => ∃ (F : Hp) (st sa : Addr) (d : SchD) (nm : Str), vs = [.ref st, .ref sa, .str nm] ∧ nm ≠ "" ∧ nm.length ≤ 20 ∧ Same F H ∧ StAt F H st ∧ SchAt K F sa d ∧ d.Ok ∧ ∀ (F' H' : Hp) (ra : Addr) (r : Rec), Gr [st] F H F' H' → StAt F' H' st → RecAt K F' ra r → RecOk d r → Small r → r.name = nm → Q (.ref ra) H'
theorem ok_l_record (T : Tx w K mg) : C8.Cal P w K mg base 4 "_law_record" (sp_l_record K) [] := by
  have c_l_next := ok_l_next (P := P) (base := base) T
  have c_l_vector := ok_l_vector (P := P) (base := base) T
  have c_Record := mk_Record (P := P) (base := base) T
  refine cal_mk (st := s_l_record) T.d_l_record T.g_l_record sc_l_record (fun _ _ _ _ _ _ us hl => match us, hl with | [_, _, _], _ => rfl) (fun vs H Q E h => ?_) (fun f cdv A outer s H vs Q E hr h => ?_)
  · obtain ⟨F, st, sa, d, nm, rfl, _⟩ := h
    rfl
  · obtain ⟨F, st, sa, d, nm, rfl, nne, nlen, hF, hS, hsa, ok, k⟩ := h
    refine ⟨_, (pss_cons (ps_set (i := 3) sc_l_record.nd rfl (.inl rfl) (pe_lst pa_nil))
      (pss_cons (ps_if (pt_cmpR op_gt (C8.pe_c c_l_next hr (by decide) (by rfl) (pa_cons (pv 0) (pa_cons pe_int pa_nil))) pe_int (nomark _))
        (pss_one (ps_expr (pe_bm PySem.F.plainAttrs_list PySem.F.slot_list_append PySem.F.type_list_append mt_append (pv 3) (pa_cons (pe_tup (pa_cons pe_str (pa_cons (C8.pe_c c_l_next hr (by decide) (by rfl) (pa_cons (pv 0) (pa_cons pe_int pa_nil))) pa_nil))) pa_nil))))
        pss_nil)
      (pss_cons (ps_if (pt_cmpR op_gt (C8.pe_c c_l_next hr (by decide) (by rfl) (pa_cons (pv 0) (pa_cons pe_int pa_nil))) pe_int (nomark _))
        (pss_one (ps_expr (pe_bm PySem.F.plainAttrs_list PySem.F.slot_list_append PySem.F.type_list_append mt_append (pv 3) (pa_cons (pe_tup (pa_cons pe_str (pa_cons (pe_ix ix_list (pe_lst (pa_cons pe_str (pa_cons pe_str (pa_cons pe_str pa_nil)))) (C8.pe_c c_l_next hr (by decide) (by rfl) (pa_cons (pv 0) (pa_cons pe_int pa_nil))) (fun _ _ => rfl)) pa_nil))) pa_nil))))
        pss_nil)
      (pss_cons (ps_set (i := 4) sc_l_record.nd rfl (.inl rfl) (pe_lst pa_nil))
      (pss_cons (ps_if (pt_cmpR op_gt (C8.pe_c c_l_next hr (by decide) (by rfl) (pa_cons (pv 0) (pa_cons pe_int pa_nil))) pe_int (nomark _))
        (pss_one (ps_expr (pe_bm PySem.F.plainAttrs_list PySem.F.slot_list_append PySem.F.type_list_append mt_append (pv 4) (pa_cons (pe_tup (pa_cons pe_str (pa_cons (pe_op op_add pe_int (C8.pe_c c_l_next hr (by decide) (by rfl) (pa_cons (pv 0) (pa_cons pe_int pa_nil)))) pa_nil))) pa_nil))))
        pss_nil)
      (pss_cons (ps_if (pt_cmpR op_gt (C8.pe_c c_l_next hr (by decide) (by rfl) (pa_cons (pv 0) (pa_cons pe_int pa_nil))) pe_int (nomark _))
        (pss_one (ps_expr (pe_bm PySem.F.plainAttrs_list PySem.F.slot_list_append PySem.F.type_list_append mt_append (pv 4) (pa_cons (pe_tup (pa_cons pe_str (pa_cons (pe_op op_add pe_int (C8.pe_c c_l_next hr (by decide) (by rfl) (pa_cons (pv 0) (pa_cons pe_int pa_nil)))) pa_nil))) pa_nil))))
        pss_nil)
      (pss_one (ps_ret (pe_mkN c_Record hr (by decide) (by rfl) (pa_cons (pv 2) (pa_cons (C8.pe_c c_l_vector hr (by decide) (by rfl) (pa_cons (pv 0) (pa_cons (pv 1) pa_nil))) pa_nil)) (pk_cons (pv 3) (pk_cons (pv 4) pk_nil))))))))))), ?_⟩
    refine ⟨Nat.zero_le _, fun fl nfl => ?_⟩
    have h0 := LP.start (At := FAt) (Gr.refl (S := [st]) hF) hS nfl
    dsimp only [gName]
    refine cut (fun σ' H' => ∃ (F1 : Hp) (fs : List (Str × FV)), LP FAt F H F1 H' st fl fs ∧ (fs = [] ∨ ∃ n : Int, fs = [(("k" : Str), FV.i n)]) ∧ σ' = [some (.ref st), some (.ref sa), some (.str nm), some (.ref fl), none]) ?_ (fun rest => ?_)
    rotate_left
    · refine ⟨_, rfl, F, st, 3, rfl, h0.g.fh, h0.hS, by decide, by decide, fun H1 r g1 hS1 _ _ => ⟨_, _, rfl, rfl, _, rfl, ite_b (fun _ => ?_) (fun _ => ?_)⟩⟩
      · have h1 := h0.next g1 hS1
        obtain ⟨as, e1, e2⟩ := h1.ls
        refine ⟨_, rfl, .inl ⟨rfl, _, SqL.of e1⟩, _, rfl, F, st, 5, rfl, h1.g.fh, h1.hS, by decide, by decide, fun H2 v g2 hS2 _ _ => ⟨(by show 2 ≤ sizeLine; decide), fun t nt => ?_⟩⟩
        have h2 := h1.next g2 hS2
        have e1' := g2.keep _ _ e1 (by simp [h1.ne])
        cases e2
        refine ⟨fl, _, _, rfl, rfl, same_new nt _ _ e1', (by show 0 < sizeLine; decide), ?_⟩
        have h3 := h2.push (x := (("k" : Str), FV.i v)) FAt.mono_ (o := .tup [V.str "k", V.int v]) (fun _ h => by cases h) nt upd_same (as := []) e1' .nil
        exact rest _ _ ⟨_, _, h3, .inr ⟨v, rfl⟩, rfl⟩
      · exact rest _ _ ⟨_, _, h0.next g1 hS1, .inl rfl, rfl⟩
    rintro σ1 H1 ⟨F1, fs, h1, hfs, rfl⟩
    refine cut (fun σ' H' => ∃ (F1 : Hp) (fs : List (Str × FV)), LP FAt F H F1 H' st fl fs ∧ FieldsOk fs ∧ (∀ q ∈ fs, q.1.length ≤ 20 ∧ ∀ x, q.2 = .s x → x.length ≤ 20) ∧ fs.length ≤ 2 ∧ σ' = [some (.ref st), some (.ref sa), some (.str nm), some (.ref fl), none]) ?_ (fun rest => ?_)
    rotate_left
    · refine ⟨_, rfl, F1, st, 2, rfl, h1.g.fh, h1.hS, by decide, by decide, fun H2 r g2 hS2 _ _ => ⟨_, _, rfl, rfl, _, rfl, ite_b (fun _ => ?_) (fun _ => ?_)⟩⟩
      · have h2 := h1.next g2 hS2
        obtain ⟨as, e1, e2⟩ := h2.ls
        have lf : fs.length ≤ 1 := by
          rcases hfs with rfl | ⟨n, rfl⟩
          · exact Nat.zero_le _
          · exact Nat.le_refl _
        refine ⟨_, rfl, .inl ⟨rfl, _, SqL.of e1⟩, (by show 3 ≤ sizeLine; decide), fun p np => ?_⟩
        have h3 := h2.same (same_new (o := .lst [V.str "x", V.str "y", V.str "zz"]) np)
        refine ⟨_, rfl, F1, st, 3, rfl, h3.g.fh, h3.hS, by decide, by decide, fun H4 m g4 hS4 m0 m1 => ?_⟩
        have h4 := h3.next g4 hS4
        have hp4 := g4.keep _ _ (upd_same (H := H2) (a := p) (o := .lst [V.str "x", V.str "y", V.str "zz"])) (by simp [hS2.ne np])
        have hm : ∃ x : Str, atI [V.str "x", V.str "y", V.str "zz"] m = some (.str x) ∧ x.length ≤ 20 := by
          rcases three m0 m1 with rfl | rfl | rfl
          · exact ⟨_, atI_nat (j := 0) rfl, by decide⟩
          · exact ⟨_, atI_nat (j := 1) rfl, by decide⟩
          · exact ⟨_, atI_nat (j := 2) rfl, by decide⟩
        obtain ⟨x, x1, x2⟩ := hm
        refine ⟨p, _, m, _, rfl, rfl, SqL.of hp4, x1, (by show 2 ≤ sizeLine; decide), fun t nt => ?_⟩
        have e1' : H4 fl = some (.lst (as.map V.ref)) := g4.keep _ _ (same_new np _ _ e1) (by simp [h2.ne])
        have la := e2.length
        refine ⟨fl, _, _, rfl, rfl, same_new nt _ _ e1', lt1000 (by rw [List.length_map]; omega), ?_⟩
        have h5 := h4.push (x := (("t" : Str), FV.s x)) FAt.mono_ (o := .tup [V.str "t", V.str x]) (fun _ h => by cases h) nt upd_same e1' e2
        refine rest _ _ ⟨_, _, h5, ?_, ?_, ?_, rfl⟩
        · rcases hfs with rfl | ⟨n, rfl⟩
          · exact .t x
          · exact .kt n x
        · intro q hq
          rcases List.mem_append.mp hq with hq | hq
          · rcases hfs with rfl | ⟨n, rfl⟩
            · cases hq
            · rw [List.mem_singleton.mp hq]
              exact ⟨(show ("k" : Str).length ≤ 20 by decide), fun y z => by cases z⟩
          · rw [List.mem_singleton.mp hq]
            exact ⟨(show ("t" : Str).length ≤ 20 by decide), fun y z => by cases z; exact x2⟩
        · rw [List.length_append]
          exact Nat.succ_le_succ lf
      · refine rest _ _ ⟨_, _, h1.next g2 hS2, ?_, ?_, ?_, rfl⟩
        · rcases hfs with rfl | ⟨n, rfl⟩
          · exact .nil
          · exact .k n
        · intro q hq
          rcases hfs with rfl | ⟨n, rfl⟩
          · cases hq
          · rw [List.mem_singleton.mp hq]
            exact ⟨(show ("k" : Str).length ≤ 20 by decide), fun y z => by cases z⟩
        · rcases hfs with rfl | ⟨n, rfl⟩
          · exact Nat.zero_le _
          · exact (show 1 ≤ 2 by decide)
    rintro σ2 H2 ⟨F2, fs2, h2, fok, fsz, fln, rfl⟩
    refine ⟨Nat.zero_le _, fun wl nwl => ?_⟩
    have nfw : fl ≠ wl := fun z => by
      obtain ⟨as, e1, _⟩ := h2.ls
      rw [← z, e1] at nwl
      cases nwl
    have w0 := LP.start (At := WAt) h2.g h2.hS nwl
    have f0 : LP FAt F H F2 (upd H2 wl (.lst [])) st fl fs2 := h2.same (same_new nwl)
    dsimp only [gName]
    refine cut (fun σ' H' => ∃ (F1 : Hp) (ws : List (Str × Int)), LP FAt F H F1 H' st fl fs2 ∧ LP WAt F H F1 H' st wl ws ∧ (ws = [] ∨ ∃ n : Int, 1 ≤ n ∧ ws = [(("u" : Str), n)]) ∧ σ' = [some (.ref st), some (.ref sa), some (.str nm), some (.ref fl), some (.ref wl)]) ?_ (fun rest => ?_)
    rotate_left
    · refine ⟨_, rfl, F2, st, 2, rfl, w0.g.fh, w0.hS, by decide, by decide, fun H3 r g3 hS3 _ _ => ⟨_, _, rfl, rfl, _, rfl, ite_b (fun _ => ?_) (fun _ => ?_)⟩⟩
      · have w1 := w0.next g3 hS3
        have f1 := f0.next g3 hS3
        obtain ⟨as, e1, e2⟩ := w1.ls
        refine ⟨_, rfl, .inl ⟨rfl, _, SqL.of e1⟩, _, rfl, F2, st, 3, rfl, w1.g.fh, w1.hS, by decide, by decide, fun H4 v g4 hS4 v0 _ => ⟨_, _, rfl, rfl, (by show 2 ≤ sizeLine; decide), fun t nt => ?_⟩⟩
        have w2 := w1.next g4 hS4
        have f2 := f1.next g4 hS4
        have e1' := g4.keep _ _ e1 (by simp [w1.ne])
        cases e2
        refine ⟨wl, _, _, rfl, rfl, same_new nt _ _ e1', (by show 0 < sizeLine; decide), ?_⟩
        have w3 := w2.push (x := (("u" : Str), 1 + v)) WAt.mono_ (o := .tup [V.str "u", V.int (1 + v)]) (fun _ h => by cases h) nt upd_same (as := []) e1' .nil
        have gx : Gr [st, wl] F2 H4 (upd F2 t (.tup [V.str "u", V.int (1 + v)])) (upd (upd H4 t (.tup [V.str "u", V.int (1 + v)])) wl (.lst (([] : List Addr).map V.ref ++ [V.ref t]))) := ((Gr.refl w2.g.fh).new_ nt).put (by rw [upd_ne (ne_of_none e1' nt)]; exact w2.out) (.inr (by simp))
        exact rest _ _ ⟨_, _, f2.stay FAt.mono_ w3.g w3.hS gx nfw, w3, .inr ⟨1 + v, by omega, rfl⟩, rfl⟩
      · exact rest _ _ ⟨_, _, f0.next g3 hS3, w0.next g3 hS3, .inl rfl, rfl⟩
    rintro σ3 H3 ⟨F3, ws, f3, w3, hws, rfl⟩
    refine cut (fun σ' H' => ∃ (F1 : Hp) (ws : List (Str × Int)), LP FAt F H F1 H' st fl fs2 ∧ LP WAt F H F1 H' st wl ws ∧ wordsOk "" ws ∧ (∀ q ∈ ws, q.1.length ≤ 20) ∧ ws.length ≤ 2 ∧ σ' = [some (.ref st), some (.ref sa), some (.str nm), some (.ref fl), some (.ref wl)]) ?_ (fun rest => ?_)
    rotate_left
    · refine ⟨_, rfl, F3, st, 3, rfl, w3.g.fh, w3.hS, by decide, by decide, fun H4 r g4 hS4 _ _ => ⟨_, _, rfl, rfl, _, rfl, ite_b (fun _ => ?_) (fun _ => ?_)⟩⟩
      · have w4 := w3.next g4 hS4
        have f4 := f3.next g4 hS4
        have lw : ws.length ≤ 1 := by
          rcases hws with rfl | ⟨n, _, rfl⟩
          · exact Nat.zero_le _
          · exact Nat.le_refl _
        obtain ⟨as, e1, e2⟩ := w4.ls
        have la := e2.length
        refine ⟨_, rfl, .inl ⟨rfl, _, SqL.of e1⟩, _, rfl, F3, st, 20, rfl, w4.g.fh, w4.hS, by decide, by decide, fun H5 v g5 hS5 v0 _ => ⟨_, _, rfl, rfl, (by show 2 ≤ sizeLine; decide), fun t nt => ?_⟩⟩
        have w5 := w4.next g5 hS5
        have f5 := f4.next g5 hS5
        have e1' := g5.keep _ _ e1 (by simp [w4.ne])
        refine ⟨wl, _, _, rfl, rfl, same_new nt _ _ e1', lt1000 (by rw [List.length_map]; omega), ?_⟩
        have w6 := w5.push (x := (("v" : Str), 1 + v)) WAt.mono_ (o := .tup [V.str "v", V.int (1 + v)]) (fun _ h => by cases h) nt upd_same e1' e2
        have gx : Gr [st, wl] F3 H5 (upd F3 t (.tup [V.str "v", V.int (1 + v)])) (upd (upd H5 t (.tup [V.str "v", V.int (1 + v)])) wl (.lst (as.map V.ref ++ [V.ref t]))) := ((Gr.refl w5.g.fh).new_ nt).put (by rw [upd_ne (ne_of_none e1' nt)]; exact w5.out) (.inr (by simp))
        refine rest _ _ ⟨_, _, f5.stay FAt.mono_ w6.g w6.hS gx nfw, w6, ?_, ?_, ?_, rfl⟩
        · rcases hws with rfl | ⟨n, hn, rfl⟩
          · exact ⟨by decide +kernel, by omega, True.intro⟩
          · exact ⟨by decide +kernel, hn, by decide +kernel, by omega, True.intro⟩
        · intro q hq
          rcases List.mem_append.mp hq with hq | hq
          · rcases hws with rfl | ⟨n, _, rfl⟩
            · cases hq
            · rw [List.mem_singleton.mp hq]
              exact (show ("u" : Str).length ≤ 20 by decide)
          · rw [List.mem_singleton.mp hq]
            exact (show ("v" : Str).length ≤ 20 by decide)
        · rw [List.length_append]
          exact Nat.succ_le_succ lw
      · refine rest _ _ ⟨_, _, f3.next g4 hS4, w3.next g4 hS4, ?_, ?_, ?_, rfl⟩
        · rcases hws with rfl | ⟨n, hn, rfl⟩
          · exact True.intro
          · exact ⟨by decide +kernel, hn, True.intro⟩
        · intro q hq
          rcases hws with rfl | ⟨n, _, rfl⟩
          · cases hq
          · rw [List.mem_singleton.mp hq]
            exact (show ("u" : Str).length ≤ 20 by decide)
        · rcases hws with rfl | ⟨n, _, rfl⟩
          · exact Nat.zero_le _
          · exact (show 1 ≤ 2 by decide)
    rintro σ4 H4 ⟨F4, ws4, f4, w4, wok, wsz, wln, rfl⟩
    refine ⟨_, rfl, _, rfl, _, rfl, F4, st, sa, d, rfl, f4.g.fh, f4.hS, hsa.mono f4.g.ff, ok, fun H5 vp vec g5 hS5 nvp hvp vl vv => ?_⟩
    have f5 := f4.next g5 hS5
    have w5 := w4.next g5 hS5
    obtain ⟨fas, a1, a2⟩ := f5.ls
    obtain ⟨was, b1, b2⟩ := w5.ls
    have z := ok.size.2
    refine ⟨_, rfl, _, rfl, rfl, rfl, fun x dx hx hd hne => ?_⟩
    refine ⟨F4, H5, x, dx, vp, fl, wl, fas, was, ⟨nm, vec, fs2, ws4⟩, rfl, ⟨nlen, by show vec.length ≤ 20; omega, by show fs2.length ≤ 20; omega, by show ws4.length ≤ 20; omega, fsz, wsz⟩, f5.g.fh, hx, hd, hne, rfl, hvp, a1, a2, b1, b2, fun F' H' g hR => ⟨rfl, ?_⟩⟩
    exact k F' H' x _ (f5.g.trans (g.mono (by simp))) (hS5.frame g (by simp)) hR ⟨nne, vl, vv, fok, wok⟩ ⟨nlen, by show vec.length ≤ 20; omega, by show fs2.length ≤ 20; omega, by show ws4.length ≤ 20; omega, fsz, wsz⟩ rfl
end
end K94
/-! The plain model's state. -/
namespace K94
open PySem PySem.Spec PyProof.Rows L2 LamX
theorem pe_c0 {X : Cx} {k j : Nat} {x : Str} {sp : Sp} {p pos : Pos} (c : C8.Cal X.prog X.w X.K X.mg X.base k x sp []) (hr : Room j X.A) (hk : k ≤ j) (hg : Gl X x) (hdb : (x == ("__debug__" : Str)) = false := by decide) : PE X (.Call (.Name x p) [] [] pos) (tCall sp [] C8.E0 tNil) := by
  obtain ⟨f, fd, ps, ds, F, hm, kp, b, d⟩ := c.ex
  exact pe_call0 F (hr.mono hk) hg hm kp b d C8.pass0 hdb
structure MS where
  now : Int
  floor : Int
  pins : List Int
  notes : List NoteD
  segs : List SegD
  up : Int
  routes : List (Str × Int)
  closed : List (Int × (Int × Int))
  begins : Int
def modK (now : Int) (floor : Int) (pa : Addr) (na : Addr) (sa : Addr) (up : Int) (ra : Addr) (ca : Addr) (b : Int) : List (Key × V) := [(.inr "now", .int now), (.inr "floor", .int floor), (.inr "pins", .ref pa), (.inr "notes", .ref na), (.inr "segments", .ref sa), (.inr "upcoming", .int up), (.inr "routes", .ref ra), (.inr "closed", .ref ca), (.inr "begins", .int b)]
section
variable {H : Hp} {m : Addr} {now : Int} {floor : Int} {pa : Addr} {na : Addr} {sa : Addr} {up : Int} {ra : Addr} {ca : Addr} {b : Int}
variable (hm : H m = some (.dK (modK now floor pa na sa up ra ca b)))
include hm
theorem dg_now : DGet H m (.str "now") (some (.int now)) := .inl ⟨_, .inr "now", .inl hm, rfl, by kernel_rfl⟩
theorem dp_now {x : Int} : DPut H m (.str "now") (.int x) (upd H m (.dK (modK x floor pa na sa up ra ca b))) := .inl ⟨_, .inr "now", hm, rfl, (by show 9 < sizeLine; decide), congrArg (fun z => upd H m (.dK z)) (show modK x floor pa na sa up ra ca b = putK (modK now floor pa na sa up ra ca b) (.inr "now") (.int x) by kernel_rfl)⟩
theorem dg_floor : DGet H m (.str "floor") (some (.int floor)) := .inl ⟨_, .inr "floor", .inl hm, rfl, by kernel_rfl⟩
theorem dp_floor {x : Int} : DPut H m (.str "floor") (.int x) (upd H m (.dK (modK now x pa na sa up ra ca b))) := .inl ⟨_, .inr "floor", hm, rfl, (by show 9 < sizeLine; decide), congrArg (fun z => upd H m (.dK z)) (show modK now x pa na sa up ra ca b = putK (modK now floor pa na sa up ra ca b) (.inr "floor") (.int x) by kernel_rfl)⟩
theorem dg_pins : DGet H m (.str "pins") (some (.ref pa)) := .inl ⟨_, .inr "pins", .inl hm, rfl, by kernel_rfl⟩
theorem dp_pins {x : Addr} : DPut H m (.str "pins") (.ref x) (upd H m (.dK (modK now floor x na sa up ra ca b))) := .inl ⟨_, .inr "pins", hm, rfl, (by show 9 < sizeLine; decide), congrArg (fun z => upd H m (.dK z)) (show modK now floor x na sa up ra ca b = putK (modK now floor pa na sa up ra ca b) (.inr "pins") (.ref x) by kernel_rfl)⟩
theorem dg_notes : DGet H m (.str "notes") (some (.ref na)) := .inl ⟨_, .inr "notes", .inl hm, rfl, by kernel_rfl⟩
theorem dp_notes {x : Addr} : DPut H m (.str "notes") (.ref x) (upd H m (.dK (modK now floor pa x sa up ra ca b))) := .inl ⟨_, .inr "notes", hm, rfl, (by show 9 < sizeLine; decide), congrArg (fun z => upd H m (.dK z)) (show modK now floor pa x sa up ra ca b = putK (modK now floor pa na sa up ra ca b) (.inr "notes") (.ref x) by kernel_rfl)⟩
theorem dg_segments : DGet H m (.str "segments") (some (.ref sa)) := .inl ⟨_, .inr "segments", .inl hm, rfl, by kernel_rfl⟩
theorem dp_segments {x : Addr} : DPut H m (.str "segments") (.ref x) (upd H m (.dK (modK now floor pa na x up ra ca b))) := .inl ⟨_, .inr "segments", hm, rfl, (by show 9 < sizeLine; decide), congrArg (fun z => upd H m (.dK z)) (show modK now floor pa na x up ra ca b = putK (modK now floor pa na sa up ra ca b) (.inr "segments") (.ref x) by kernel_rfl)⟩
theorem dg_upcoming : DGet H m (.str "upcoming") (some (.int up)) := .inl ⟨_, .inr "upcoming", .inl hm, rfl, by kernel_rfl⟩
theorem dp_upcoming {x : Int} : DPut H m (.str "upcoming") (.int x) (upd H m (.dK (modK now floor pa na sa x ra ca b))) := .inl ⟨_, .inr "upcoming", hm, rfl, (by show 9 < sizeLine; decide), congrArg (fun z => upd H m (.dK z)) (show modK now floor pa na sa x ra ca b = putK (modK now floor pa na sa up ra ca b) (.inr "upcoming") (.int x) by kernel_rfl)⟩
theorem dg_routes : DGet H m (.str "routes") (some (.ref ra)) := .inl ⟨_, .inr "routes", .inl hm, rfl, by kernel_rfl⟩
theorem dp_routes {x : Addr} : DPut H m (.str "routes") (.ref x) (upd H m (.dK (modK now floor pa na sa up x ca b))) := .inl ⟨_, .inr "routes", hm, rfl, (by show 9 < sizeLine; decide), congrArg (fun z => upd H m (.dK z)) (show modK now floor pa na sa up x ca b = putK (modK now floor pa na sa up ra ca b) (.inr "routes") (.ref x) by kernel_rfl)⟩
theorem dg_closed : DGet H m (.str "closed") (some (.ref ca)) := .inl ⟨_, .inr "closed", .inl hm, rfl, by kernel_rfl⟩
theorem dp_closed {x : Addr} : DPut H m (.str "closed") (.ref x) (upd H m (.dK (modK now floor pa na sa up ra x b))) := .inl ⟨_, .inr "closed", hm, rfl, (by show 9 < sizeLine; decide), congrArg (fun z => upd H m (.dK z)) (show modK now floor pa na sa up ra x b = putK (modK now floor pa na sa up ra ca b) (.inr "closed") (.ref x) by kernel_rfl)⟩
theorem dg_begins : DGet H m (.str "begins") (some (.int b)) := .inl ⟨_, .inr "begins", .inl hm, rfl, by kernel_rfl⟩
theorem dp_begins {x : Int} : DPut H m (.str "begins") (.int x) (upd H m (.dK (modK now floor pa na sa up ra ca x))) := .inl ⟨_, .inr "begins", hm, rfl, (by show 9 < sizeLine; decide), congrArg (fun z => upd H m (.dK z)) (show modK now floor pa na sa up ra ca x = putK (modK now floor pa na sa up ra ca b) (.inr "begins") (.int x) by kernel_rfl)⟩
end
/-- the model stands at m -/
structure MAt (K : PySem.W.Frag) (F H : Hp) (m : Addr) (ms : MS) : Prop where
  out : F m = none
  ex : ∃ pa na sa ra ca, H m = some (.dK (modK ms.now ms.floor pa na sa ms.up ra ca ms.begins)) ∧ F pa = some (.lst (ms.pins.map V.int)) ∧ LsAt F (MNoteAt K F) na ms.notes ∧ LsAt F (MSegAt F) sa ms.segs ∧ LsAt F (RtAt F) ra ms.routes ∧ LsAt F (ClAt F) ca ms.closed
theorem MAt.frame {K : PySem.W.Frag} {S : List Addr} {F H F' H' : Hp} {m : Addr} {ms : MS} (h : MAt K F H m ms) (g : Gr S F H F' H') (n : m ∉ S) : MAt K F' H' m ms := by
  obtain ⟨pa, na, sa, ra, ca, h1, h2, h3, h4, h5, h6⟩ := h.ex
  exact ⟨g.out h1 h.out, pa, na, sa, ra, ca, g.keep _ _ h1 n, g.ff _ _ h2, h3.mono g.ff fun _ _ e => e.mono g.ff, h4.mono g.ff fun _ _ e => e.mono g.ff, h5.mono g.ff fun _ _ e => e.mono g.ff, h6.mono g.ff fun _ _ e => e.mono g.ff⟩
theorem MAt.ne {K : PySem.W.Frag} {F H : Hp} {m p : Addr} {ms : MS} (h : MAt K F H m ms) (n : H p = none) : p ≠ m := fun z => by
  obtain ⟨pa, na, sa, ra, ca, h1, _⟩ := h.ex
  rw [z, h1] at n
  cases n
structure MS.Fit (ms : MS) : Prop where
  pins : ms.pins.length ≤ 1000
  notes : ms.notes.length ≤ 1000
  segs : ms.segs.length ≤ 1000
  closed : ms.closed.length ≤ 1000
  routes : ms.routes.length ≤ 1000
  floor : 0 ≤ ms.floor ∧ ms.floor ≤ 1000
  now : 0 ≤ ms.now ∧ ms.now ≤ 1000
/-! ### what the model does -/
def keptM (ms : MS) : List Int := ms.pins ++ (List.range (ms.now + 1 - ms.floor).toNat).map fun (i : Nat) => ms.floor + (i : Int)
def aliveM (ms : MS) (nd : NoteD) : Bool := (keptM ms).any fun m => livesAt nd.num nd.died m
def ownedBy (ns : List NoteD) (s : SegD) : Bool := ns.any fun nd => decide (nd.seg = some s.num)
def trimM (ms : MS) : MS := { ms with
  notes := ms.notes.filter (aliveM ms)
  segs := ms.segs.filter (ownedBy (ms.notes.filter (aliveM ms)))
  closed := (ms.segs.filter fun s => !ownedBy (ms.notes.filter (aliveM ms)) s).foldl (fun cl s => closeC (s.shard, s.name) cl) ms.closed }
def bestM (routes : List (Str × Int)) (name : Str) : Str × Int := routes.foldl (fun b r => if (strLe b.1 r.1 && strLe r.1 name) = true then r else b) ("", 0)
def turnsM (ms : MS) (sh : Int) (name : Int × Int) (nd : NoteD) : Bool := match ms.segs.find? fun s => decide (nd.seg = some s.num) && decide (s.shard = sh) with
  | some s => nmLt s.name name
  | none => decide ((bestM ms.routes nd.r.name).2 = sh)
/-- one home after another -/
def homeM (ms : MS) (sh : Int) (name : Int × Int) (nd : NoteD) (h : Int × List Int) : NoteD := if h.1 = nd.num ∧ turnsM ms sh name nd = true then { nd with seg := some ms.up, leaves := h.2 } else nd
def ownM (sh : Int) (name : Int × Int) (inner : Addr) (homes : List (Int × List Int)) (ms : MS) : MS := { ms with
  notes := ms.notes.map fun nd => homes.foldl (homeM ms sh name) nd
  up := ms.up + 1
  segs := ms.segs ++ [⟨ms.up, sh, name, inner⟩] }
def hasM (name : Str) (ms : MS) : Bool := ms.notes.any fun nd => decide (nd.r.name = name) && decide (nd.died = none)
def putM (ra : Addr) (r : Rec) (ms : MS) : MS := { ms with
  notes := ms.notes.map (closeN r.name (ms.now + 1)) ++ [⟨ms.now + 1, ra, r, none, none, []⟩]
  now := ms.now + 1 }
def dropM (x : Str) (ms : MS) : MS := if hasM x ms = true then { ms with notes := ms.notes.map (closeN x (ms.now + 1)), now := ms.now + 1 } else ms
def tupR (r : Str × Int) : PyData := .tuple [.str r.1, .int r.2]
def routeM (low : Str) (sh : Int) (rs : List (Str × Int)) : List (Str × Int) := (rs.filter (fun r => decide (r.1 ≠ low)) ++ [(low, sh)]).mergeSort (PySem.W.dataLe false tupR)
/-- what a deed does before what is not needed goes, and its outcome -/
def stepM : Deed → MS → MS × Option Int
  | .put ra r, ms => (putM ra r ms, some (ms.now + 1))
  | .drop x, ms => (dropM x ms, if hasM x ms = true then some (ms.now + 1) else none)
  | .pin, ms => ({ ms with pins := ms.pins ++ [ms.now] }, some ms.now)
  | .unpin m, ms => (if m ∈ ms.pins then { ms with pins := cutPins ms.pins m } else ms, some m)
  | .lift m, ms => ({ ms with floor := max ms.floor (min m ms.now) }, some (max ms.floor (min m ms.now)))
  | .own sh name inner homes, ms => (ownM sh name inner homes ms, some ms.up)
  | .close sh name, ms => ({ ms with closed := closeC (sh, name) ms.closed }, none)
  | .forget sh name, ms => ({ ms with closed := ms.closed.filter fun y => decide (y ≠ (sh, name)) }, none)
  | .route low sh, ms => ({ ms with routes := routeM low sh ms.routes }, some sh)
  | .begin_, ms => ({ ms with begins := ms.begins + 1 }, some (ms.begins + 1))
def doM (d : Deed) (ms : MS) : MS × Option Int := (trimM (stepM d ms).1, (stepM d ms).2)
def ms0 : MS := ⟨0, 0, [], [], [], 1, [("", 1)], [], 0⟩
end K94
/-! The model's functions, part 1. -/
namespace K94
open PySem PySem.Spec PyProof.Rows L2 LamX
section
variable {P : Program} {w : World} {K : PySem.W.Frag} {mg : Str → Option Value} {base : Heap}
/-! ### close -/
theorem sc_l_close : FnScope ["_law_model", "_law_shard_here", "_law_name"] ["_law_model", "_law_shard_here", "_law_name"] (defScope s_l_close) := ⟨rfl, rfl, rfl, by decide +kernel, rfl, by decide +kernel, by decide +kernel⟩
def sp_l_close (K : PySem.W.Frag) : Sp := fun vs H Q _ => ∃ (F : Hp) (m : Addr) (ms : MS) (sh : Int) (name : Int × Int) (na : Addr), vs = [.ref m, .int sh, .ref na] ∧ Same F H ∧ MAt K F H m ms ∧ NmAt F na name ∧ ms.closed.length ≤ 5000 ∧ ∀ F' H', Gr [m] F H F' H' → MAt K F' H' m { ms with closed := closeC (sh, name) ms.closed } → Q .non H'
theorem ok_l_close (T : Tx w K mg) : C8.Cal P w K mg base 1 "_law_close" (sp_l_close K) [] := by
  refine cal_mk (st := s_l_close) T.d_l_close T.g_l_close sc_l_close (fun _ _ _ _ _ _ us hl => match us, hl with | [_, _, _], _ => rfl) (fun vs H Q E h => ?_) (fun f cdv A outer s H vs Q E hr h => ?_)
  · obtain ⟨F, m, ms, sh, name, na, rfl, _⟩ := h
    rfl
  · obtain ⟨F, m, ms, sh, name, na, rfl, hF, hM, hna, few, k⟩ := h
    obtain ⟨pa, nt, sa, ra, ca, h1, h2, h3, h4, h5, ps, c1, c2⟩ := hM.ex
    have lc := c2.length
    have hu64 := hr.units
    have hu := hu_of hr
    refine ⟨_, (pss_one (ps_if (pt_cmpR (op_notInT (α := (Int) × ((Int) × (Int))) (K := K) rfl (by decide) hu64) (pe_tup (pa_cons (pv 1) (pa_cons (pv 2) pa_nil))) (pe_dget hu (pv 0) pe_str (fun _ _ => rfl)) (by rfl))
        (pss_one (ps_dput hu (pv 0) pe_str (pe_op op_cat (pe_dget hu (pv 0) pe_str (fun _ _ => rfl)) (pe_lst (pa_cons (pe_tup (pa_cons (pv 1) (pa_cons (pv 2) pa_nil))) pa_nil))) rfl))
        pss_nil)), ?_⟩
    refine ⟨_, rfl, _, rfl, (by show 2 ≤ sizeLine; decide), fun p np => ?_⟩
    have s1 := same_new (o := .tup [V.int sh, V.ref na]) np
    have e1 : Is K (upd H p (.tup [V.int sh, V.ref na])) (.ref p) ((sh, name) : Int × (Int × Int)) := is_cl ⟨na, upd_same, s1 _ _ (hF _ _ hna)⟩
    have e2 : Is K (upd H p (.tup [V.int sh, V.ref na])) (.ref ca) ms.closed := is_list (At := ClAt (upd H p (.tup [V.int sh, V.ref na]))) (SqL.of (s1 _ _ (hF _ _ c1))) (Paired.mono (fun _ _ z => z.mono (hF.trans s1)) c2) is_cl
    refine ⟨_, rfl, m, _, rfl, dg_closed (s1 _ _ h1), _, _, e1, e2, _, rfl, ?_⟩
    refine ite_b (fun hc => ?_) (fun hc => ?_)
    rotate_left
    · have hm : (sh, name) ∈ ms.closed := Classical.not_not.mp (df hc)
      have e : closeC (sh, name) ms.closed = ms.closed := if_pos hm
      rw [e] at k
      exact k _ _ ((Gr.refl hF).samef s1) (hM.frame (S := []) ((Gr.refl hF).samef s1) (by simp))
    · have hm : (sh, name) ∉ ms.closed := dt hc
      have e : closeC (sh, name) ms.closed = ms.closed ++ [(sh, name)] := if_neg hm
      rw [e] at k
      have g1 : Gr [m] F H F (upd H p (.tup [V.int sh, V.ref na])) := (Gr.refl hF).samef s1
      refine ⟨_, rfl, m, _, rfl, dg_closed (s1 _ _ h1), ?_⟩
      refine ⟨_, rfl, _, rfl, (by show 2 ≤ sizeLine; decide), fun q nq => ⟨(by show 1 ≤ sizeLine; decide), fun r nr => ?_⟩⟩
      have g2 := g1.new_ (o := .tup [V.int sh, V.ref na]) nq
      have g3 := g2.made (o := .lst [V.ref q]) nr
      have s3 := same_app (o := .lst [V.ref q]) (same_app (o := .tup [V.int sh, V.ref na]) s1 nq) nr
      refine ⟨ca, r, _, _, rfl, rfl, s3 _ _ (hF _ _ c1), upd_same, le1000 (by rw [List.length_map]; show _ + 1 ≤ _; omega), fun u nu => ?_⟩
      have g4 := g3.new_ (o := .lst (ps.map V.ref ++ [V.ref q])) nu
      have s4 := same_app (o := .lst (ps.map V.ref ++ [V.ref q])) s3 nu
      refine ⟨_, rfl, m, _, rfl, dp_closed (s4 _ _ h1), ?_⟩
      have nm : (upd (upd F q (.tup [V.int sh, V.ref na])) u (.lst (ps.map V.ref ++ [V.ref q]))) m = none := by
        rw [upd_ne (ne_of_none (s3 _ _ h1) nu), upd_ne (ne_of_none (s1 _ _ h1) nq)]
        exact hM.out
      have g5 := g4.put (o := .dK (modK ms.now ms.floor pa nt sa ms.up ra u ms.begins)) nm (.inr (by simp))
      have ff := g5.ff
      refine k _ _ g5 ⟨nm, pa, nt, sa, ra, u, upd_same, ff _ _ h2, h3.mono ff fun _ _ e => e.mono ff, h4.mono ff fun _ _ e => e.mono ff, h5.mono ff fun _ _ e => e.mono ff, ps ++ [q], ?_, ?_⟩
      · rw [upd_same, List.map_append]
        rfl
      · refine paired_append (Paired.mono (fun _ _ z => z.mono ff) c2) (.cons ⟨na, ?_, ff _ _ hna⟩ .nil)
        rw [upd_ne (ne_of_none (upd_same (H := upd H p (.tup [V.int sh, V.ref na])) (a := q) (o := .tup [V.int sh, V.ref na])) (same_none (same_new nr) nu)), upd_same]
/-! ### shard -/
theorem sc_l_shard : FnScope ["_law_model", "_law_name", "_law_best", "_law_low", "_law_shard_here"] ["_law_model", "_law_name"] (defScope s_l_shard) := ⟨rfl, rfl, rfl, by decide +kernel, rfl, by decide +kernel, by decide +kernel⟩
def sp_l_shard (K : PySem.W.Frag) : Sp := fun vs H Q _ => ∃ (F : Hp) (m : Addr) (ms : MS) (x : Str), vs = [.ref m, .str x] ∧ Same F H ∧ MAt K F H m ms ∧ ∀ H', Same H H' → Q (.int (bestM ms.routes x).2) H'
theorem ok_l_shard (T : Tx w K mg) : C8.Cal P w K mg base 1 "_law_shard" (sp_l_shard K) [] := by
  refine cal_mk (st := s_l_shard) T.d_l_shard T.g_l_shard sc_l_shard (fun _ _ _ _ _ _ us hl => match us, hl with | [_, _], _ => rfl) (fun vs H Q E h => ?_) (fun f cdv A outer s H vs Q E hr h => ?_)
  · obtain ⟨F, m, ms, x, rfl, _⟩ := h
    rfl
  · obtain ⟨F, m, ms, x, rfl, hF, hM, k⟩ := h
    obtain ⟨pa, nt, sa, ra, ca, h1, h2, h3, h4, ⟨ps, r1, r2⟩, h6⟩ := hM.ex
    have hu := hu_of hr
    refine ⟨_, (pss_cons (ps_set (i := 2) sc_l_shard.nd rfl (.inl rfl) (pe_tup (pa_cons pe_str (pa_cons pe_int pa_nil))))
      (pss_cons (ps_for PassesOwn.never rfl (pi_list (pe_dget hu (pv 0) pe_str (fun _ _ => rfl))) (pg_tup rfl (pgs_cons (pg_name (i := 3) sc_l_shard.nd rfl (.inl rfl)) (pgs_cons (pg_name (i := 4) sc_l_shard.nd rfl (.inl rfl)) pgs_nil)))
        (pss_one (ps_if (PW.pt (pw_and (pt_cmpR op_le_str (pe_ix (ix_tupK (K := K) rfl) (pv 2) pe_int (fun _ _ => rfl)) (pv 3) (nomark _)) (pw_and1 (pt_cmpR op_le_str (pv 3) (pv 1) (nomark _)))))
          (pss_one (ps_set (i := 2) sc_l_shard.nd rfl (.inl rfl) (pe_tup (pa_cons (pv 3) (pa_cons (pv 4) pa_nil)))))
          pss_nil)))
      (pss_one (ps_ret (pe_ix (ix_tupK (K := K) rfl) (pv 2) pe_int (fun _ _ => rfl)))))), ?_⟩
    refine ⟨(by show 2 ≤ sizeLine; decide), fun b nb => ?_⟩
    have s0 := same_new (o := .tup [V.str "", V.int 0]) nb
    have st := fun (i : Nat) (q : Str × Int) (hq : ms.routes[i]? = some q) => show bestM (ms.routes.take (i + 1)) x = if (strLe (bestM (ms.routes.take i) x).1 q.1 && strLe q.1 x) = true then q else bestM (ms.routes.take i) x by
      unfold bestM
      rw [take_succ_of hq, List.foldl_append]
      rfl
    refine ⟨_, rfl, m, _, rfl, dg_routes (s0 _ _ h1), ra, rfl, ⟨_, SqL.of (s0 _ _ (hF _ _ r1))⟩, for_list (K := K) (a := ra) (xs := ps.map V.ref) (fun i σ H2 => Same H H2 ∧ ∃ b y z, H2 b = some (.tup [.str (bestM (ms.routes.take i) x).1, .int (bestM (ms.routes.take i) x).2]) ∧ σ = [some (.ref m), some (.str x), some (.ref b), y, z]) ⟨s0, b, none, none, upd_same, rfl⟩ (fun i σ H2 _ p => SqL.of (p.1 _ _ (hF _ _ r1))) ?_ ?_⟩
    · rintro i v σ H2 hi ⟨s2, b, y, z, hb, rfl⟩
      obtain ⟨t, ht, rfl⟩ := map_at hi
      obtain ⟨q, hq, rq⟩ := paired_at r2 ht
      have e := st i q hq
      generalize bestM (ms.routes.take i) x = best at *
      refine ⟨t, _, rfl, .inl (.inl (s2 _ _ (hF _ _ rq))), rfl, _, _, rfl, _, _, rfl, rfl, ?_⟩
      refine ⟨_, rfl, b, _, 0, _, rfl, rfl, .inl (.inl hb), atI_nat (j := 0) rfl, _, rfl, _, _, rfl, rfl, _, rfl, ite_b (fun c1 => ?_) (fun c1 => ?_)⟩
      · refine ⟨_, rfl, _, rfl, _, _, rfl, rfl, _, rfl, ite_b (fun c2 => ?_) (fun c2 => ?_)⟩
        · refine ⟨_, rfl, _, rfl, (by show 2 ≤ sizeLine; decide), fun b2 nb2 => ⟨same_app s2 nb2, b2, _, _, ?_, rfl⟩⟩
          rw [e, if_pos (by rw [show strLe best.1 q.1 = true from c1, show strLe q.1 x = true from c2]; rfl), upd_same]
        · refine ⟨s2, b, _, _, ?_, rfl⟩
          rw [e, if_neg (by rw [show strLe q.1 x = false from c2, Bool.and_false]; decide)]
          exact hb
      · refine ⟨s2, b, _, _, ?_, rfl⟩
        rw [e, if_neg (by rw [show strLe best.1 q.1 = false from c1, Bool.false_and]; decide)]
        exact hb
    · rintro σ H2 ⟨s2, b, y, z, hb, rfl⟩
      rw [List.length_map, r2.length, List.take_length] at hb
      exact ⟨_, rfl, b, _, 1, _, rfl, rfl, .inl (.inl hb), atI_nat (j := 1) rfl, k H2 s2⟩
/-! ### turns -/
theorem sc_l_turns : FnScope ["_law_model", "_law_shard_here", "_law_name", "_law_note", "_law_segment"] ["_law_model", "_law_shard_here", "_law_name", "_law_note"] (defScope s_l_turns) := ⟨rfl, rfl, rfl, by decide +kernel, rfl, by decide +kernel, by decide +kernel⟩
def sp_l_turns (K : PySem.W.Frag) : Sp := fun vs H Q _ => ∃ (F : Hp) (m : Addr) (ms : MS) (sh : Int) (name : Int × Int) (nd : NoteD) (na nt : Addr), vs = [.ref m, .int sh, .ref na, .ref nt] ∧ Same F H ∧ MAt K F H m ms ∧ NmAt F na name ∧ MNoteAt K F nt nd ∧ ∀ H', Same H H' → Q (.bl (turnsM ms sh name nd)) H'
theorem v_opt (n : Int) (o : Option Int) : decide (V.int n = oV o) = decide (o = some n) := by
  cases o with
  | none => exact (decide_eq_false (fun z => by cases z)).trans (decide_eq_false (fun z => by cases z)).symm
  | some k =>
    by_cases e : n = k
    · rw [e]
      simp [oV]
    · show decide (V.int n = V.int k) = _
      rw [decide_eq_false (fun z => e (V.int.inj z)), decide_eq_false (fun z => e (Option.some.inj z).symm)]
theorem scal_opt (n : Int) (o : Option Int) : scal (V.int n) (oV o) = true := by cases o <;> rfl
theorem v_int (n k : Int) : decide (V.int n = V.int k) = decide (n = k) := by
  by_cases e : n = k
  · rw [e]
    simp
  · rw [decide_eq_false (fun z => e (V.int.inj z)), decide_eq_false e]
theorem ok_l_turns (T : Tx w K mg) : C8.Cal P w K mg base 2 "_law_turns" (sp_l_turns K) [] := by
  have c_l_shard := ok_l_shard (P := P) (base := base) T
  refine cal_mk (st := s_l_turns) T.d_l_turns T.g_l_turns sc_l_turns (fun _ _ _ _ _ _ us hl => match us, hl with | [_, _, _, _], _ => rfl) (fun vs H Q E h => ?_) (fun f cdv A outer s H vs Q E hr h => ?_)
  · obtain ⟨F, m, ms, sh, name, nd, na, nt, rfl, _⟩ := h
    rfl
  · obtain ⟨F, m, ms, sh, name, nd, na, nt, rfl, hF, hM, hna, hnt, k⟩ := h
    obtain ⟨pa, nta, sa, ra, ca, h1, h2, h3, ⟨ps, q1, q2⟩, h5, h6⟩ := hM.ex
    obtain ⟨lv, n1, n2, n3⟩ := hnt
    have n1' : SqT K H nt [.int nd.num, .ref nd.ra, oV nd.died, oV nd.seg, .ref lv] := .inl (.inl (hF _ _ n1))
    obtain ⟨rdx, vt, rft, wt, fas, was, r1, _⟩ := n2.ex
    have hu := hu_of hr
    refine ⟨_, (pss_cons (ps_for PassesOwn.never rfl (pi_list (pe_dget hu (pv 0) pe_str (fun _ _ => rfl))) (pg_name (i := 4) sc_l_turns.nd rfl (.inl rfl))
        (pss_one (ps_if (PW.pt (pw_and (pt_cmpR op_eq (pe_ix (ix_tupK (K := K) rfl) (pv 4) pe_int (fun _ _ => rfl)) (pe_ix (ix_tupK (K := K) rfl) (pv 3) pe_int (fun _ _ => rfl)) (nomark _)) (pw_and1 (pt_cmpR op_eq (pe_ix (ix_tupK (K := K) rfl) (pv 4) pe_int (fun _ _ => rfl)) (pv 1) (nomark _)))))
          (pss_one (ps_ret (pe_cmpR (op_ltTK (K := K) rfl hr.units0) (pe_ix (ix_tupK (K := K) rfl) (pv 4) pe_int (fun _ _ => rfl)) (pv 2) (nomark _))))
          pss_nil)))
      (pss_one (ps_ret (pe_cmpR op_eq (C8.pe_c c_l_shard hr (by decide) (by rfl) (pa_cons (pv 0) (pa_cons (pe_fldK (K := K) rfl (pe_ix (ix_tupK (K := K) rfl) (pv 3) pe_int (fun _ _ => rfl)) rfl) pa_nil))) (pv 1) (nomark _))))), ?_⟩
    refine ⟨_, rfl, m, _, rfl, dg_segments h1, sa, rfl, ⟨_, SqL.of (hF _ _ q1)⟩, for_list (K := K) (a := sa) (xs := ps.map V.ref) (fun i σ H2 => H2 = H ∧ (ms.segs.take i).find? (fun s => decide (nd.seg = some s.num) && decide (s.shard = sh)) = none ∧ ∃ y, σ = [some (.ref m), some (.int sh), some (.ref na), some (.ref nt), y]) ⟨rfl, rfl, none, rfl⟩ (fun i σ H2 _ p => by rw [p.1]; exact SqL.of (hF _ _ q1)) ?_ ?_⟩
    · rintro i v σ H2 hi ⟨rfl, no, y, rfl⟩
      obtain ⟨t, ht, rfl⟩ := map_at hi
      obtain ⟨sd, hq, sna, spa, rq, rn, rp⟩ := paired_at q2 ht
      have rq' : SqT K H2 t [.int sd.num, .int sd.shard, .ref sna, .ref spa] := .inl (.inl (hF _ _ rq))
      have sp : ms.segs = ms.segs.take i ++ (sd :: ms.segs.drop (i + 1)) := by
        obtain ⟨hlt, e⟩ := List.getElem?_eq_some_iff.mp hq
        rw [← e, List.getElem_cons_drop, List.take_append_drop]
      have go : ∀ b : Bool, (decide (nd.seg = some sd.num) && decide (sd.shard = sh)) = b → b = false → (ms.segs.take (i + 1)).find? (fun s => decide (nd.seg = some s.num) && decide (s.shard = sh)) = none := fun b e hb => by
        rw [take_succ_of hq, List.find?_append, no, List.find?_cons, e, hb]
        rfl
      refine ⟨_, rfl, t, _, 0, _, rfl, rfl, rq', atI_nat (j := 0) rfl, _, rfl, nt, _, 3, _, rfl, rfl, n1', atI_nat (j := 3) rfl, scal_opt _ _, _, rfl, ?_⟩
      rw [v_opt]
      cases c1 : decide (nd.seg = some sd.num) with
      | false => exact iteF ⟨rfl, go false (by rw [c1]; rfl) rfl, _, rfl⟩
      | true =>
        refine iteT ⟨_, rfl, t, _, 1, _, rfl, rfl, rq', atI_nat (j := 1) rfl, _, rfl, rfl, _, rfl, ?_⟩
        rw [v_int]
        cases c2 : decide (sd.shard = sh) with
        | false => exact iteF ⟨rfl, go false (by rw [c1, c2]; rfl) rfl, _, rfl⟩
        | true =>
          refine iteT ⟨_, rfl, t, _, 2, _, rfl, rfl, rq', atI_nat (j := 2) rfl, _, rfl, sna, na, [sd.name.1, sd.name.2], [name.1, name.2], rfl, rfl, .inl (.inl (hF _ _ rn)), .inl (.inl (hF _ _ hna)), ?_⟩
          have e : turnsM ms sh name nd = nmLt sd.name name := by
            unfold turnsM
            rw [sp, List.find?_append, no, List.find?_cons, c1, c2]
            rfl
          rw [e] at k
          exact k H2 (Same.refl _)
    · rintro σ H2 ⟨rfl, no, y, rfl⟩
      rw [List.length_map, q2.length, List.take_length] at no
      have e : turnsM ms sh name nd = decide ((bestM ms.routes nd.r.name).2 = sh) := by
        unfold turnsM
        rw [no]
      rw [e] at k
      refine ⟨_, rfl, _, rfl, nt, _, 1, _, rfl, rfl, n1', atI_nat (j := 1) rfl, nd.ra, _, rdx, _, _, rfl, hF _ _ r1, T.c_Record, T.n_Record_name, recF_name _ _ _ _, F, m, ms, nd.r.name, rfl, hF, hM, fun H3 s3 => ⟨_, rfl, rfl, ?_⟩⟩
      rw [v_int]
      exact k H3 s3
end
end K94
/-! The model's functions, part 2. -/
namespace K94
open PySem PySem.Spec PyProof.Rows L2 LamX
theorem EqL.snoc {R : V → V → Bool → Prop} {x y : V} {c : Bool} (r : R x y c) : ∀ {xs ys : List V} {b : Bool}, EqL R xs ys b → EqL R (xs ++ [x]) (ys ++ [y]) (b && c)
  | _, _, _, .nil => by
    have h := EqL.cons r (EqL.nil (R := R))
    rw [Bool.and_comm] at h
    exact h
  | _, _, _, .cons (b := b') (c := c') q t => by
    rw [Bool.and_assoc]
    exact .cons q (EqL.snoc r t)
theorem EqL.mono {R R' : V → V → Bool → Prop} (h : ∀ x y b, R x y b → R' x y b) : ∀ {xs ys : List V} {b : Bool}, EqL R xs ys b → EqL R' xs ys b
  | _, _, _, .nil => .nil
  | _, _, _, .cons q t => .cons (h _ _ _ q) (EqL.mono h t)
theorem EqK.mono {K : PySem.W.Frag} {H H' : Hp} (s : Same H H') : ∀ (n : Nat) {x y : V} {b : Bool}, EqK K H n x y b → EqK K H' n x y b
  | 0, _, _, _, h => h
  | n + 1, _, _, _, h => by
    rcases h with h | ⟨a, c, xs, ys, e1, e2, e3, e4, e5, e6⟩
    · exact .inl (EqK.mono s n h)
    · exact .inr ⟨a, c, xs, ys, e1, e2, e3, sqT_same s e4, sqT_same s e5, EqL.mono (fun _ _ _ z => EqK.mono s n z) e6⟩
theorem eqK_same {K : PySem.W.Frag} {H : Hp} {a : Addr} : EqK K H 3 (.ref a) (.ref a) true := .inl (.inl (.inl (.inr (.inl ⟨a, rfl, rfl, rfl⟩))))
theorem eqK_ref {K : PySem.W.Frag} {H : Hp} {a : Addr} : EqK K H 0 (.ref a) (.ref a) true := .inr (.inl ⟨a, rfl, rfl, rfl⟩)
theorem eqK_int {K : PySem.W.Frag} {H : Hp} {i : Int} : EqK K H 0 (.int i) (.int i) true := .inl ⟨rfl, rfl, rfl⟩
theorem eqK_opt {K : PySem.W.Frag} {H : Hp} {o : Option Int} : EqK K H 0 (oV o) (oV o) true := .inl ⟨rfl, by cases o <;> rfl, rfl⟩
theorem ne_of_none_ {H : Hp} {m p : Addr} {o : HO} (h : H m = some o) (n : H p = none) : p ≠ m := fun z => by
  rw [z, h] at n
  cases n
section
variable {P : Program} {w : World} {K : PySem.W.Frag} {mg : Str → Option Value} {base : Heap}
/-! ### begin -/
theorem sc_l_begin : FnScope ["_law_begin_here"] [] (defScope s_l_begin) := ⟨rfl, rfl, rfl, by decide +kernel, rfl, by decide +kernel, by decide +kernel⟩
def sp_l_begin (K : PySem.W.Frag) : Sp := fun vs H Q _ => ∃ F : Hp, vs = [] ∧ Same F H ∧ ∀ F' H' m, Gr [] F H F' H' → H m = none → MAt K F' H' m ms0 → Q (.ref m) H'
theorem ok_l_begin (T : Tx w K mg) : C8.Cal P w K mg base 1 "_law_begin" (sp_l_begin K) [] := by
  refine cal_mk (st := s_l_begin) T.d_l_begin T.g_l_begin sc_l_begin (fun _ _ _ _ _ _ us hl => match us, hl with | [], _ => rfl) (fun vs H Q E h => ?_) (fun f cdv A outer s H vs Q E hr h => ?_)
  · obtain ⟨F, rfl, _⟩ := h
    rfl
  · obtain ⟨F, rfl, hF, k⟩ := h
    have hu := hu_of hr
    refine ⟨_, (pss_cons (ps_set (i := 0) sc_l_begin.nd rfl (.inl rfl) (pe_disp (pps_cons pe_str pe_int (pps_cons pe_str pe_int (pps_cons pe_str (pe_lst pa_nil) (pps_cons pe_str (pe_lst pa_nil) (pps_cons pe_str (pe_lst pa_nil) (pps_cons pe_str pe_int pps_nil)))))) (by rfl) (by rfl) (fun z => by cases z) (by decide)))
      (pss_cons (ps_dput hu (pv 0) pe_str (pe_lst (pa_cons (pe_tup (pa_cons pe_str (pa_cons pe_int pa_nil))) pa_nil)) rfl)
      (pss_cons (ps_dput hu (pv 0) pe_str (pe_lst pa_nil) rfl)
      (pss_cons (ps_dput hu (pv 0) pe_str pe_int rfl)
      (pss_one (ps_ret (pv 0))))))), ?_⟩
    refine fun m nm => ⟨Nat.zero_le _, fun pa npa => ⟨Nat.zero_le _, fun na nna => ⟨Nat.zero_le _, fun sa nsa => ?_⟩⟩⟩
    have g0 : Gr [] F H F (upd H m (.dK [])) := (Gr.refl hF).made nm
    have hm0 : (upd H m (.dK [])) m = some (.dK []) := upd_same
    have g1 := g0.new_ (o := .lst []) npa
    have g2 := g1.new_ (o := .lst []) nna
    have g3 := g2.new_ (o := .lst []) nsa
    have m3 := same_new (o := .lst []) nsa _ _ (same_new (o := .lst []) nna _ _ (same_new (o := .lst []) npa _ _ hm0))
    have sp := same_new (o := .lst []) (g1.fh.free nna)
    have sn := same_new (o := .lst []) (g2.fh.free nsa)
    have p3 := sn _ _ (sp _ _ (upd_same (H := F) (a := pa) (o := .lst [])))
    have n3 := sn _ _ (upd_same (H := upd F pa (.lst [])) (a := na) (o := .lst []))
    have s3 : (upd (upd (upd F pa (.lst [])) na (.lst [])) sa (.lst [])) sa = some (.lst []) := upd_same
    have fm3 : (upd (upd (upd F pa (.lst [])) na (.lst [])) sa (.lst [])) m = none := by
      rw [upd_ne (ne_of_none (same_new (o := .lst []) nna _ _ (same_new (o := .lst []) npa _ _ hm0)) nsa), upd_ne (ne_of_none (same_new (o := .lst []) npa _ _ hm0) nna), upd_ne (ne_of_none hm0 npa)]
      exact hF.free nm
    generalize hF3 : upd (upd (upd F pa (.lst [])) na (.lst [])) sa (.lst []) = F3 at *
    generalize hH3 : upd (upd (upd (upd H m (.dK [])) pa (.lst [])) na (.lst [])) sa (.lst []) = H3 at *
    refine ⟨m3, [(.inr "now", .int 0), (.inr "floor", .int 0), (.inr "pins", .ref pa), (.inr "notes", .ref na), (.inr "segments", .ref sa), (.inr "upcoming", .int 1)], rfl, (by show 6 ≤ 15; decide), ?_⟩
    have em : mergeK [] [((.inr "now" : Key), V.int 0), (.inr "floor", .int 0), (.inr "pins", .ref pa), (.inr "notes", .ref na), (.inr "segments", .ref sa), (.inr "upcoming", .int 1)] = [(.inr "now", .int 0), (.inr "floor", .int 0), (.inr "pins", .ref pa), (.inr "notes", .ref na), (.inr "segments", .ref sa), (.inr "upcoming", .int 1)] := by kernel_rfl
    rw [em]
    have g4 := g3.put (o := .dK [(.inr "now", .int 0), (.inr "floor", .int 0), (.inr "pins", .ref pa), (.inr "notes", .ref na), (.inr "segments", .ref sa), (.inr "upcoming", .int 1)]) fm3 (.inl nm)
    refine ⟨(by show 2 ≤ sizeLine; decide), fun t nt => ⟨(by show 1 ≤ sizeLine; decide), fun ra nra => ?_⟩⟩
    have g5 := g4.new_ (o := .tup [V.str "", V.int 1]) nt
    have g6 := g5.new_ (o := .lst [V.ref t]) nra
    have m4 : (upd H3 m (.dK [(.inr "now", .int 0), (.inr "floor", .int 0), (.inr "pins", .ref pa), (.inr "notes", .ref na), (.inr "segments", .ref sa), (.inr "upcoming", .int 1)])) m = some (.dK [(.inr "now", .int 0), (.inr "floor", .int 0), (.inr "pins", .ref pa), (.inr "notes", .ref na), (.inr "segments", .ref sa), (.inr "upcoming", .int 1)]) := upd_same
    have m5 := same_new (o := .tup [V.str "", V.int 1]) nt _ _ m4
    have m6 := same_new (o := .lst [V.ref t]) nra _ _ m5
    refine ⟨_, rfl, m, _, rfl, .inl ⟨_, .inr "routes", m6, rfl, (by show 6 < sizeLine; decide), rfl⟩, ?_⟩
    have ep : putK [((.inr "now" : Key), V.int 0), (.inr "floor", .int 0), (.inr "pins", .ref pa), (.inr "notes", .ref na), (.inr "segments", .ref sa), (.inr "upcoming", .int 1)] (.inr "routes") (.ref ra) = [(.inr "now", .int 0), (.inr "floor", .int 0), (.inr "pins", .ref pa), (.inr "notes", .ref na), (.inr "segments", .ref sa), (.inr "upcoming", .int 1), (.inr "routes", .ref ra)] := by kernel_rfl
    rw [ep]
    have fm6 : (upd (upd F3 t (.tup [V.str "", V.int 1])) ra (.lst [V.ref t])) m = none := by
      rw [upd_ne (ne_of_none m5 nra), upd_ne (ne_of_none m4 nt)]
      exact fm3
    have g7 := g6.put (o := .dK [(.inr "now", .int 0), (.inr "floor", .int 0), (.inr "pins", .ref pa), (.inr "notes", .ref na), (.inr "segments", .ref sa), (.inr "upcoming", .int 1), (.inr "routes", .ref ra)]) fm6 (.inl nm)
    refine ⟨Nat.zero_le _, fun ca nca => ?_⟩
    have g8 := g7.new_ (o := .lst []) nca
    have m7 := same_new (o := .lst []) nca _ _ (upd_same (H := upd (upd (upd H3 m (.dK [(.inr "now", .int 0), (.inr "floor", .int 0), (.inr "pins", .ref pa), (.inr "notes", .ref na), (.inr "segments", .ref sa), (.inr "upcoming", .int 1)])) t (.tup [V.str "", V.int 1])) ra (.lst [V.ref t])) (a := m) (o := .dK [(.inr "now", .int 0), (.inr "floor", .int 0), (.inr "pins", .ref pa), (.inr "notes", .ref na), (.inr "segments", .ref sa), (.inr "upcoming", .int 1), (.inr "routes", .ref ra)]))
    refine ⟨_, rfl, m, _, rfl, .inl ⟨_, .inr "closed", m7, rfl, (by show 7 < sizeLine; decide), rfl⟩, ?_⟩
    have ep2 : putK [((.inr "now" : Key), V.int 0), (.inr "floor", .int 0), (.inr "pins", .ref pa), (.inr "notes", .ref na), (.inr "segments", .ref sa), (.inr "upcoming", .int 1), (.inr "routes", .ref ra)] (.inr "closed") (.ref ca) = [(.inr "now", .int 0), (.inr "floor", .int 0), (.inr "pins", .ref pa), (.inr "notes", .ref na), (.inr "segments", .ref sa), (.inr "upcoming", .int 1), (.inr "routes", .ref ra), (.inr "closed", .ref ca)] := by kernel_rfl
    rw [ep2]
    refine ⟨_, rfl, m, _, rfl, .inl ⟨_, .inr "begins", upd_same, rfl, (by show 8 < sizeLine; decide), rfl⟩, ?_⟩
    have ep3 : putK [((.inr "now" : Key), V.int 0), (.inr "floor", .int 0), (.inr "pins", .ref pa), (.inr "notes", .ref na), (.inr "segments", .ref sa), (.inr "upcoming", .int 1), (.inr "routes", .ref ra), (.inr "closed", .ref ca)] (.inr "begins") (.int 0) = modK 0 0 pa na sa 1 ra ca 0 := by kernel_rfl
    rw [ep3, upd_upd]
    have nmc : m ≠ ca := fun z => by rw [← z, upd_same] at nca; cases nca
    have fm8 : (upd (upd (upd F3 t (.tup [V.str "", V.int 1])) ra (.lst [V.ref t])) ca (.lst [])) m = none := by
      rw [upd_ne nmc]
      exact fm6
    have g9 := g8.put (o := .dK (modK 0 0 pa na sa 1 ra ca 0)) fm8 (.inl nm)
    have sA := same_new (o := .tup [V.str "", V.int 1]) (g4.fh.free nt)
    have sB := same_new (o := .lst [V.ref t]) (g5.fh.free nra)
    have sC := same_new (o := .lst []) (g7.fh.free nca)
    have sAC := sA.trans (sB.trans sC)
    refine ⟨_, rfl, k _ _ m g9 nm ⟨fm8, pa, na, sa, ra, ca, upd_same, sAC _ _ p3, ⟨[], sAC _ _ n3, .nil⟩, ⟨[], sAC _ _ s3, .nil⟩, ⟨[t], sC _ _ upd_same, .cons (sC _ _ (sB _ _ upd_same)) .nil⟩, ⟨[], upd_same, .nil⟩⟩⟩
/-! ### ended -/
theorem sc_l_ended : FnScope ["_law_model", "_law_name", "_law_number", "_law_notes", "_law_note"] ["_law_model", "_law_name", "_law_number"] (defScope s_l_ended) := ⟨rfl, rfl, rfl, by decide +kernel, rfl, by decide +kernel, by decide +kernel⟩
def sp_l_ended (K : PySem.W.Frag) : Sp := fun vs H Q _ => ∃ (F : Hp) (m pa na sa ra ca : Addr) (nas : List Addr) (ms : MS) (x : Str) (n : Int), vs = [.ref m, .str x, .int n] ∧ Same F H ∧ H m = some (.dK (modK ms.now ms.floor pa na sa ms.up ra ca ms.begins)) ∧ F na = some (.lst (nas.map V.ref)) ∧ Paired (MNoteAt K F) nas ms.notes ∧ ms.notes.length ≤ 1000 ∧
  ∀ (F' H' : Hp) (p : Addr) (as : List Addr), Gr [] F H F' H' → H p = none → F' p = none → H' p = some (.lst (as.map V.ref)) → Paired (MNoteAt K F') as (ms.notes.map (closeN x n)) → EqL (EqK K F' 3) (as.map V.ref) (nas.map V.ref) (!hasM x ms) → Q (.ref p) H'
theorem ok_l_ended (T : Tx w K mg) : C8.Cal P w K mg base 1 "_law_ended" (sp_l_ended K) [] := by
  refine cal_mk (st := s_l_ended) T.d_l_ended T.g_l_ended sc_l_ended (fun _ _ _ _ _ _ us hl => match us, hl with | [_, _, _], _ => rfl) (fun vs H Q E h => ?_) (fun f cdv A outer s H vs Q E hr h => ?_)
  · obtain ⟨F, m, pa, na, sa, ra, ca, nas, ms, x, n, rfl, _⟩ := h
    rfl
  · obtain ⟨F, m, pa, na, sa, ra, ca, nas, ms, x, n, rfl, hF, hm, n1, n2, few, k⟩ := h
    have hu := hu_of hr
    have ln := n2.length
    refine ⟨_, (pss_cons (ps_set (i := 3) sc_l_ended.nd rfl (.inl rfl) (pe_lst pa_nil))
      (pss_cons (ps_for PassesOwn.never rfl (pi_list (pe_dget hu (pv 0) pe_str (fun _ _ => rfl))) (pg_name (i := 4) sc_l_ended.nd rfl (.inl rfl))
        (pss_cons (ps_if (PW.pt (pw_and (pt_cmpR op_eq (pe_fldK (K := K) rfl (pe_ix (ix_tupK (K := K) rfl) (pv 4) pe_int (fun _ _ => rfl)) rfl) (pv 1) (nomark _)) (pw_and1 (pt_cmpR op_isN (pe_ix (ix_tupK (K := K) rfl) (pv 4) pe_int (fun _ _ => rfl)) pe_non (nomark _)))))
          (pss_one (ps_set (i := 4) sc_l_ended.nd rfl (.inl rfl) (pe_tup (pa_cons (pe_ix (ix_tupK (K := K) rfl) (pv 4) pe_int (fun _ _ => rfl)) (pa_cons (pe_ix (ix_tupK (K := K) rfl) (pv 4) pe_int (fun _ _ => rfl)) (pa_cons (pv 2) (pa_cons (pe_ix (ix_tupK (K := K) rfl) (pv 4) pe_int (fun _ _ => rfl)) (pa_cons (pe_ix (ix_tupK (K := K) rfl) (pv 4) pe_int (fun _ _ => rfl)) pa_nil))))))))
          pss_nil)
        (pss_one (ps_expr (pe_bm PySem.F.plainAttrs_list PySem.F.slot_list_append PySem.F.type_list_append mt_append (pv 3) (pa_cons (pv 4) pa_nil))))))
      (pss_one (ps_ret (pv 3))))), ?_⟩
    refine ⟨Nat.zero_le _, fun p np => ?_⟩
    have sp := same_new (o := .lst []) np
    refine ⟨_, rfl, m, _, rfl, dg_notes (sp _ _ hm), na, rfl, ⟨_, SqL.of (sp _ _ (hF _ _ n1))⟩, for_list (K := K) (a := na) (xs := nas.map V.ref) (fun i σ H2 => ∃ (Fi : Hp) (as : List Addr), Gr [] F H Fi H2 ∧ Fi p = none ∧ H2 p = some (.lst (as.map V.ref)) ∧ Paired (MNoteAt K Fi) as ((ms.notes.take i).map (closeN x n)) ∧
        EqL (EqK K Fi 3) (as.map V.ref) ((nas.take i).map V.ref) (!((ms.notes.take i).any fun nd => decide (nd.r.name = x) && decide (nd.died = none))) ∧ ∃ y, σ = [some (.ref m), some (.str x), some (.int n), some (.ref p), y])
      ⟨F, [], (Gr.refl hF).made np, hF.free np, upd_same, .nil, .nil, none, rfl⟩ (fun i σ H2 _ q => by obtain ⟨Fi, as, g, _⟩ := q; exact SqL.of (g.hh _ _ (hF _ _ n1))) ?_ ?_⟩
    · rintro i v σ H2 hi ⟨Fi, as, g, fp, hp, pr, eq, y, rfl⟩
      obtain ⟨a, ha, rfl⟩ := map_at hi
      obtain ⟨nd, hnd, lv, q1, q2, q3⟩ := paired_at n2 ha
      have q1' : SqT K H2 a [.int nd.num, .ref nd.ra, oV nd.died, oV nd.seg, .ref lv] := .inl (.inl (g.fh _ _ (g.ff _ _ q1)))
      have q2' := q2.mono g.ff
      obtain ⟨rdx, vt, rft, wt, fas, was, r1, _⟩ := q2'.ex
      have lp := pr.length
      have l2 : ((ms.notes.take i).map (closeN x n)).length ≤ 1000 := by
        rw [List.length_map, List.length_take]
        exact Nat.le_trans (Nat.min_le_right _ _) few
      have nps : p ≠ m := ne_of_none_ hm np
      refine cut (fun σ' H' => ∃ (F2 : Hp) (b : Addr), Gr [] Fi H2 F2 H' ∧ MNoteAt K F2 b (closeN x n nd) ∧ EqK K F2 3 (.ref b) (.ref a) (!(decide (nd.r.name = x) && decide (nd.died = none))) ∧ σ' = [some (.ref m), some (.str x), some (.int n), some (.ref p), some (.ref b)]) ?_ (fun rest => ?_)
      rotate_left
      · have keep : closeN x n nd = nd → (decide (nd.r.name = x) && decide (nd.died = none)) = false → (∃ (F2 : Hp) (b : Addr), Gr [] Fi H2 F2 H2 ∧ MNoteAt K F2 b (closeN x n nd) ∧ EqK K F2 3 (.ref b) (.ref a) (!(decide (nd.r.name = x) && decide (nd.died = none))) ∧ ([some (V.ref m), some (.str x), some (.int n), some (.ref p), some (.ref a)] : L2.St) = [some (.ref m), some (.str x), some (.int n), some (.ref p), some (.ref b)]) := by
          intro e1 e2
          refine ⟨Fi, a, Gr.refl g.fh, ?_, ?_, rfl⟩
          · rw [e1]
            exact ⟨lv, g.ff _ _ q1, q2', sqT_same g.ff q3⟩
          · rw [e2]
            exact eqK_same
        refine ⟨_, rfl, a, _, 1, _, rfl, rfl, q1', atI_nat (j := 1) rfl, nd.ra, _, rdx, _, _, rfl, g.fh _ _ r1, T.c_Record, T.n_Record_name, recF_name _ _ _ _, _, rfl, rfl, _, rfl, ?_⟩
        by_cases hx : nd.r.name = x
        · rw [decide_eq_true (show V.str nd.r.name = V.str x by rw [hx])]
          refine iteT ⟨_, rfl, a, _, 2, _, rfl, rfl, q1', atI_nat (j := 2) rfl, rfl, _, rfl, ?_⟩
          cases hd : nd.died with
          | none =>
            refine iteT ?_
            refine ⟨_, rfl, a, _, 0, _, rfl, rfl, q1', atI_nat (j := 0) rfl, ?_⟩
            refine ⟨_, rfl, a, _, 1, _, rfl, rfl, q1', atI_nat (j := 1) rfl, ?_⟩
            refine ⟨_, rfl, ?_⟩
            refine ⟨_, rfl, a, _, 3, _, rfl, rfl, q1', atI_nat (j := 3) rfl, ?_⟩
            refine ⟨_, rfl, a, _, 4, _, rfl, rfl, q1', atI_nat (j := 4) rfl, (by show 5 ≤ sizeLine; decide), fun t nt => ?_⟩
            have g3 := (Gr.refl (S := []) g.fh).new_ (o := .tup [V.int nd.num, V.ref nd.ra, V.int n, oV nd.seg, V.ref lv]) nt
            have ec : closeN x n nd = { nd with died := some n } := by unfold closeN; rw [if_pos ⟨hx, hd⟩]
            refine rest _ _ ⟨_, t, g3, ?_, ?_, rfl⟩
            · rw [ec]
              exact ⟨lv, upd_same, q2'.mono g3.ff, sqT_same (g.ff.trans g3.ff) q3⟩
            · have nta : t ≠ a := fun z => by
                rw [z, g.fh _ _ (g.ff _ _ q1)] at nt
                cases nt
              have e2 : (!(decide (nd.r.name = x) && decide (nd.died = none))) = (true && (true && (false && (true && (true && true))))) := by simp [hx, hd]
              rw [e2]
              refine .inl (.inl (.inr ⟨t, a, [V.int nd.num, V.ref nd.ra, V.int n, oV nd.seg, V.ref lv], [V.int nd.num, V.ref nd.ra, V.non, oV nd.seg, V.ref lv], rfl, rfl, nta, .inl (.inl upd_same), .inl (.inl ?_), .cons eqK_int (.cons eqK_ref (.cons (.inr (.inr (.inr (.inr ⟨n, rfl, rfl, rfl⟩)))) (.cons eqK_opt (.cons eqK_ref .nil))))⟩))
              have z := g3.ff _ _ (g.ff _ _ q1)
              rw [hd] at z
              exact z
          | some d =>
            refine iteF (rest _ _ (keep ?_ ?_))
            · unfold closeN
              rw [if_neg (fun z => by rw [hd] at z; exact absurd z.2 (by simp))]
            · rw [hd]
              simp
        · rw [decide_eq_false (show ¬ V.str nd.r.name = V.str x from fun z => hx (V.str.inj z))]
          refine iteF (rest _ _ (keep ?_ ?_))
          · unfold closeN
            rw [if_neg (fun z => hx z.1)]
          · simp [hx]
      rintro σ3 H3 ⟨F3, b, g3, mb, eb, rfl⟩
      have hp3 := g3.hh _ _ hp
      have fp3 := g3.out hp fp
      refine ⟨_, rfl, .inl ⟨rfl, _, SqL.of hp3⟩, _, rfl, p, _, _, rfl, rfl, hp3, lt1000 (by rw [List.length_map]; omega), ?_⟩
      refine ⟨F3, as ++ [b], (g.trans g3).put fp3 (.inl np), fp3, ?_, ?_, ?_, _, rfl⟩
      · rw [upd_same, List.map_append]
        rfl
      · rw [take_succ_of hnd, List.map_append]
        exact paired_append (Paired.mono (fun _ _ z => z.mono g3.ff) pr) (.cons mb .nil)
      · rw [take_succ_of hnd, take_succ_of ha, List.any_append, List.map_append, List.map_append, Bool.not_or]
        refine EqL.snoc ?_ (EqL.mono (fun u v b z => EqK.mono g3.ff 3 z) eq)
        show EqK K _ 3 _ _ (!(decide (nd.r.name = x) && decide (nd.died = none) || false))
        rw [Bool.or_false]
        exact eb
    · rintro σ H2 ⟨Fi, as, g, fp, hp, pr, eq, y, rfl⟩
      rw [List.length_map, ln, List.take_length] at pr eq
      rw [← ln, List.take_length] at eq
      exact ⟨_, rfl, k Fi H2 p as g np fp hp pr eq⟩
end
end K94
/-! The model's functions, part 3. -/
namespace K94
open PySem PySem.Spec PyProof.Rows L2 LamX
theorem filter_snoc {α : Type} (p : α → Bool) {xs : List α} {i : Nat} {x : α} (h : xs[i]? = some x) : (xs.take (i + 1)).filter p = (xs.take i).filter p ++ (if p x = true then [x] else []) := by
  rw [take_succ_of h, List.filter_append]
  congr 1
  rw [List.filter_cons]
  rfl
section
variable {P : Program} {w : World} {K : PySem.W.Frag} {mg : Str → Option Value} {base : Heap}
/-! ### trim -/
theorem sc_l_trim : FnScope ["_law_model", "_law_kept", "_law_notes", "_law_note", "_law_number", "_law_record_here", "_law_died", "_law_segment", "_law_leaves", "_law_moment", "_law_owners", "_law_segments"] ["_law_model"] (defScope s_l_trim) := ⟨rfl, rfl, rfl, by decide +kernel, rfl, by decide +kernel, by decide +kernel⟩
def sp_l_trim (K : PySem.W.Frag) : Sp := fun vs H Q _ => ∃ (F : Hp) (m : Addr) (ms : MS), vs = [.ref m] ∧ Same F H ∧ MAt K F H m ms ∧ ms.Fit ∧ ∀ F' H', Gr [m] F H F' H' → MAt K F' H' m (trimM ms) → Q .non H'
theorem foldCloseS_len (f : SegD → Int × (Int × Int)) : ∀ (ts : List SegD) (cl : List (Int × (Int × Int))), (ts.foldl (fun cl t => closeC (f t) cl) cl).length ≤ cl.length + ts.length
  | [], cl => Nat.le_refl _
  | t :: ts, cl => by
    have h1 := foldCloseS_len f ts (closeC (f t) cl)
    have h2 := closeC_len (f t) cl
    rw [List.foldl_cons, List.length_cons]
    omega
theorem ok_l_trim (T : Tx w K mg) : C8.Cal P w K mg base 2 "_law_trim" (sp_l_trim K) [] := by
  have c_l_close := ok_l_close (P := P) (base := base) T
  refine cal_mk (st := s_l_trim) T.d_l_trim T.g_l_trim sc_l_trim (fun _ _ _ _ _ _ us hl => match us, hl with | [_], _ => rfl) (fun vs H Q E h => ?_) (fun f cdv A outer s H vs Q E hr h => ?_)
  · obtain ⟨F, m, ms, rfl, _⟩ := h
    rfl
  · obtain ⟨F, m, ms, rfl, hF, hM, fit, k⟩ := h
    obtain ⟨pa, na, sa, ra, ca, h1, h2, ⟨nas, n1, n2⟩, ⟨sas, q1, q2⟩, h5, h6⟩ := hM.ex
    have hu := hu_of hr
    have ln := n2.length
    have lsg := q2.length
    have fp := fit.pins
    have fn := fit.notes
    have fs := fit.segs
    have fc := fit.closed
    have ff := fit.floor
    have fw := fit.now
    refine ⟨_, (pss_cons (ps_set (i := 1) sc_l_trim.nd rfl (.inl rfl) (pe_op op_cat (pe_callTy call_list_of (by rfl) T.z_list (by decide +kernel) (pa_cons (pe_dget hu (pv 0) pe_str (fun _ _ => rfl)) pa_nil)) (pe_listRg rfl (by rfl) T.z_list (prg_2 (by rfl) T.z_range (pe_dget hu (pv 0) pe_str (fun _ _ => rfl)) (pe_op op_add (pe_dget hu (pv 0) pe_str (fun _ _ => rfl)) pe_int)))))
      (pss_cons (ps_set (i := 2) sc_l_trim.nd rfl (.inl rfl) (pe_lst pa_nil))
      (pss_cons (ps_for PassesOwn.never rfl (pi_list (pe_dget hu (pv 0) pe_str (fun _ _ => rfl))) (pg_name (i := 3) sc_l_trim.nd rfl (.inl rfl))
        (pss_cons (ps_asg (pv 3) (pg_tup rfl (pgs_cons (pg_name (i := 4) sc_l_trim.nd rfl (.inr rfl)) (pgs_cons (pg_name (i := 5) sc_l_trim.nd rfl (.inl rfl)) (pgs_cons (pg_name (i := 6) sc_l_trim.nd rfl (.inr rfl)) (pgs_cons (pg_name (i := 7) sc_l_trim.nd rfl (.inl rfl)) (pgs_cons (pg_name (i := 8) sc_l_trim.nd rfl (.inl rfl)) pgs_nil)))))))
        (pss_one (ps_if (pt_val (pe_callB (cr_any rfl) (by rfl) T.z_any (by decide +kernel) (pa_cons (pe_lc (own := [("_law_moment", 9)]) (g := gName 9) (tt := tYes) rfl sc_l_trim.nd (pi_list (pv 1)) (blkOk_by (N := ["_law_model", "_law_kept", "_law_notes", "_law_note", "_law_number", "_law_record_here", "_law_died", "_law_segment", "_law_leaves", "_law_moment", "_law_owners", "_law_segments"]) (sc := defScope s_l_trim) (by decide +kernel)) (fun _ _ _ _ _ => pg_name (i := 9) sc_l_trim.nd rfl (.inl rfl)) (fun _ _ _ _ _ => pts_nil) (fun _ _ _ _ _ => (pe_and (pe_cmpR op_le (pv 4) (pv 9) (nomark _)) (pe_one (pe_or (pe_cmpR op_isN (pv 6) pe_non (nomark _)) (pe_one (pe_cmpR op_lt (pv 9) (pv 6) (nomark _)))))))) pa_nil)))
          (pss_one (ps_expr (pe_bm PySem.F.plainAttrs_list PySem.F.slot_list_append PySem.F.type_list_append mt_append (pv 2) (pa_cons (pv 3) pa_nil))))
          pss_nil))))
      (pss_cons (ps_dput hu (pv 0) pe_str (pv 2) rfl)
      (pss_cons (ps_setLc (i := 10) (own := [("_law_note", 3)]) (g := gName 3) (tt := tYes) rfl sc_l_trim.nd rfl rfl (sw_true rfl rfl rfl (by decide +kernel)) (pi_list (pv 2)) (blkOk_by (N := ["_law_model", "_law_kept", "_law_notes", "_law_note", "_law_number", "_law_record_here", "_law_died", "_law_segment", "_law_leaves", "_law_moment", "_law_owners", "_law_segments"]) (sc := defScope s_l_trim) (by decide +kernel)) (fun _ _ _ _ _ => pg_name (i := 3) sc_l_trim.nd rfl (.inl rfl)) (fun _ _ _ _ _ => pts_nil) (fun _ _ _ _ _ => (pe_ix (ix_tupK (K := K) rfl) (pv 3) pe_int (fun _ _ => rfl))))
      (pss_cons (ps_set (i := 11) sc_l_trim.nd rfl (.inl rfl) (pe_lst pa_nil))
      (pss_cons (ps_for PassesOwn.never rfl (pi_list (pe_dget hu (pv 0) pe_str (fun _ _ => rfl))) (pg_name (i := 7) sc_l_trim.nd rfl (.inl rfl))
        (pss_one (ps_if (pt_cmpR (op_in_seqK (K := K) rfl) (pe_ix (ix_tupK (K := K) rfl) (pv 7) pe_int (fun _ _ => rfl)) (pv 10) (by rfl))
          (pss_one (ps_expr (pe_bm PySem.F.plainAttrs_list PySem.F.slot_list_append PySem.F.type_list_append mt_append (pv 11) (pa_cons (pv 7) pa_nil))))
          (pss_one (ps_expr (C8.pe_c c_l_close hr (by decide) (by rfl) (pa_cons (pv 0) (pa_cons (pe_ix (ix_tupK (K := K) rfl) (pv 7) pe_int (fun _ _ => rfl)) (pa_cons (pe_ix (ix_tupK (K := K) rfl) (pv 7) pe_int (fun _ _ => rfl)) pa_nil)))))))))
      (pss_one (ps_dput hu (pv 0) pe_str (pv 11) rfl))))))))), ?_⟩
    refine ⟨_, rfl, m, _, rfl, dg_pins h1, pa, _, rfl, .inl (SqL.of (hF _ _ h2)), fun l1 nl1 => ?_⟩
    have s1 := same_new (o := .lst (ms.pins.map V.int)) nl1
    refine ⟨_, rfl, m, _, rfl, dg_floor (s1 _ _ h1), ?_⟩
    refine ⟨_, rfl, m, _, rfl, dg_now (s1 _ _ h1), _, _, rfl, rfl, _, _, rfl, rfl, RgOk.of_le ff.1 (by omega) (by omega) (by omega), fun l2 nl2 => ?_⟩
    have s2 := same_app (o := .lst (rgV ms.floor (ms.now + 1))) s1 nl2
    have n12 : l1 ≠ l2 := ne_of_none (upd_same (H := H) (a := l1) (o := .lst (ms.pins.map V.int))) nl2
    have lr : (rgV ms.floor (ms.now + 1)).length ≤ 1001 := by rw [rgV_length]; omega
    refine ⟨l1, l2, _, _, rfl, rfl, by rw [upd_ne n12, upd_same], upd_same, le1000 (by rw [List.length_map]; omega), fun kp nkp => ?_⟩
    have s3 := same_app (o := .lst (ms.pins.map V.int ++ rgV ms.floor (ms.now + 1))) s2 nkp
    have ek : ms.pins.map V.int ++ rgV ms.floor (ms.now + 1) = (keptM ms).map V.int := by
      unfold keptM rgV
      rw [List.map_append, List.map_map]
      rfl
    have lk : (keptM ms).length ≤ 3000 := by
      have z : ((keptM ms).map V.int).length = (ms.pins.map V.int ++ rgV ms.floor (ms.now + 1)).length := by rw [ek]
      rw [List.length_map, List.length_append, List.length_map] at z
      omega
    have hk3 : (upd (upd (upd H l1 (.lst (ms.pins.map V.int))) l2 (.lst (rgV ms.floor (ms.now + 1)))) kp (.lst (ms.pins.map V.int ++ rgV ms.floor (ms.now + 1)))) kp = some (.lst ((keptM ms).map V.int)) := by rw [upd_same, ek]
    generalize hH3 : upd (upd (upd H l1 (.lst (ms.pins.map V.int))) l2 (.lst (rgV ms.floor (ms.now + 1)))) kp (.lst (ms.pins.map V.int ++ rgV ms.floor (ms.now + 1))) = H3 at *
    refine ⟨Nat.zero_le _, fun nl nnl => ?_⟩
    have s4 := same_app (o := .lst []) s3 nnl
    have hk4 := same_new (o := .lst []) nnl _ _ hk3
    refine ⟨_, rfl, m, _, rfl, dg_notes (s4 _ _ h1), na, rfl, ⟨_, SqL.of (s4 _ _ (hF _ _ n1))⟩, for_list (K := K) (a := na) (xs := nas.map V.ref) (fun i σ H2 => Same H H2 ∧ H2 kp = some (.lst ((keptM ms).map V.int)) ∧ (∃ as : List Addr, H2 nl = some (.lst (as.map V.ref)) ∧ Paired (MNoteAt K F) as ((ms.notes.take i).filter (aliveM ms))) ∧ ∃ a3 a4 a5 a6 a7 a8 : Option V, σ = [some (.ref m), some (.ref kp), some (.ref nl), a3, a4, a5, a6, a7, a8, none, none, none])
      ⟨s4, hk4, ⟨[], upd_same, .nil⟩, none, none, none, none, none, none, rfl⟩ (fun i σ H2 _ p => SqL.of (p.1 _ _ (hF _ _ n1))) ?_ ?_⟩
    · rintro i v σ H2 hi ⟨s5, hk, ⟨as, e1, e2⟩, a3, a4, a5, a6, a7, a8, rfl⟩
      obtain ⟨a, ha, rfl⟩ := map_at hi
      obtain ⟨nd, hnd, lv, r1, r2, r3⟩ := paired_at n2 ha
      have r1' : SqT K H2 a [.int nd.num, .ref nd.ra, oV nd.died, oV nd.seg, .ref lv] := .inl (.inl (s5 _ _ (hF _ _ r1)))
      have la := e2.length
      have la2 : ((ms.notes.take i).filter (aliveM ms)).length ≤ 1000 := Nat.le_trans (List.length_filter_le _ _) (by rw [List.length_take]; omega)
      have nnk : nl ≠ kp := fun z => by
        rw [z, hk3] at nnl
        cases nnl
      refine ⟨_, rfl, a, _, rfl, r1', rfl, _, _, rfl, _, _, rfl, _, _, rfl, _, _, rfl, _, _, rfl, rfl, ?_⟩
      refine ⟨_, rfl, kp, rfl, ⟨_, SqL.of hk⟩, fun D nD => ?_⟩
      refine lc_list_pure nD (SqL.of hk) (keptM ms) (by rw [List.length_map]) (by rw [List.length_map]; omega) (fun t => some (.bl (livesAt nd.num nd.died t))) (fun j x t H4 Qn Qy hx ht s6 hn hy => ?_) (fun H4 s6 e => ?_)
      · obtain ⟨t', ht', rfl⟩ := map_at hx
        have em : t' = t := Option.some.inj (ht'.symm.trans ht)
        subst em
        refine ⟨rfl, lc_yes ?_⟩
        refine ⟨_, rfl, _, rfl, _, _, rfl, rfl, _, rfl, ?_⟩
        refine ite_b (fun c1 => ?_) (fun c1 => ?_)
        · have c1 : nd.num ≤ t' := of_decide_eq_true c1
          cases hd : nd.died with
          | none =>
            refine ⟨_, rfl, rfl, _, rfl, iteT ?_⟩
            have z := hy _ rfl H4 (Same.refl _)
            have e : livesAt nd.num nd.died t' = true := by rw [hd]; simp [livesAt, c1]
            rw [e] at z
            exact z
          | some d =>
            refine ⟨_, rfl, rfl, _, rfl, iteF ?_⟩
            refine ⟨_, rfl, _, rfl, _, _, rfl, rfl, ?_⟩
            have z := hy _ rfl H4 (Same.refl _)
            have e : livesAt nd.num nd.died t' = decide (t' < d) := by rw [hd]; simp [livesAt, c1]
            rw [e] at z
            exact z
        · have c1 : ¬ nd.num ≤ t' := of_decide_eq_false c1
          have z := hy _ rfl H4 (Same.refl _)
          have e : livesAt nd.num nd.died t' = false := by simp [livesAt, c1]
          rw [e] at z
          exact z
      · refine ⟨D, (keptM ms).map (livesAt nd.num nd.died), rfl, SqL.of ?_, _, rfl, ?_⟩
        · rw [e, List.map_map, List.filterMap_eq_map']
          rfl
        · rw [List.any_map]
          have ea : (keptM ms).any (id ∘ livesAt nd.num nd.died) = aliveM ms nd := rfl
          rw [ea]
          have e1' := s6 _ _ e1
          cases al : aliveM ms nd with
          | true =>
            refine iteT ⟨_, rfl, .inl ⟨rfl, _, SqL.of e1'⟩, _, rfl, nl, _, _, rfl, rfl, e1', lt1000 (by rw [List.length_map]; omega), ?_⟩
            refine ⟨fun b o z => ?_, ?_, ⟨as ++ [a], ?_, ?_⟩, _, _, _, _, _, _, rfl⟩
            · have hb : b ≠ nl := ne_of_none z (s3.free nnl)
              rw [upd_ne hb]
              exact s6 _ _ (s5 _ _ z)
            · rw [upd_ne nnk.symm]
              exact s6 _ _ hk
            · rw [upd_same, List.map_append]
              rfl
            · rw [filter_snoc _ hnd, al, if_pos rfl]
              exact paired_append e2 (.cons ⟨lv, r1, r2, r3⟩ .nil)
          | false =>
            refine iteF ⟨s5.trans s6, s6 _ _ hk, ⟨as, e1', ?_⟩, _, _, _, _, _, _, rfl⟩
            rw [filter_snoc _ hnd, al, if_neg (by decide), List.append_nil]
            exact e2
    rintro σ H5 ⟨s5, hk5, ⟨as, e1, e2⟩, a3, a4, a5, a6, a7, a8, rfl⟩
    rw [List.length_map, ln, List.take_length] at e2
    have la := e2.length
    have la2 : (ms.notes.filter (aliveM ms)).length ≤ ms.notes.length := List.length_filter_le _ _
    have nl0 : H nl = none := s3.free nnl
    have g5 : Gr [m] F H F H5 := (Gr.refl hF).samef s5
    have g6 := g5.told e1 (hF.free nl0) nl0
    refine ⟨_, rfl, _, rfl, m, _, rfl, dp_notes (s5 _ _ h1), ?_⟩
    have fm6 : (upd F nl (.lst (as.map V.ref))) m = none := by
      rw [upd_ne (ne_of_none h1 nl0)]
      exact hM.out
    have g7 := g6.put (o := .dK (modK ms.now ms.floor pa nl sa ms.up ra ca ms.begins)) fm6 (.inr (by simp))
    have nlm : nl ≠ m := (ne_of_none h1 nl0).symm
    have e7 : (upd H5 m (.dK (modK ms.now ms.floor pa nl sa ms.up ra ca ms.begins))) nl = some (.lst (as.map V.ref)) := by rw [upd_ne nlm]; exact e1
    have h7 : (upd H5 m (.dK (modK ms.now ms.floor pa nl sa ms.up ra ca ms.begins))) m = some (.dK (modK ms.now ms.floor pa nl sa ms.up ra ca ms.begins)) := upd_same
    have f7 : (upd F nl (.lst (as.map V.ref))) nl = some (.lst (as.map V.ref)) := upd_same
    generalize hF7 : upd F nl (.lst (as.map V.ref)) = F7 at *
    generalize hH7 : upd H5 m (.dK (modK ms.now ms.floor pa nl sa ms.up ra ca ms.begins)) = H7 at *
    have e2' : Paired (MNoteAt K F7) as (ms.notes.filter (aliveM ms)) := Paired.mono (fun _ _ z => z.mono g7.ff) e2
    refine ⟨_, rfl, nl, rfl, ⟨_, SqL.of e7⟩, fun D nD => ?_⟩
    refine lc_list_pure nD (SqL.of e7) (as.zip (ms.notes.filter (aliveM ms))) (by rw [List.length_zip, List.length_map]; omega) (by rw [List.length_map]; omega) (fun q => some (oV q.2.seg)) (fun i x q H8 Qn Qy hx hm s8 hn hy => ?_) (fun H8 s8 e8 => ?_)
    · obtain ⟨a, ha, rfl⟩ := map_at hx
      obtain ⟨z1, z2⟩ := zip_at hm
      have ea : a = q.1 := Option.some.inj (ha.symm.trans z1)
      subst ea
      obtain ⟨nd, hnd, hat⟩ := paired_at e2' ha
      have en : nd = q.2 := Option.some.inj (hnd.symm.trans z2)
      subst en
      obtain ⟨lv, r1, r2, r3⟩ := hat
      refine ⟨rfl, lc_yes ?_⟩
      exact ⟨_, rfl, q.1, _, 3, _, rfl, rfl, .inl (.inl (s8 _ _ (g7.fh _ _ r1))), atI_nat (j := 3) rfl, hy _ rfl H8 (Same.refl _)⟩
    rw [filterMap_zip_snd (fun nd : NoteD => oV nd.seg) (by omega)] at e8
    have g8 : Gr [m] F H F7 H8 := g7.samef s8
    have h8 := s8 _ _ h7
    have D0 : H D = none := g7.h0none nD
    have Dm : D ≠ m := (ne_of_none h1 D0).symm
    have FD : F7 D = none := g7.fh.free nD
    have hM8 : MAt K F7 H8 m { ms with notes := ms.notes.filter (aliveM ms) } := ⟨fm6, pa, nl, sa, ra, ca, h8, g7.ff _ _ h2, ⟨as, f7, e2'⟩, ⟨sas, g7.ff _ _ q1, Paired.mono (fun _ _ z => z.mono g7.ff) q2⟩, h5.mono g7.ff fun _ _ z => z.mono g7.ff, h6.mono g7.ff fun _ _ z => z.mono g7.ff⟩
    refine ⟨Nat.zero_le _, fun sl nsl => ?_⟩
    have sm : sl ≠ m := (ne_of_none h8 nsl).symm
    have sD : sl ≠ D := (ne_of_none e8 nsl).symm
    have sl0 : H sl = none := g8.h0none nsl
    have Fsl : F7 sl = none := g8.fh.free nsl
    have g9 : Gr [m] F H F7 (upd H8 sl (.lst [])) := g8.made nsl
    have hM9 : MAt K F7 (upd H8 sl (.lst [])) m { ms with notes := ms.notes.filter (aliveM ms) } := hM8.frame (S := []) ((Gr.refl g8.fh).made nsl) (by simp)
    have h9 := same_new (o := .lst []) nsl _ _ h8
    have len := fun i => foldCloseS_len (fun t => (t.shard, t.name)) ((ms.segs.take i).filter fun s => !ownedBy (ms.notes.filter (aliveM ms)) s) ms.closed
    refine ⟨_, rfl, m, _, rfl, dg_segments h9, sa, rfl, ⟨_, SqL.of (g9.fh _ _ (g9.ff _ _ q1))⟩, for_list (K := K) (a := sa) (xs := sas.map V.ref) (fun i σ H2 => ∃ Fi, Gr [m] F H Fi H2 ∧ Same F7 Fi ∧ H2 D = some (.lst ((ms.notes.filter (aliveM ms)).map fun nd => oV nd.seg)) ∧ Fi D = none ∧ Fi sl = none ∧
        MAt K Fi H2 m { ms with notes := ms.notes.filter (aliveM ms), closed := ((ms.segs.take i).filter fun s => !ownedBy (ms.notes.filter (aliveM ms)) s).foldl (fun cl s => closeC (s.shard, s.name) cl) ms.closed } ∧
        (∃ us : List Addr, H2 sl = some (.lst (us.map V.ref)) ∧ Paired (MSegAt Fi) us ((ms.segs.take i).filter (ownedBy (ms.notes.filter (aliveM ms))))) ∧ ∃ b3 b4 b5 b6 b7 b8 : Option V, σ = [some (.ref m), some (.ref kp), some (.ref nl), b3, b4, b5, b6, b7, b8, none, some (.ref D), some (.ref sl)])
      ⟨F7, g9, Same.refl _, by rw [upd_ne sD.symm]; exact e8, FD, Fsl, hM9, ⟨[], upd_same, .nil⟩, _, _, _, _, _, _, rfl⟩ (fun i σ H2 _ p => by obtain ⟨Fi, g, sF, _⟩ := p; exact SqL.of (g.fh _ _ (g.ff _ _ q1))) ?_ ?_⟩
    · rintro i v σ H2 hi ⟨Fi, g, sF, hD, FiD, Fis, hMi, ⟨us, u1, u2⟩, b3, b4, b5, b6, b7, b8, rfl⟩
      obtain ⟨t, ht, rfl⟩ := map_at hi
      obtain ⟨sd, hq, sna, spa, r1, r2, r3⟩ := paired_at q2 ht
      have r1' : SqT K H2 t [.int sd.num, .int sd.shard, .ref sna, .ref spa] := .inl (.inl (g.fh _ _ (g.ff _ _ r1)))
      have lu := u2.length
      have lu2 : ((ms.segs.take i).filter (ownedBy (ms.notes.filter (aliveM ms)))).length ≤ 1000 := Nat.le_trans (List.length_filter_le _ _) (by rw [List.length_take]; omega)
      have li := len i
      have lf : ((ms.segs.take i).filter fun s => !ownedBy (ms.notes.filter (aliveM ms)) s).length ≤ ms.segs.length := Nat.le_trans (List.length_filter_le _ _) (by rw [List.length_take]; exact Nat.min_le_right _ _)
      obtain ⟨pa2, na2, sa2, ra2, ca2, hm2, _⟩ := hMi.ex
      refine ⟨_, rfl, t, _, 0, _, rfl, rfl, r1', atI_nat (j := 0) rfl, _, rfl, D, _, rfl, .inl (SqL.of hD), rfl, flat_opt _, _, rfl, ?_⟩
      rw [if_neg (show ¬ (false = true) by decide), inV_opt]
      have eo : ((ms.notes.filter (aliveM ms)).any fun nd => decide (nd.seg = some sd.num)) = ownedBy (ms.notes.filter (aliveM ms)) sd := rfl
      rw [eo]
      cases ow : ownedBy (ms.notes.filter (aliveM ms)) sd with
      | true =>
        refine iteT ⟨_, rfl, .inl ⟨rfl, _, SqL.of u1⟩, _, rfl, sl, _, _, rfl, rfl, u1, lt1000 (by rw [List.length_map]; omega), ?_⟩
        have gs : Gr [sl] Fi H2 Fi (upd H2 sl (.lst (us.map V.ref ++ [V.ref t]))) := (Gr.refl g.fh).put Fis (.inr (by simp))
        refine ⟨Fi, g.put Fis (.inl sl0), sF, by rw [upd_ne sD.symm]; exact hD, FiD, Fis, ?_, ⟨us ++ [t], ?_, ?_⟩, _, _, _, _, _, _, rfl⟩
        · rw [filter_snoc _ hq, ow, if_neg (by decide), List.append_nil]
          exact hMi.frame gs (by simp [sm.symm])
        · rw [upd_same, List.map_append]
          rfl
        · rw [filter_snoc _ hq, ow, if_pos rfl]
          exact paired_append u2 (.cons ⟨sna, spa, g.ff _ _ r1, g.ff _ _ r2, g.ff _ _ r3⟩ .nil)
      | false =>
        refine iteF ⟨_, rfl, _, rfl, t, _, 1, _, rfl, rfl, r1', atI_nat (j := 1) rfl, ?_⟩
        refine ⟨_, rfl, t, _, 2, _, rfl, rfl, r1', atI_nat (j := 2) rfl, ?_⟩
        refine ⟨Fi, m, _, sd.shard, sd.name, sna, rfl, g.fh, hMi, g.ff _ _ r2, Nat.le_trans li (by omega), fun F' H' g' hM' => ?_⟩
        refine ⟨F', g.trans g', sF.trans g'.ff, g'.keep _ _ hD (by simp [Dm]), g'.out hD FiD, g'.out u1 Fis, ?_, ⟨us, g'.keep _ _ u1 (by simp [sm]), ?_⟩, _, _, _, _, _, _, rfl⟩
        · rw [filter_snoc _ hq, ow, if_pos (by decide), List.foldl_append]
          exact hM'
        · rw [filter_snoc _ hq, ow, if_neg (by decide), List.append_nil]
          exact Paired.mono (fun _ _ z => z.mono g'.ff) u2
    · rintro σ H2 ⟨Fi, g, sF, hD, FiD, Fis, hMi, ⟨us, u1, u2⟩, b3, b4, b5, b6, b7, b8, rfl⟩
      rw [List.length_map, lsg, List.take_length] at hMi u2
      obtain ⟨pa2, na2, sa2, ra2, ca2, hm2, z2, z3, z4, z5, z6⟩ := hMi.ex
      have gA := g.told u1 Fis sl0
      refine ⟨_, rfl, _, rfl, m, _, rfl, dp_segments hm2, ?_⟩
      have fmA : (upd Fi sl (.lst (us.map V.ref))) m = none := by
        rw [upd_ne sm.symm]
        exact hMi.out
      have gB := gA.put (o := .dK (modK ms.now ms.floor pa2 na2 sl ms.up ra2 ca2 ms.begins)) fmA (.inr (by simp))
      have sI : Same Fi (upd Fi sl (.lst (us.map V.ref))) := same_new Fis
      exact k _ _ gB ⟨fmA, pa2, na2, sl, ra2, ca2, upd_same, sI _ _ z2, z3.mono sI fun _ _ z => z.mono sI, ⟨us, upd_same, Paired.mono (fun _ _ z => z.mono sI) u2⟩, z5.mono sI fun _ _ z => z.mono sI, z6.mono sI fun _ _ z => z.mono sI⟩
end
end K94
/-! The model's functions, part 4. -/
namespace K94
open PySem PySem.Spec PyProof.Rows L2 LamX
section
variable {P : Program} {w : World} {K : PySem.W.Frag} {mg : Str → Option Value} {base : Heap}
/-- the list of the notes is another one -/
theorem MAt.setNotes {F F' H' : Hp} {m pa sa ra ca nl : Addr} {ms : MS} {ns : List NoteD} {nw up : Int} (s : Same F F') (out : F' m = none) (h2 : F pa = some (.lst (ms.pins.map V.int))) (h4 : LsAt F (MSegAt F) sa ms.segs) (h5 : LsAt F (RtAt F) ra ms.routes) (h6 : LsAt F (ClAt F) ca ms.closed)
    (hm : H' m = some (.dK (modK nw ms.floor pa nl sa up ra ca ms.begins))) (hn : LsAt F' (MNoteAt K F') nl ns) : MAt K F' H' m { ms with notes := ns, now := nw, up := up } :=
  ⟨out, pa, nl, sa, ra, ca, hm, s _ _ h2, hn, h4.mono s fun _ _ e => e.mono s, h5.mono s fun _ _ e => e.mono s, h6.mono s fun _ _ e => e.mono s⟩
/-! ### own -/
theorem sc_l_own : FnScope ["_law_model", "_law_shard_here", "_law_name", "_law_partitions", "_law_homes", "_law_number", "_law_notes", "_law_note", "_law_home", "_law_leaves"] ["_law_model", "_law_shard_here", "_law_name", "_law_partitions", "_law_homes"] (defScope s_l_own) := ⟨rfl, rfl, rfl, by decide +kernel, rfl, by decide +kernel, by decide +kernel⟩
def sp_l_own (K : PySem.W.Frag) : Sp := fun vs H Q _ => ∃ (F : Hp) (m : Addr) (ms : MS) (sh : Int) (name : Int × Int) (na pz ha inner : Addr) (hs : List Addr) (homes : List (Int × List Int)), vs = [.ref m, .int sh, .ref na, .ref pz, .ref ha] ∧ Same F H ∧ MAt K F H m ms ∧ ms.Fit ∧ NmAt F na name ∧ F pz = some (.tup [.ref inner]) ∧ F ha = some (.tup (hs.map V.ref)) ∧ Paired (HomeAt K F) hs homes ∧
  ∀ F' H', Gr [m] F H F' H' → MAt K F' H' m (ownM sh name inner homes ms) → Q (.int ms.up) H'
theorem ok_l_own (T : Tx w K mg) : C8.Cal P w K mg base 3 "_law_own" (sp_l_own K) [] := by
  have c_l_turns := ok_l_turns (P := P) (base := base) T
  refine cal_mk (st := s_l_own) T.d_l_own T.g_l_own sc_l_own (fun _ _ _ _ _ _ us hl => match us, hl with | [_, _, _, _, _], _ => rfl) (fun vs H Q E h => ?_) (fun f cdv A outer s H vs Q E hr h => ?_)
  · obtain ⟨F, m, ms, sh, name, na, pz, ha, inner, hs, homes, rfl, _⟩ := h
    rfl
  · obtain ⟨F, m, ms, sh, name, na, pz, ha, inner, hs, homes, rfl, hF, hM, fit, hna, hpz, hha, hp, k⟩ := h
    obtain ⟨pa, nta, sa, ra, ca, h1, h2, ⟨nas, n1, n2⟩, ⟨sas, q1, q2⟩, h5, h6⟩ := hM.ex
    have hu := hu_of hr
    have ln := n2.length
    have lsg := q2.length
    have fn := fit.notes
    have fs := fit.segs
    refine ⟨_, (pss_cons (ps_set (i := 5) sc_l_own.nd rfl (.inl rfl) (pe_dget hu (pv 0) pe_str (fun _ _ => rfl)))
      (pss_cons (ps_set (i := 6) sc_l_own.nd rfl (.inl rfl) (pe_lst pa_nil))
      (pss_cons (ps_for PassesOwn.never rfl (pi_list (pe_dget hu (pv 0) pe_str (fun _ _ => rfl))) (pg_name (i := 7) sc_l_own.nd rfl (.inl rfl))
        (pss_cons (ps_for PassesOwn.never rfl (pi_tup (pv 4)) (pg_tup rfl (pgs_cons (pg_name (i := 8) sc_l_own.nd rfl (.inl rfl)) (pgs_cons (pg_name (i := 9) sc_l_own.nd rfl (.inl rfl)) pgs_nil)))
          (pss_one (ps_if (PW.pt (pw_and (pt_cmpR op_eq (pv 8) (pe_ix (ix_tupK (K := K) rfl) (pv 7) pe_int (fun _ _ => rfl)) (nomark _)) (pw_and1 (pt_val (C8.pe_c c_l_turns hr (by decide) (by rfl) (pa_cons (pv 0) (pa_cons (pv 1) (pa_cons (pv 2) (pa_cons (pv 7) pa_nil)))))))))
            (pss_one (ps_set (i := 7) sc_l_own.nd rfl (.inl rfl) (pe_tup (pa_cons (pe_ix (ix_tupK (K := K) rfl) (pv 7) pe_int (fun _ _ => rfl)) (pa_cons (pe_ix (ix_tupK (K := K) rfl) (pv 7) pe_int (fun _ _ => rfl)) (pa_cons (pe_ix (ix_tupK (K := K) rfl) (pv 7) pe_int (fun _ _ => rfl)) (pa_cons (pv 5) (pa_cons (pv 9) pa_nil))))))))
            pss_nil)))
        (pss_one (ps_expr (pe_bm PySem.F.plainAttrs_list PySem.F.slot_list_append PySem.F.type_list_append mt_append (pv 6) (pa_cons (pv 7) pa_nil))))))
      (pss_cons (ps_dput hu (pv 0) pe_str (pv 6) rfl)
      (pss_cons (ps_dput hu (pv 0) pe_str (pe_op op_add (pv 5) pe_int) rfl)
      (pss_cons (ps_dput hu (pv 0) pe_str (pe_op op_cat (pe_dget hu (pv 0) pe_str (fun _ _ => rfl)) (pe_lst (pa_cons (pe_tup (pa_cons (pv 5) (pa_cons (pv 1) (pa_cons (pv 2) (pa_cons (pv 3) pa_nil))))) pa_nil))) rfl)
      (pss_one (ps_ret (pv 5))))))))), ?_⟩
    refine ⟨_, rfl, m, _, rfl, dg_upcoming h1, ?_⟩
    refine ⟨Nat.zero_le _, fun p np => ?_⟩
    have sp := same_new (o := .lst []) np
    refine ⟨_, rfl, m, _, rfl, dg_notes (sp _ _ h1), nta, rfl, ⟨_, SqL.of (sp _ _ (hF _ _ n1))⟩, for_list (K := K) (a := nta) (xs := nas.map V.ref) (fun i σ H2 => ∃ (Fi : Hp) (as : List Addr), Gr [] F H Fi H2 ∧ Fi p = none ∧ H2 p = some (.lst (as.map V.ref)) ∧ Paired (MNoteAt K Fi) as ((ms.notes.take i).map fun nd => homes.foldl (homeM ms sh name) nd) ∧
        ∃ y7 y8 y9, σ = [some (.ref m), some (.int sh), some (.ref na), some (.ref pz), some (.ref ha), some (.int ms.up), some (.ref p), y7, y8, y9])
      ⟨F, [], (Gr.refl hF).made np, hF.free np, upd_same, .nil, none, none, none, rfl⟩ (fun i σ H2 _ q => by obtain ⟨Fi, as, g, _⟩ := q; exact SqL.of (g.hh _ _ (hF _ _ n1))) ?_ ?_⟩
    · rintro i v σ H2 hi ⟨Fi, as, g, fp, hpl, pr, y7, y8, y9, rfl⟩
      obtain ⟨a, hA, rfl⟩ := map_at hi
      obtain ⟨nd, hnd, hat⟩ := paired_at n2 hA
      have hat' := hat.mono g.ff
      have lp := pr.length
      have l2 : ((ms.notes.take i).map fun nd => homes.foldl (homeM ms sh name) nd).length ≤ 1000 := by
        rw [List.length_map, List.length_take]
        exact Nat.le_trans (Nat.min_le_right _ _) fn
      have hha2 := g.fh _ _ (g.ff _ _ hha)
      refine ⟨_, rfl, ha, rfl, ⟨_, .inl (.inl hha2)⟩, for_tup (K := K) (a := ha) (xs := hs.map V.ref) (fun j σ H3 => ∃ (Fj : Hp) (b : Addr), Gr [] Fi H2 Fj H3 ∧ MNoteAt K Fj b ((homes.take j).foldl (homeM ms sh name) nd) ∧
          ∃ z8 z9, σ = [some (.ref m), some (.int sh), some (.ref na), some (.ref pz), some (.ref ha), some (.int ms.up), some (.ref p), some (.ref b), z8, z9])
        ⟨Fi, a, Gr.refl g.fh, hat', _, _, rfl⟩ (fun j σ H3 _ q => by obtain ⟨Fj, b, g3, _⟩ := q; exact .inl (.inl (g3.hh _ _ hha2))) ?_ ?_⟩
      · rintro j v σ H3 hj ⟨Fj, b, g3, hb, z8, z9, rfl⟩
        obtain ⟨t, ht, rfl⟩ := map_at hj
        obtain ⟨h, hh, lv, r1, r2⟩ := paired_at hp ht
        have gg := g.trans g3
        have e : (homes.take (j + 1)).foldl (homeM ms sh name) nd = homeM ms sh name ((homes.take j).foldl (homeM ms sh name) nd) h := by
          rw [take_succ_of hh, List.foldl_append]
          rfl
        generalize (homes.take j).foldl (homeM ms sh name) nd = cur at *
        obtain ⟨lv2, b1, b2, b3⟩ := hb
        have b1' : SqT K H3 b [.int cur.num, .ref cur.ra, oV cur.died, oV cur.seg, .ref lv2] := .inl (.inl (g3.fh _ _ b1))
        refine ⟨t, _, rfl, .inl (.inl (gg.fh _ _ (gg.ff _ _ r1))), rfl, _, _, rfl, _, _, rfl, rfl, ?_⟩
        refine ⟨_, rfl, _, rfl, b, _, 0, _, rfl, rfl, b1', atI_nat (j := 0) rfl, rfl, _, rfl, ?_⟩
        rw [v_int]
        have stay : homeM ms sh name cur h = cur → ∀ z8 z9, ∃ (Fj : Hp) (b2 : Addr), Gr [] Fi H2 Fj H3 ∧ MNoteAt K Fj b2 ((homes.take (j + 1)).foldl (homeM ms sh name) nd) ∧ ∃ y8 y9, ([some (V.ref m), some (.int sh), some (.ref na), some (.ref pz), some (.ref ha), some (.int ms.up), some (.ref p), some (.ref b), z8, z9] : L2.St) = [some (.ref m), some (.int sh), some (.ref na), some (.ref pz), some (.ref ha), some (.int ms.up), some (.ref p), some (.ref b2), y8, y9] := fun e2 z8 z9 =>
          ⟨Fj, b, g3, by rw [e, e2]; exact ⟨lv2, b1, b2, b3⟩, _, _, rfl⟩
        cases c1 : decide (h.1 = cur.num) with
        | false =>
          refine iteF (stay ?_ _ _)
          unfold homeM
          rw [if_neg fun z => of_decide_eq_false c1 z.1]
        | true =>
          refine iteT ⟨_, rfl, _, rfl, _, rfl, _, rfl, Fj, m, ms, sh, name, cur, na, b, rfl, gg.fh, hM.frame gg (by simp), hna.mono gg.ff, ⟨lv2, b1, b2, b3⟩, fun H4 s4 => ⟨_, rfl, ?_⟩⟩
          have g4 := g3.samef s4
          refine ite_b (fun c2 => ?_) (fun c2 => ?_)
          · have b1'' := sqT_same s4 b1'
            refine ⟨_, rfl, b, _, 0, _, rfl, rfl, b1'', atI_nat (j := 0) rfl, ?_⟩
            refine ⟨_, rfl, b, _, 1, _, rfl, rfl, b1'', atI_nat (j := 1) rfl, ?_⟩
            refine ⟨_, rfl, b, _, 2, _, rfl, rfl, b1'', atI_nat (j := 2) rfl, ?_⟩
            refine ⟨_, rfl, _, rfl, (by show 5 ≤ sizeLine; decide), fun u nu => ?_⟩
            have g5 := g4.new_ (o := .tup [V.int cur.num, V.ref cur.ra, oV cur.died, V.int ms.up, V.ref lv]) nu
            have sN := same_new (o := .tup [V.int cur.num, V.ref cur.ra, oV cur.died, V.int ms.up, V.ref lv]) (g4.fh.free nu)
            refine ⟨_, u, g5, ?_, _, _, rfl⟩
            have e2 : homeM ms sh name cur h = { cur with seg := some ms.up, leaves := h.2 } := by
              unfold homeM
              rw [if_pos ⟨of_decide_eq_true c1, c2⟩]
            rw [e, e2]
            exact ⟨lv, upd_same, b2.mono sN, sqT_same (gg.ff.trans sN) r2⟩
          · have e2 : homeM ms sh name cur h = cur := by
              unfold homeM
              rw [if_neg fun z => Bool.noConfusion (c2.symm.trans z.2)]
            exact ⟨Fj, b, g4, by rw [e, e2]; exact ⟨lv2, b1, b2, b3⟩, _, _, rfl⟩
      · rintro σ H3 ⟨Fj, b, g3, hb, z8, z9, rfl⟩
        rw [List.length_map, hp.length, List.take_length] at hb
        have hp3 := g3.hh _ _ hpl
        have fp3 := g3.out hpl fp
        refine ⟨_, rfl, .inl ⟨rfl, _, SqL.of hp3⟩, _, rfl, p, _, _, rfl, rfl, hp3, lt1000 (by rw [List.length_map]; omega), ?_⟩
        refine ⟨Fj, as ++ [b], (g.trans g3).put fp3 (.inl np), fp3, ?_, ?_, _, _, _, rfl⟩
        · rw [upd_same, List.map_append]
          rfl
        · rw [take_succ_of hnd, List.map_append]
          exact paired_append (Paired.mono (fun _ _ z => z.mono g3.ff) pr) (.cons hb .nil)
    rintro σ H2 ⟨Fi, as, g, fp, hpl, pr, y7, y8, y9, rfl⟩
    rw [List.length_map, ln, List.take_length] at pr
    have h12 := g.hh _ _ h1
    have g0 : Gr [m] F H Fi H2 := g.mono (by simp)
    have gA := g0.told hpl fp np
    have pm : p ≠ m := ne_of_none_ h1 np
    have sI : Same Fi (upd Fi p (.lst (as.map V.ref))) := same_new fp
    have fmA : (upd Fi p (.lst (as.map V.ref))) m = none := by
      rw [upd_ne pm.symm]
      exact g.out h1 hM.out
    refine ⟨_, rfl, _, rfl, m, _, rfl, dp_notes h12, ?_⟩
    have gB := gA.put (o := .dK (modK ms.now ms.floor pa p sa ms.up ra ca ms.begins)) fmA (.inr (by simp))
    refine ⟨_, rfl, _, _, rfl, rfl, ?_⟩
    refine ⟨_, rfl, m, _, rfl, dp_upcoming upd_same, ?_⟩
    rw [upd_upd]
    have gC := gA.put (o := .dK (modK ms.now ms.floor pa p sa (ms.up + 1) ra ca ms.begins)) fmA (.inr (by simp))
    have hmC : (upd H2 m (.dK (modK ms.now ms.floor pa p sa (ms.up + 1) ra ca ms.begins))) m = some (.dK (modK ms.now ms.floor pa p sa (ms.up + 1) ra ca ms.begins)) := upd_same
    generalize hHC : upd H2 m (.dK (modK ms.now ms.floor pa p sa (ms.up + 1) ra ca ms.begins)) = HC at *
    refine ⟨_, rfl, m, _, rfl, dg_segments hmC, ?_⟩
    refine ⟨_, rfl, _, rfl, _, rfl, _, rfl, (by show 4 ≤ sizeLine; decide), fun t nt => ⟨(by show 1 ≤ sizeLine; decide), fun u nu => ?_⟩⟩
    have gD := gC.new_ (o := .tup [V.int ms.up, V.int sh, V.ref na, V.ref pz]) nt
    have gE := gD.made (o := .lst [V.ref t]) nu
    have sT := same_new (o := .tup [V.int ms.up, V.int sh, V.ref na, V.ref pz]) nt
    have sU := same_app (o := .lst [V.ref t]) sT nu
    have q1C := gC.ff _ _ q1
    refine ⟨sa, u, _, _, rfl, rfl, sU _ _ (gC.fh _ _ q1C), upd_same, le1000 (by rw [List.length_map]; show _ + 1 ≤ _; omega), fun sl nsl => ?_⟩
    have gG := gE.new_ (o := .lst (sas.map V.ref ++ [V.ref t])) nsl
    have sG := same_app (o := .lst (sas.map V.ref ++ [V.ref t])) sU nsl
    refine ⟨_, rfl, m, _, rfl, dp_segments (sG _ _ hmC), ?_⟩
    have sF1 := same_new (o := .tup [V.int ms.up, V.int sh, V.ref na, V.ref pz]) (gC.fh.free nt)
    have sF2 := same_new (o := .lst (sas.map V.ref ++ [V.ref t])) (gE.fh.free nsl)
    have sF := sF1.trans sF2
    have fmG : (upd (upd (upd Fi p (.lst (as.map V.ref))) t (.tup [V.int ms.up, V.int sh, V.ref na, V.ref pz])) sl (.lst (sas.map V.ref ++ [V.ref t]))) m = none := by
      rw [upd_ne (ne_of_none (sU _ _ hmC) nsl), upd_ne (ne_of_none hmC nt)]
      exact fmA
    have gZ := gG.put (o := .dK (modK ms.now ms.floor pa p sl (ms.up + 1) ra ca ms.begins)) fmG (.inr (by simp))
    refine ⟨_, rfl, k _ _ gZ ⟨fmG, pa, p, sl, ra, ca, upd_same, gZ.ff _ _ h2, ⟨as, sF _ _ upd_same, Paired.mono (fun _ _ z => z.mono (sI.trans sF)) pr⟩, ⟨sas ++ [t], ?_, ?_⟩, h5.mono gZ.ff fun _ _ z => z.mono gZ.ff, h6.mono gZ.ff fun _ _ z => z.mono gZ.ff⟩⟩
    · rw [upd_same, List.map_append]
      rfl
    · exact paired_append (Paired.mono (fun _ _ z => z.mono gZ.ff) q2) (.cons ⟨na, pz, sF2 _ _ upd_same, hna.mono gZ.ff, gZ.ff _ _ hpz⟩ .nil)
/-! ### write -/
theorem sc_l_write : FnScope ["_law_model", "_law_deed_here", "_law_ended_here"] ["_law_model", "_law_deed_here"] (defScope s_l_write) := ⟨rfl, rfl, rfl, by decide +kernel, rfl, by decide +kernel, by decide +kernel⟩
def sp_l_write (K : PySem.W.Frag) : Sp := fun vs H Q _ => ∃ (F : Hp) (m : Addr) (ms : MS) (da : Addr) (d : Deed), vs = [.ref m, .ref da] ∧ Same F H ∧ MAt K F H m ms ∧ ms.Fit ∧ DeedAt K F da d ∧ ((∃ ra r, d = .put ra r) ∨ ∃ x, d = .drop x) ∧ ∀ F' H', Gr [m] F H F' H' → MAt K F' H' m (stepM d ms).1 → Q (oV (stepM d ms).2) H'
theorem ok_l_write (T : Tx w K mg) : C8.Cal P w K mg base 2 "_law_write" (sp_l_write K) [] := by
  have c_l_ended := ok_l_ended (P := P) (base := base) T
  refine cal_mk (st := s_l_write) T.d_l_write T.g_l_write sc_l_write (fun _ _ _ _ _ _ us hl => match us, hl with | [_, _], _ => rfl) (fun vs H Q E h => ?_) (fun f cdv A outer s H vs Q E hr h => ?_)
  · obtain ⟨F, m, ms, da, d, rfl, _⟩ := h
    rfl
  · obtain ⟨F, m, ms, da, d, rfl, hF, hM, fit, hd, dw, k⟩ := h
    obtain ⟨pa, nta, sa, ra, ca, h1, h2, ⟨nas, n1, n2⟩, h4, h5, h6⟩ := hM.ex
    have hu := hu_of hr
    have hu64 := hr.units
    have ln := n2.length
    have fn := fit.notes
    refine ⟨_, (pss_cons (ps_if (pt_cmpR op_eq (pe_ix (ix_tupK (K := K) rfl) (pv 1) pe_int (fun _ _ => rfl)) pe_str (nomark _))
        (pss_cons (ps_dput hu (pv 0) pe_str (C8.pe_c c_l_ended hr (by decide) (by rfl) (pa_cons (pv 0) (pa_cons (pe_fldK (K := K) rfl (pe_ix (ix_tupK (K := K) rfl) (pv 1) pe_int (fun _ _ => rfl)) rfl) (pa_cons (pe_op op_add (pe_dget hu (pv 0) pe_str (fun _ _ => rfl)) pe_int) pa_nil)))) rfl)
        (pss_one (ps_dput hu (pv 0) pe_str (pe_op op_cat (pe_dget hu (pv 0) pe_str (fun _ _ => rfl)) (pe_lst (pa_cons (pe_tup (pa_cons (pe_op op_add (pe_dget hu (pv 0) pe_str (fun _ _ => rfl)) pe_int) (pa_cons (pe_ix (ix_tupK (K := K) rfl) (pv 1) pe_int (fun _ _ => rfl)) (pa_cons pe_non (pa_cons pe_non (pa_cons (pe_tup pa_nil) pa_nil)))))) pa_nil))) rfl)))
        (pss_cons (ps_set (i := 2) sc_l_write.nd rfl (.inl rfl) (C8.pe_c c_l_ended hr (by decide) (by rfl) (pa_cons (pv 0) (pa_cons (pe_ix (ix_tupK (K := K) rfl) (pv 1) pe_int (fun _ _ => rfl)) (pa_cons (pe_op op_add (pe_dget hu (pv 0) pe_str (fun _ _ => rfl)) pe_int) pa_nil)))))
        (pss_cons (ps_if (pt_cmpR (op_eqL hu64) (pv 2) (pe_dget hu (pv 0) pe_str (fun _ _ => rfl)) (nomark _))
          (pss_one (ps_ret pe_non))
          pss_nil)
        (pss_one (ps_dput hu (pv 0) pe_str (pv 2) rfl)))))
      (pss_cons (ps_dput hu (pv 0) pe_str (pe_op op_add (pe_dget hu (pv 0) pe_str (fun _ _ => rfl)) pe_int) rfl)
      (pss_one (ps_ret (pe_dget hu (pv 0) pe_str (fun _ _ => rfl)))))), ?_⟩
    rcases dw with ⟨rra, r, rfl⟩ | ⟨x, rfl⟩
    · obtain ⟨hd, hra⟩ := hd
      obtain ⟨rdx, vt, rft, wt, fas, was, r1, _⟩ := hra.ex
      have sd : SqT K H da [.str "put", .ref rra] := .inl (.inl (hF _ _ hd))
      refine ⟨_, rfl, da, _, 0, _, rfl, rfl, sd, atI_nat (j := 0) rfl, rfl, _, rfl, ?_⟩
      rw [show decide (V.str "put" = V.str "put") = true by decide +kernel]
      refine iteT ⟨_, rfl, _, rfl, da, _, 1, _, rfl, rfl, sd, atI_nat (j := 1) rfl, rra, _, rdx, _, _, rfl, hF _ _ r1, T.c_Record, T.n_Record_name, recF_name _ _ _ _, ?_⟩
      refine ⟨_, rfl, m, _, rfl, dg_now h1, _, _, rfl, rfl, ?_⟩
      refine ⟨F, m, pa, nta, sa, ra, ca, nas, ms, r.name, ms.now + 1, rfl, hF, h1, n1, n2, fn, fun F1 H1 p as g1 np fp hp pr _ => ?_⟩
      have pm : p ≠ m := ne_of_none_ h1 np
      have h11 := g1.hh _ _ h1
      have fm1 := g1.out h1 hM.out
      refine ⟨_, rfl, m, _, rfl, dp_notes h11, ?_⟩
      have gA := (g1.mono (S' := [m]) (by simp)).told hp fp np
      have fmA : (upd F1 p (.lst (as.map V.ref))) m = none := by rw [upd_ne pm.symm]; exact fm1
      have gB := gA.put (o := .dK (modK ms.now ms.floor pa p sa ms.up ra ca ms.begins)) fmA (.inr (by simp))
      have hmB : (upd H1 m (.dK (modK ms.now ms.floor pa p sa ms.up ra ca ms.begins))) m = some (.dK (modK ms.now ms.floor pa p sa ms.up ra ca ms.begins)) := upd_same
      generalize hHB : upd H1 m (.dK (modK ms.now ms.floor pa p sa ms.up ra ca ms.begins)) = HB at *
      refine ⟨_, rfl, m, _, rfl, dg_notes hmB, ?_⟩
      refine ⟨_, rfl, m, _, rfl, dg_now hmB, _, _, rfl, rfl, ?_⟩
      refine ⟨_, rfl, da, _, 1, _, rfl, rfl, .inl (.inl (gB.fh _ _ (gB.ff _ _ hd))), atI_nat (j := 1) rfl, ?_⟩
      refine ⟨Nat.zero_le _, fun e ne => ⟨(by show 5 ≤ sizeLine; decide), fun t nt => ⟨(by show 1 ≤ sizeLine; decide), fun u nu => ?_⟩⟩⟩
      have gC := gB.new_ (o := .tup []) ne
      have gD := gC.new_ (o := .tup [V.int (ms.now + 1), V.ref rra, V.non, V.non, V.ref e]) nt
      have gE := gD.made (o := .lst [V.ref t]) nu
      have sC := same_new (o := .tup []) ne
      have sD := same_app (o := .tup [V.int (ms.now + 1), V.ref rra, V.non, V.non, V.ref e]) sC nt
      have sE := same_app (o := .lst [V.ref t]) sD nu
      have lp := pr.length
      have lp2 : (ms.notes.map (closeN r.name (ms.now + 1))).length = ms.notes.length := List.length_map _
      have hpA : (upd F1 p (.lst (as.map V.ref))) p = some (.lst (as.map V.ref)) := upd_same
      refine ⟨p, u, _, _, rfl, rfl, sE _ _ (gB.fh _ _ hpA), upd_same, le1000 (by rw [List.length_map]; show _ + 1 ≤ _; omega), fun nl nnl => ?_⟩
      have gG := gE.new_ (o := .lst (as.map V.ref ++ [V.ref t])) nnl
      have sG := same_app (o := .lst (as.map V.ref ++ [V.ref t])) sE nnl
      refine ⟨_, rfl, m, _, rfl, dp_notes (sG _ _ hmB), ?_⟩
      refine ⟨_, rfl, m, _, rfl, dg_now upd_same, _, _, rfl, rfl, ?_⟩
      refine ⟨_, rfl, m, _, rfl, dp_now upd_same, ?_⟩
      rw [upd_upd]
      refine ⟨_, rfl, m, _, rfl, dg_now upd_same, ?_⟩
      have sF1 := same_new (o := .tup []) (gB.fh.free ne)
      have sF2 := same_new (o := .tup [V.int (ms.now + 1), V.ref rra, V.non, V.non, V.ref e]) (gC.fh.free nt)
      have sF3 := same_new (o := .lst (as.map V.ref ++ [V.ref t])) (gE.fh.free nnl)
      have sF := sF1.trans (sF2.trans sF3)
      have fmG : (upd (upd (upd (upd F1 p (.lst (as.map V.ref))) e (.tup [])) t (.tup [V.int (ms.now + 1), V.ref rra, V.non, V.non, V.ref e])) nl (.lst (as.map V.ref ++ [V.ref t]))) m = none := by
        rw [upd_ne (ne_of_none (sE _ _ hmB) nnl), upd_ne (ne_of_none (sC _ _ hmB) nt), upd_ne (ne_of_none hmB ne)]
        exact fmA
      have gZ := gG.put (o := .dK (modK (ms.now + 1) ms.floor pa nl sa ms.up ra ca ms.begins)) fmG (.inr (by simp))
      refine k _ _ gZ (MAt.setNotes gZ.ff fmG h2 h4 h5 h6 upd_same ⟨as ++ [t], ?_, ?_⟩)
      · rw [upd_same, List.map_append]
        rfl
      · have s1 : Same F1 (upd F1 p (.lst (as.map V.ref))) := same_new fp
        refine paired_append (Paired.mono (fun _ _ z => z.mono (s1.trans sF)) pr) (.cons ⟨e, sF3 _ _ upd_same, hra.mono gZ.ff, .inl (.inl ?_)⟩ .nil)
        exact sF3 _ _ (sF2 _ _ upd_same)
    · have sd : SqT K H da [.str "drop", .str x] := .inl (.inl (hF _ _ hd))
      refine ⟨_, rfl, da, _, 0, _, rfl, rfl, sd, atI_nat (j := 0) rfl, rfl, _, rfl, ?_⟩
      rw [show decide (V.str "drop" = V.str "put") = false by decide +kernel]
      refine iteF ⟨_, rfl, _, rfl, da, _, 1, _, rfl, rfl, sd, atI_nat (j := 1) rfl, ?_⟩
      refine ⟨_, rfl, m, _, rfl, dg_now h1, _, _, rfl, rfl, ?_⟩
      refine ⟨F, m, pa, nta, sa, ra, ca, nas, ms, x, ms.now + 1, rfl, hF, h1, n1, n2, fn, fun F1 H1 p as g1 np fp hp pr eq => ?_⟩
      have pm : p ≠ m := ne_of_none_ h1 np
      have h11 := g1.hh _ _ h1
      have fm1 := g1.out h1 hM.out
      refine ⟨_, rfl, _, rfl, m, _, rfl, dg_notes h11, p, nta, _, _, _, rfl, rfl, SqL.of hp, SqL.of (g1.hh _ _ (hF _ _ n1)), EqL.mono (fun _ _ _ z => EqK.mono g1.fh 3 z) eq, _, rfl, ?_⟩
      cases hh : hasM x ms with
      | false =>
        refine iteT ?_
        have e : stepM (.drop x) ms = (ms, none) := by
          show (dropM x ms, if hasM x ms = true then _ else _) = _
          unfold dropM
          rw [hh]
          rfl
        rw [e] at k
        exact k F1 H1 (g1.mono (by simp)) (hM.frame g1 (by simp))
      | true =>
        refine iteF ?_
        have e : stepM (.drop x) ms = ({ ms with notes := ms.notes.map (closeN x (ms.now + 1)), now := ms.now + 1 }, some (ms.now + 1)) := by
          show (dropM x ms, if hasM x ms = true then _ else _) = _
          unfold dropM
          rw [hh]
          rfl
        rw [e] at k
        refine ⟨_, rfl, _, rfl, m, _, rfl, dp_notes h11, ?_⟩
        have gA := (g1.mono (S' := [m]) (by simp)).told hp fp np
        have fmA : (upd F1 p (.lst (as.map V.ref))) m = none := by rw [upd_ne pm.symm]; exact fm1
        refine ⟨_, rfl, m, _, rfl, dg_now upd_same, _, _, rfl, rfl, ?_⟩
        refine ⟨_, rfl, m, _, rfl, dp_now upd_same, ?_⟩
        rw [upd_upd]
        refine ⟨_, rfl, m, _, rfl, dg_now upd_same, ?_⟩
        have gZ := gA.put (o := .dK (modK (ms.now + 1) ms.floor pa p sa ms.up ra ca ms.begins)) fmA (.inr (by simp))
        exact k _ _ gZ (MAt.setNotes gZ.ff fmA h2 h4 h5 h6 upd_same ⟨as, upd_same, Paired.mono (fun _ _ z => z.mono (same_new fp)) pr⟩)
end
end K94
/-! The model's functions, part 5. -/
namespace K94
open PySem PySem.Spec PyProof.Rows L2 LamX
/-- sorted(rows), the rows pairs of a text and an int -/
def rSortR : List V → Hp → VK → Prop := fun vs H Q => ∃ a ps rs, ∃ R : Addr → Str × Int → Prop, vs = [V.ref a] ∧ H a = some (.lst (ps.map V.ref)) ∧ Paired R ps rs ∧ (∀ p r, R p r → RtAt H p r) ∧ rs.length ≤ 10000 ∧
  ∀ ps' D, H D = none → Paired R ps' (rs.mergeSort (PySem.W.dataLe false tupR)) → Q (.ref D) (upd H D (.lst (ps'.map V.ref)))
theorem cr_sortedR {X : Cx} {k : Nat} (hr : Room k X.A) : CallR X (.builtin "sorted") rSortR := by
  intro pins s σ H vs us Q I r h
  obtain ⟨a, ps, rs, R, rfl, hs, hp, hR, hl, q⟩ := h
  obtain ⟨its, rv, hli, hz⟩ := I.list (SqL.of hs)
  obtain rfl := Vals.ref1 r
  have each := each_of rv hp
  have er : PySem.W.EachIs (fun v b => ∃ as, Reads s.heap v (tupR b) as) its rs := each.mono fun v b ⟨p, e, z⟩ => by
    subst e
    have d : Dp X.K H (.ref p) (tupR b) := is_pair (K := X.K) (.inl (.inl (hR _ _ z))) (is_str _) (is_int _)
    exact Dp.reads I _ _ _ d rfl
  refine PySem.W.sorted_data hli.isList each er (PySem.W.AllAlike.of fun _ _ => rfl) (PySem.W.Sortable.tuples fun b => ⟨_, _, rfl⟩) (Nat.le_trans hl (by decide)) (fun b _ => ?_) fun out hlen eo => ?_
  · have hd : (tupR b).depth ≤ 1 := by simp [tupR, PyData.depth, PyData.depthAll]
    have := hr.un
    omega
  · obtain ⟨ps', e1, e2⟩ := of_each eo
    have hl2 : (ps'.map V.ref).length ≤ sizeLine := by
      rw [e1.length, hlen]
      exact Nat.le_trans hl (by decide)
    obtain ⟨ep, he'⟩ := PyProof.Rows.sortedAll_at s.heap its out.toArray
    exact ⟨.ref _, upd H (s.heap.objs.size + 1) (.lst (ps'.map V.ref)), I.laid (t' := s.toks) (fun _ _ => PyProof.Rows.sortedAll_old) (Nat.le_succ _) ⟨hl2, out, ep, e1, he'⟩, rfl, q ps' _ (I.hok.fresh (Nat.le_succ _)) e2⟩
theorem asgC {v : V} {i : Nat} {rest : TS} {D : Ends} {σ : L2.St} {H : Hp} (h : rest D (σ.set i (some v)) H) : tSeq (tAsg (tC v) (gName i)) rest D σ H := h
section
variable {P : Program} {w : World} {K : PySem.W.Frag} {mg : Str → Option Value} {base : Heap}
/-! ### moments -/
theorem sc_l_moments : FnScope ["_law_model", "_law_deed_here", "_law_pins", "_law_at"] ["_law_model", "_law_deed_here"] (defScope s_l_moments) := ⟨rfl, rfl, rfl, by decide +kernel, rfl, by decide +kernel, by decide +kernel⟩
def Deed.isMoment : Deed → Prop
  | .pin => True
  | .unpin _ => True
  | .lift _ => True
  | _ => False
def sp_l_moments (K : PySem.W.Frag) : Sp := fun vs H Q _ => ∃ (F : Hp) (m : Addr) (ms : MS) (da : Addr) (d : Deed), vs = [.ref m, .ref da] ∧ Same F H ∧ MAt K F H m ms ∧ ms.Fit ∧ DeedAt K F da d ∧ d.isMoment ∧ ∀ F' H', Gr [m] F H F' H' → MAt K F' H' m (stepM d ms).1 → Q (oV (stepM d ms).2) H'
theorem ok_l_moments (T : Tx w K mg) : C8.Cal P w K mg base 1 "_law_moments" (sp_l_moments K) [] := by
  refine cal_mk (st := s_l_moments) T.d_l_moments T.g_l_moments sc_l_moments (fun _ _ _ _ _ _ us hl => match us, hl with | [_, _], _ => rfl) (fun vs H Q E h => ?_) (fun f cdv A outer s H vs Q E hr h => ?_)
  · obtain ⟨F, m, ms, da, d, rfl, _⟩ := h
    rfl
  · obtain ⟨F, m, ms, da, d, rfl, hF, hM, fit, hd, dm, k⟩ := h
    obtain ⟨pa, nta, sa, ra, ca, h1, h2, h3, h4, h5, h6⟩ := hM.ex
    have hu := hu_of hr
    have fp := fit.pins
    have hp := hF _ _ h2
    have fin : ∀ (q : Addr) (ns : List Int), H q = none → ∀ H1, Gr [m] F H F H1 → H1 q = none → Gr [m] F H (upd F q (.lst (ns.map V.int))) (upd (upd H1 q (.lst (ns.map V.int))) m (.dK (modK ms.now ms.floor q nta sa ms.up ra ca ms.begins))) ∧ MAt K (upd F q (.lst (ns.map V.int))) (upd (upd H1 q (.lst (ns.map V.int))) m (.dK (modK ms.now ms.floor q nta sa ms.up ra ca ms.begins))) m { ms with pins := ns } := by
      intro q ns nq H1 g1 nq1
      have qm := ne_of_none_ h1 nq
      have g2 := g1.new_ (o := .lst (ns.map V.int)) nq1
      have fm : (upd F q (.lst (ns.map V.int))) m = none := by rw [upd_ne qm.symm]; exact hM.out
      have g3 := g2.put (o := .dK (modK ms.now ms.floor q nta sa ms.up ra ca ms.begins)) fm (.inr (by simp))
      exact ⟨g3, fm, q, nta, sa, ra, ca, upd_same, upd_same, h3.mono g3.ff fun _ _ z => z.mono g3.ff, h4.mono g3.ff fun _ _ z => z.mono g3.ff, h5.mono g3.ff fun _ _ z => z.mono g3.ff, h6.mono g3.ff fun _ _ z => z.mono g3.ff⟩
    refine ⟨_, (pss_cons (ps_set (i := 2) sc_l_moments.nd rfl (.inl rfl) (pe_dget hu (pv 0) pe_str (fun _ _ => rfl)))
      (pss_cons (ps_if (pt_cmpR op_eq (pe_ix (ix_tupK (K := K) rfl) (pv 1) pe_int (fun _ _ => rfl)) pe_str (nomark _))
        (pss_cons (ps_dput hu (pv 0) pe_str (pe_op op_cat (pv 2) (pe_lst (pa_cons (pe_dget hu (pv 0) pe_str (fun _ _ => rfl)) pa_nil))) rfl)
        (pss_one (ps_ret (pe_dget hu (pv 0) pe_str (fun _ _ => rfl)))))
        pss_nil)
      (pss_cons (ps_if (pt_cmpR op_eq (pe_ix (ix_tupK (K := K) rfl) (pv 1) pe_int (fun _ _ => rfl)) pe_str (nomark _))
        (pss_cons (ps_dput hu (pv 0) pe_str (pe_callB (call_max2 rfl) (by rfl) T.z_max (by decide +kernel) (pa_cons (pe_dget hu (pv 0) pe_str (fun _ _ => rfl)) (pa_cons (pe_callB (call_min2 rfl) (by rfl) T.z_min (by decide +kernel) (pa_cons (pe_ix (ix_tupK (K := K) rfl) (pv 1) pe_int (fun _ _ => rfl)) (pa_cons (pe_dget hu (pv 0) pe_str (fun _ _ => rfl)) pa_nil))) pa_nil))) rfl)
        (pss_one (ps_ret (pe_dget hu (pv 0) pe_str (fun _ _ => rfl)))))
        pss_nil)
      (pss_cons (ps_if (pt_cmpR (op_in_seqK (K := K) rfl) (pe_ix (ix_tupK (K := K) rfl) (pv 1) pe_int (fun _ _ => rfl)) (pv 2) (by rfl))
        (pss_cons (ps_set (i := 3) sc_l_moments.nd rfl (.inl rfl) (pe_bm PySem.F.plainAttrs_list PySem.F.slot_list_index PySem.F.type_list_index mt_index (pv 2) (pa_cons (pe_ix (ix_tupK (K := K) rfl) (pv 1) pe_int (fun _ _ => rfl)) pa_nil)))
        (pss_one (ps_dput hu (pv 0) pe_str (pe_op op_cat (pe_slice sl_list (pv 2) po_none (po_some (pv 3))) (pe_slice sl_list (pv 2) (po_some (pe_op op_add (pv 3) pe_int)) po_none)) rfl)))
        pss_nil)
      (pss_one (ps_ret (pe_ix (ix_tupK (K := K) rfl) (pv 1) pe_int (fun _ _ => rfl)))))))), ?_⟩
    refine ⟨_, rfl, m, _, rfl, dg_pins h1, ?_⟩
    cases d with
    | pin =>
      have sd : SqT K H da [.str "pin"] := .inl (.inl (hF _ _ hd))
      refine ⟨_, rfl, da, _, 0, _, rfl, rfl, sd, atI_nat (j := 0) rfl, rfl, _, rfl, ?_⟩
      rw [show decide (V.str "pin" = V.str "pin") = true by decide +kernel]
      refine iteT ⟨_, rfl, _, rfl, m, _, rfl, dg_now h1, (by show 1 ≤ sizeLine; decide), fun p np => ?_⟩
      have s1 := same_new (o := .lst [V.int ms.now]) np
      refine ⟨pa, p, _, _, rfl, rfl, s1 _ _ hp, upd_same, le1000 (by rw [List.length_map]; show _ + 1 ≤ _; omega), fun q nq => ?_⟩
      have g1 : Gr [m] F H F (upd H p (.lst [V.int ms.now])) := (Gr.refl hF).made np
      have e : ms.pins.map V.int ++ [V.int ms.now] = (ms.pins ++ [ms.now]).map V.int := by rw [List.map_append]; rfl
      obtain ⟨z1, z2⟩ := fin q (ms.pins ++ [ms.now]) (s1.free nq) _ g1 nq
      rw [← e] at z1 z2
      refine ⟨_, rfl, m, _, rfl, dp_pins (same_new nq _ _ (s1 _ _ h1)), ?_⟩
      exact ⟨_, rfl, m, _, rfl, dg_now upd_same, k _ _ z1 z2⟩
    | lift t =>
      have sd : SqT K H da [.str "lift", .int t] := .inl (.inl (hF _ _ hd))
      refine ⟨_, rfl, da, _, 0, _, rfl, rfl, sd, atI_nat (j := 0) rfl, rfl, _, rfl, ?_⟩
      rw [show decide (V.str "lift" = V.str "pin") = false by decide +kernel]
      refine iteF ⟨_, rfl, da, _, 0, _, rfl, rfl, sd, atI_nat (j := 0) rfl, rfl, _, rfl, ?_⟩
      rw [show decide (V.str "lift" = V.str "lift") = true by decide +kernel]
      refine iteT ⟨_, rfl, m, _, rfl, dg_floor h1, ?_⟩
      refine ⟨_, rfl, da, _, 1, _, rfl, rfl, sd, atI_nat (j := 1) rfl, ?_⟩
      refine ⟨_, rfl, m, _, rfl, dg_now h1, _, _, rfl, ?_⟩
      refine ⟨_, _, rfl, ?_⟩
      rw [min_ite, max_ite]
      refine ⟨_, rfl, m, _, rfl, dp_floor h1, ?_⟩
      have g := (Gr.refl (S := [m]) hF).put (o := .dK (modK ms.now (max ms.floor (min t ms.now)) pa nta sa ms.up ra ca ms.begins)) hM.out (.inr (by simp))
      exact ⟨_, rfl, m, _, rfl, dg_floor upd_same, k _ _ g ⟨hM.out, pa, nta, sa, ra, ca, upd_same, h2, h3, h4, h5, h6⟩⟩
    | unpin t =>
      have sd : SqT K H da [.str "unpin", .int t] := .inl (.inl (hF _ _ hd))
      refine ⟨_, rfl, da, _, 0, _, rfl, rfl, sd, atI_nat (j := 0) rfl, rfl, _, rfl, ?_⟩
      rw [show decide (V.str "unpin" = V.str "pin") = false by decide +kernel]
      refine iteF ⟨_, rfl, da, _, 0, _, rfl, rfl, sd, atI_nat (j := 0) rfl, rfl, _, rfl, ?_⟩
      rw [show decide (V.str "unpin" = V.str "lift") = false by decide +kernel]
      refine iteF ⟨_, rfl, da, _, 1, _, rfl, rfl, sd, atI_nat (j := 1) rfl, _, rfl, pa, _, rfl, .inl (SqL.of hp), rfl, flat_ints _, _, rfl, ?_⟩
      rw [if_neg (show ¬ (false = true) by decide), inV_ints]
      by_cases hm : t ∈ ms.pins
      · rw [decide_eq_true hm]
        have e : stepM (.unpin t) ms = ({ ms with pins := cutPins ms.pins t }, some t) := by
          show (if t ∈ ms.pins then _ else _, _) = _
          rw [if_pos hm]
        rw [e] at k
        have hlt := List.idxOf_lt_length_of_mem hm
        obtain ⟨z1, z2, z3⟩ := idx_ints hm
        refine iteT ⟨_, rfl, .inl ⟨rfl, _, SqL.of hp⟩, _, rfl, da, _, 1, _, rfl, rfl, sd, atI_nat (j := 1) rfl, pa, _, _, ms.pins.idxOf t, _, rfl, rfl, SqL.of hp, rfl, flat_ints _, z1, z2, z3, ?_⟩
        refine ⟨_, rfl, _, rfl, _, rfl, pa, _, rfl, SqL.of hp, fun p np => ?_⟩
        rw [cut_to _ _ (by rw [List.length_map]; omega)]
        have s1 : Same H (upd H p (.lst ((ms.pins.map V.int).take (ms.pins.idxOf t)))) := same_new np
        refine ⟨_, rfl, _, rfl, _, _, rfl, rfl, _, rfl, pa, _, rfl, SqL.of (s1 _ _ hp), fun q nq => ?_⟩
        rw [show ((ms.pins.idxOf t : Nat) : Int) + 1 = ((ms.pins.idxOf t + 1 : Nat) : Int) by omega, cut_from _ _ (by rw [List.length_map]; omega)]
        have s2 := same_app (o := .lst ((ms.pins.map V.int).drop (ms.pins.idxOf t + 1))) s1 nq
        have npq : p ≠ q := fun z => by
          rw [← z, upd_same] at nq
          cases nq
        refine ⟨p, q, _, _, rfl, rfl, by rw [upd_ne npq, upd_same], upd_same, le1000 (by rw [List.length_take, List.length_drop, List.length_map]; omega), fun r nr => ?_⟩
        have g1 : Gr [m] F H F (upd (upd H p (.lst ((ms.pins.map V.int).take (ms.pins.idxOf t)))) q (.lst ((ms.pins.map V.int).drop (ms.pins.idxOf t + 1)))) := (Gr.refl hF).samef s2
        have e2 : (ms.pins.map V.int).take (ms.pins.idxOf t) ++ (ms.pins.map V.int).drop (ms.pins.idxOf t + 1) = (cutPins ms.pins t).map V.int := by
          unfold cutPins
          rw [List.map_append, List.map_take, List.map_drop]
        obtain ⟨y1, y2⟩ := fin r (cutPins ms.pins t) (s2.free nr) _ g1 nr
        rw [← e2] at y1 y2
        refine ⟨_, rfl, m, _, rfl, dp_pins (same_new nr _ _ (s2 _ _ h1)), ?_⟩
        exact ⟨_, rfl, da, _, 1, _, rfl, rfl, .inl (.inl (y1.fh _ _ (y1.ff _ _ hd))), atI_nat (j := 1) rfl, k _ _ y1 y2⟩
      · rw [decide_eq_false hm]
        have e : stepM (.unpin t) ms = (ms, some t) := by
          show (if t ∈ ms.pins then _ else _, _) = _
          rw [if_neg hm]
        rw [e] at k
        exact iteF ⟨_, rfl, da, _, 1, _, rfl, rfl, sd, atI_nat (j := 1) rfl, k F H (Gr.refl hF) hM⟩
    | put ra r => exact dm.elim
    | drop x => exact dm.elim
    | own sh name inner homes => exact dm.elim
    | close sh name => exact dm.elim
    | forget sh name => exact dm.elim
    | route low sh => exact dm.elim
    | begin_ => exact dm.elim
/-! ### do -/
theorem sc_l_do : FnScope ["_law_model", "_law_deed_here", "_law_outcome", "_law_row_here"] ["_law_model", "_law_deed_here"] (defScope s_l_do) := ⟨rfl, rfl, rfl, by decide +kernel, rfl, by decide +kernel, by decide +kernel⟩
def sp_l_do (K : PySem.W.Frag) : Sp := fun vs H Q _ => ∃ (F : Hp) (m : Addr) (ms : MS) (da : Addr) (d : Deed), vs = [.ref m, .ref da] ∧ Same F H ∧ MAt K F H m ms ∧ ms.Fit ∧ (stepM d ms).1.Fit ∧ DeedAt K F da d ∧ ∀ F' H', Gr [m] F H F' H' → MAt K F' H' m (doM d ms).1 → Q (oV (doM d ms).2) H'
theorem ok_l_do (T : Tx w K mg) : C8.Cal P w K mg base 4 "_law_do" (sp_l_do K) [] := by
  have c_l_write := ok_l_write (P := P) (base := base) T
  have c_l_moments := ok_l_moments (P := P) (base := base) T
  have c_l_own := ok_l_own (P := P) (base := base) T
  have c_l_close := ok_l_close (P := P) (base := base) T
  have c_l_trim := ok_l_trim (P := P) (base := base) T
  refine cal_mk (st := s_l_do) T.d_l_do T.g_l_do sc_l_do (fun _ _ _ _ _ _ us hl => match us, hl with | [_, _], _ => rfl) (fun vs H Q E h => ?_) (fun f cdv A outer s H vs Q E hr h => ?_)
  · obtain ⟨F, m, ms, da, d, rfl, _⟩ := h
    rfl
  · obtain ⟨F, m, ms, da, d, rfl, hF, hM, fit, fit2, hd, k⟩ := h
    obtain ⟨pa, nta, sa, ra, ca, h1, h2, h3, h4, h5, h6⟩ := hM.ex
    have hu := hu_of hr
    have hu64 := hr.units
    refine ⟨_, (pss_cons (ps_set (i := 2) sc_l_do.nd rfl (.inl rfl) pe_non)
      (pss_cons (ps_if (PW.pt (pw_or (pt_cmpR op_eq (pe_ix (ix_tupK (K := K) rfl) (pv 1) pe_int (fun _ _ => rfl)) pe_str (nomark _)) (pw_or1 (pt_cmpR op_eq (pe_ix (ix_tupK (K := K) rfl) (pv 1) pe_int (fun _ _ => rfl)) pe_str (nomark _)))))
        (pss_one (ps_set (i := 2) sc_l_do.nd rfl (.inl rfl) (C8.pe_c c_l_write hr (by decide) (by rfl) (pa_cons (pv 0) (pa_cons (pv 1) pa_nil)))))
        (pss_one (ps_if (PW.pt (pw_or (pt_cmpR op_eq (pe_ix (ix_tupK (K := K) rfl) (pv 1) pe_int (fun _ _ => rfl)) pe_str (nomark _)) (pw_or (pt_cmpR op_eq (pe_ix (ix_tupK (K := K) rfl) (pv 1) pe_int (fun _ _ => rfl)) pe_str (nomark _)) (pw_or1 (pt_cmpR op_eq (pe_ix (ix_tupK (K := K) rfl) (pv 1) pe_int (fun _ _ => rfl)) pe_str (nomark _))))))
          (pss_one (ps_set (i := 2) sc_l_do.nd rfl (.inl rfl) (C8.pe_c c_l_moments hr (by decide) (by rfl) (pa_cons (pv 0) (pa_cons (pv 1) pa_nil)))))
          (pss_one (ps_if (pt_cmpR op_eq (pe_ix (ix_tupK (K := K) rfl) (pv 1) pe_int (fun _ _ => rfl)) pe_str (nomark _))
            (pss_one (ps_set (i := 2) sc_l_do.nd rfl (.inl rfl) (C8.pe_c c_l_own hr (by decide) (by rfl) (pa_cons (pv 0) (pa_cons (pe_ix (ix_tupK (K := K) rfl) (pv 1) pe_int (fun _ _ => rfl)) (pa_cons (pe_ix (ix_tupK (K := K) rfl) (pv 1) pe_int (fun _ _ => rfl)) (pa_cons (pe_ix (ix_tupK (K := K) rfl) (pv 1) pe_int (fun _ _ => rfl)) (pa_cons (pe_ix (ix_tupK (K := K) rfl) (pv 1) pe_int (fun _ _ => rfl)) pa_nil))))))))
            (pss_one (ps_if (pt_cmpR op_eq (pe_ix (ix_tupK (K := K) rfl) (pv 1) pe_int (fun _ _ => rfl)) pe_str (nomark _))
              (pss_one (ps_expr (C8.pe_c c_l_close hr (by decide) (by rfl) (pa_cons (pv 0) (pa_cons (pe_ix (ix_tupK (K := K) rfl) (pv 1) pe_int (fun _ _ => rfl)) (pa_cons (pe_ix (ix_tupK (K := K) rfl) (pv 1) pe_int (fun _ _ => rfl)) pa_nil))))))
              (pss_one (ps_if (pt_cmpR op_eq (pe_ix (ix_tupK (K := K) rfl) (pv 1) pe_int (fun _ _ => rfl)) pe_str (nomark _))
                (pss_one (ps_dput hu (pv 0) pe_str (pe_lc (own := [("_law_row_here", 3)]) (g := gName 3) (tt := _) rfl sc_l_do.nd (pi_list (pe_dget hu (pv 0) pe_str (fun _ _ => rfl))) (blkOk_by (N := ["_law_model", "_law_deed_here", "_law_outcome", "_law_row_here"]) (sc := defScope s_l_do) (by decide +kernel)) (fun _ _ _ _ _ => pg_name (i := 3) sc_l_do.nd rfl (.inl rfl)) (fun _ _ _ _ _ => pts_one (pt_cmpR (op_neT (α := (Int) × ((Int) × (Int))) (K := K) rfl (by decide) hu64) (pv 3) (pe_tup (pa_cons (pe_ix (ix_tupK (K := K) rfl) (pv 1) pe_int (fun _ _ => rfl)) (pa_cons (pe_ix (ix_tupK (K := K) rfl) (pv 1) pe_int (fun _ _ => rfl)) pa_nil))) (nomark _))) (fun _ _ _ _ _ => (pv 3))) rfl))
                (pss_one (ps_if (pt_cmpR op_eq (pe_ix (ix_tupK (K := K) rfl) (pv 1) pe_int (fun _ _ => rfl)) pe_str (nomark _))
                  (pss_cons (ps_dput hu (pv 0) pe_str (pe_callB (cr_sortedR hr) (by rfl) T.z_sorted (by decide +kernel) (pa_cons (pe_op op_cat (pe_lc (own := [("_law_row_here", 3)]) (g := gName 3) (tt := _) rfl sc_l_do.nd (pi_list (pe_dget hu (pv 0) pe_str (fun _ _ => rfl))) (blkOk_by (N := ["_law_model", "_law_deed_here", "_law_outcome", "_law_row_here"]) (sc := defScope s_l_do) (by decide +kernel)) (fun _ _ _ _ _ => pg_name (i := 3) sc_l_do.nd rfl (.inl rfl)) (fun _ _ _ _ _ => pts_one (pt_cmpR op_ne (pe_ix (ix_tupK (K := K) rfl) (pv 3) pe_int (fun _ _ => rfl)) (pe_ix (ix_tupK (K := K) rfl) (pv 1) pe_int (fun _ _ => rfl)) (nomark _))) (fun _ _ _ _ _ => (pv 3))) (pe_lst (pa_cons (pe_tup (pa_cons (pe_ix (ix_tupK (K := K) rfl) (pv 1) pe_int (fun _ _ => rfl)) (pa_cons (pe_ix (ix_tupK (K := K) rfl) (pv 1) pe_int (fun _ _ => rfl)) pa_nil))) pa_nil))) pa_nil)) rfl)
                  (pss_one (ps_set (i := 2) sc_l_do.nd rfl (.inl rfl) (pe_ix (ix_tupK (K := K) rfl) (pv 1) pe_int (fun _ _ => rfl)))))
                  (pss_cons (ps_dput hu (pv 0) pe_str (pe_op op_add (pe_dget hu (pv 0) pe_str (fun _ _ => rfl)) pe_int) rfl)
                  (pss_one (ps_set (i := 2) sc_l_do.nd rfl (.inl rfl) (pe_dget hu (pv 0) pe_str (fun _ _ => rfl))))))))))))))))
      (pss_cons (ps_expr (C8.pe_c c_l_trim hr (by decide) (by rfl) (pa_cons (pv 0) pa_nil)))
      (pss_one (ps_ret (pv 2)))))), ?_⟩
    refine asgC ?_
    refine cut (fun σ' H' => ∃ F1, Gr [m] F H F1 H' ∧ MAt K F1 H' m (stepM d ms).1 ∧ ∃ y, σ' = [some (.ref m), some (.ref da), some (oV (stepM d ms).2), y]) ?_ (fun rest => ?_)
    · rintro σ1 H1 ⟨F1, g1, hM1, y, rfl⟩
      exact ⟨_, rfl, F1, m, _, rfl, g1.fh, hM1, fit2, fun F2 H2 g2 hM2 => ⟨_, rfl, k F2 H2 (g1.trans g2) hM2⟩⟩
    cases d with
    | put ra r =>
      have sd : SqT K H da [.str "put", .ref ra] := .inl (.inl (hF _ _ hd.1))
      refine ⟨_, rfl, da, _, 0, _, rfl, rfl, sd, atI_nat (j := 0) rfl, rfl, _, rfl, ?_⟩
      rw [show decide (V.str "put" = V.str "put") = true by decide +kernel]
      refine iteT ⟨_, rfl, _, rfl, F, m, ms, da, _, rfl, hF, hM, fit, hd, .inl ⟨_, _, rfl⟩, fun F1 H1 g1 hM1 => rest _ _ ⟨F1, g1, hM1, _, rfl⟩⟩
    | drop x =>
      have sd : SqT K H da [.str "drop", .str x] := .inl (.inl (hF _ _ hd))
      refine ⟨_, rfl, da, _, 0, _, rfl, rfl, sd, atI_nat (j := 0) rfl, rfl, _, rfl, ?_⟩
      rw [show decide (V.str "drop" = V.str "put") = false by decide +kernel]
      refine iteF ⟨_, rfl, da, _, 0, _, rfl, rfl, sd, atI_nat (j := 0) rfl, rfl, _, rfl, ?_⟩
      rw [show decide (V.str "drop" = V.str "drop") = true by decide +kernel]
      refine iteT ⟨_, rfl, _, rfl, F, m, ms, da, _, rfl, hF, hM, fit, hd, .inr ⟨_, rfl⟩, fun F1 H1 g1 hM1 => rest _ _ ⟨F1, g1, hM1, _, rfl⟩⟩
    | pin =>
      have sd : SqT K H da [.str "pin"] := .inl (.inl (hF _ _ hd))
      refine ⟨_, rfl, da, _, 0, _, rfl, rfl, sd, atI_nat (j := 0) rfl, rfl, _, rfl, ?_⟩
      rw [show decide (V.str "pin" = V.str "put") = false by decide +kernel]
      refine iteF ⟨_, rfl, da, _, 0, _, rfl, rfl, sd, atI_nat (j := 0) rfl, rfl, _, rfl, ?_⟩
      rw [show decide (V.str "pin" = V.str "drop") = false by decide +kernel]
      refine iteF ⟨_, rfl, da, _, 0, _, rfl, rfl, sd, atI_nat (j := 0) rfl, rfl, _, rfl, ?_⟩
      rw [show decide (V.str "pin" = V.str "pin") = true by decide +kernel]
      refine iteT ⟨_, rfl, _, rfl, F, m, ms, da, _, rfl, hF, hM, fit, hd, True.intro, fun F1 H1 g1 hM1 => rest _ _ ⟨F1, g1, hM1, _, rfl⟩⟩
    | unpin t =>
      have sd : SqT K H da [.str "unpin", .int t] := .inl (.inl (hF _ _ hd))
      refine ⟨_, rfl, da, _, 0, _, rfl, rfl, sd, atI_nat (j := 0) rfl, rfl, _, rfl, ?_⟩
      rw [show decide (V.str "unpin" = V.str "put") = false by decide +kernel]
      refine iteF ⟨_, rfl, da, _, 0, _, rfl, rfl, sd, atI_nat (j := 0) rfl, rfl, _, rfl, ?_⟩
      rw [show decide (V.str "unpin" = V.str "drop") = false by decide +kernel]
      refine iteF ⟨_, rfl, da, _, 0, _, rfl, rfl, sd, atI_nat (j := 0) rfl, rfl, _, rfl, ?_⟩
      rw [show decide (V.str "unpin" = V.str "pin") = false by decide +kernel]
      refine iteF ⟨_, rfl, da, _, 0, _, rfl, rfl, sd, atI_nat (j := 0) rfl, rfl, _, rfl, ?_⟩
      rw [show decide (V.str "unpin" = V.str "unpin") = true by decide +kernel]
      refine iteT ⟨_, rfl, _, rfl, F, m, ms, da, _, rfl, hF, hM, fit, hd, True.intro, fun F1 H1 g1 hM1 => rest _ _ ⟨F1, g1, hM1, _, rfl⟩⟩
    | lift t =>
      have sd : SqT K H da [.str "lift", .int t] := .inl (.inl (hF _ _ hd))
      refine ⟨_, rfl, da, _, 0, _, rfl, rfl, sd, atI_nat (j := 0) rfl, rfl, _, rfl, ?_⟩
      rw [show decide (V.str "lift" = V.str "put") = false by decide +kernel]
      refine iteF ⟨_, rfl, da, _, 0, _, rfl, rfl, sd, atI_nat (j := 0) rfl, rfl, _, rfl, ?_⟩
      rw [show decide (V.str "lift" = V.str "drop") = false by decide +kernel]
      refine iteF ⟨_, rfl, da, _, 0, _, rfl, rfl, sd, atI_nat (j := 0) rfl, rfl, _, rfl, ?_⟩
      rw [show decide (V.str "lift" = V.str "pin") = false by decide +kernel]
      refine iteF ⟨_, rfl, da, _, 0, _, rfl, rfl, sd, atI_nat (j := 0) rfl, rfl, _, rfl, ?_⟩
      rw [show decide (V.str "lift" = V.str "unpin") = false by decide +kernel]
      refine iteF ⟨_, rfl, da, _, 0, _, rfl, rfl, sd, atI_nat (j := 0) rfl, rfl, _, rfl, ?_⟩
      rw [show decide (V.str "lift" = V.str "lift") = true by decide +kernel]
      refine iteT ⟨_, rfl, _, rfl, F, m, ms, da, _, rfl, hF, hM, fit, hd, True.intro, fun F1 H1 g1 hM1 => rest _ _ ⟨F1, g1, hM1, _, rfl⟩⟩
    | own sh name inner homes =>
      obtain ⟨na, pz, ha, hs, e1, e2, e3, e4, e5, e6⟩ := hd
      have sd : SqT K H da [.str "own", .int sh, .ref na, .ref pz, .ref ha] := .inl (.inl (hF _ _ e1))
      refine ⟨_, rfl, da, _, 0, _, rfl, rfl, sd, atI_nat (j := 0) rfl, rfl, _, rfl, ?_⟩
      rw [show decide (V.str "own" = V.str "put") = false by decide +kernel]
      refine iteF ⟨_, rfl, da, _, 0, _, rfl, rfl, sd, atI_nat (j := 0) rfl, rfl, _, rfl, ?_⟩
      rw [show decide (V.str "own" = V.str "drop") = false by decide +kernel]
      refine iteF ⟨_, rfl, da, _, 0, _, rfl, rfl, sd, atI_nat (j := 0) rfl, rfl, _, rfl, ?_⟩
      rw [show decide (V.str "own" = V.str "pin") = false by decide +kernel]
      refine iteF ⟨_, rfl, da, _, 0, _, rfl, rfl, sd, atI_nat (j := 0) rfl, rfl, _, rfl, ?_⟩
      rw [show decide (V.str "own" = V.str "unpin") = false by decide +kernel]
      refine iteF ⟨_, rfl, da, _, 0, _, rfl, rfl, sd, atI_nat (j := 0) rfl, rfl, _, rfl, ?_⟩
      rw [show decide (V.str "own" = V.str "lift") = false by decide +kernel]
      refine iteF ⟨_, rfl, da, _, 0, _, rfl, rfl, sd, atI_nat (j := 0) rfl, rfl, _, rfl, ?_⟩
      rw [show decide (V.str "own" = V.str "own") = true by decide +kernel]
      refine iteT ⟨_, rfl, _, rfl, da, _, 1, _, rfl, rfl, sd, atI_nat (j := 1) rfl, ?_⟩
      refine ⟨_, rfl, da, _, 2, _, rfl, rfl, sd, atI_nat (j := 2) rfl, ?_⟩
      refine ⟨_, rfl, da, _, 3, _, rfl, rfl, sd, atI_nat (j := 3) rfl, ?_⟩
      refine ⟨_, rfl, da, _, 4, _, rfl, rfl, sd, atI_nat (j := 4) rfl, ?_⟩
      exact ⟨F, m, ms, sh, name, na, pz, ha, inner, hs, homes, rfl, hF, hM, fit, e2, e3, e5, e6, fun F1 H1 g1 hM1 => rest _ _ ⟨F1, g1, hM1, _, rfl⟩⟩
    | close sh name =>
      obtain ⟨na, e1, e2⟩ := hd
      have sd : SqT K H da [.str "close", .int sh, .ref na] := .inl (.inl (hF _ _ e1))
      refine ⟨_, rfl, da, _, 0, _, rfl, rfl, sd, atI_nat (j := 0) rfl, rfl, _, rfl, ?_⟩
      rw [show decide (V.str "close" = V.str "put") = false by decide +kernel]
      refine iteF ⟨_, rfl, da, _, 0, _, rfl, rfl, sd, atI_nat (j := 0) rfl, rfl, _, rfl, ?_⟩
      rw [show decide (V.str "close" = V.str "drop") = false by decide +kernel]
      refine iteF ⟨_, rfl, da, _, 0, _, rfl, rfl, sd, atI_nat (j := 0) rfl, rfl, _, rfl, ?_⟩
      rw [show decide (V.str "close" = V.str "pin") = false by decide +kernel]
      refine iteF ⟨_, rfl, da, _, 0, _, rfl, rfl, sd, atI_nat (j := 0) rfl, rfl, _, rfl, ?_⟩
      rw [show decide (V.str "close" = V.str "unpin") = false by decide +kernel]
      refine iteF ⟨_, rfl, da, _, 0, _, rfl, rfl, sd, atI_nat (j := 0) rfl, rfl, _, rfl, ?_⟩
      rw [show decide (V.str "close" = V.str "lift") = false by decide +kernel]
      refine iteF ⟨_, rfl, da, _, 0, _, rfl, rfl, sd, atI_nat (j := 0) rfl, rfl, _, rfl, ?_⟩
      rw [show decide (V.str "close" = V.str "own") = false by decide +kernel]
      refine iteF ⟨_, rfl, da, _, 0, _, rfl, rfl, sd, atI_nat (j := 0) rfl, rfl, _, rfl, ?_⟩
      rw [show decide (V.str "close" = V.str "close") = true by decide +kernel]
      refine iteT ⟨_, rfl, _, rfl, da, _, 1, _, rfl, rfl, sd, atI_nat (j := 1) rfl, ?_⟩
      refine ⟨_, rfl, da, _, 2, _, rfl, rfl, sd, atI_nat (j := 2) rfl, ?_⟩
      have fc := fit.closed
      exact ⟨F, m, ms, sh, name, na, rfl, hF, hM, e2, by omega, fun F1 H1 g1 hM1 => rest _ _ ⟨F1, g1, hM1, _, rfl⟩⟩
    | forget sh name =>
      obtain ⟨na, e1, e2⟩ := hd
      have sd : SqT K H da [.str "forget", .int sh, .ref na] := .inl (.inl (hF _ _ e1))
      obtain ⟨ps, c1, c2⟩ := h6
      have lc := c2.length
      have fc := fit.closed
      refine ⟨_, rfl, da, _, 0, _, rfl, rfl, sd, atI_nat (j := 0) rfl, rfl, _, rfl, ?_⟩
      rw [show decide (V.str "forget" = V.str "put") = false by decide +kernel]
      refine iteF ⟨_, rfl, da, _, 0, _, rfl, rfl, sd, atI_nat (j := 0) rfl, rfl, _, rfl, ?_⟩
      rw [show decide (V.str "forget" = V.str "drop") = false by decide +kernel]
      refine iteF ⟨_, rfl, da, _, 0, _, rfl, rfl, sd, atI_nat (j := 0) rfl, rfl, _, rfl, ?_⟩
      rw [show decide (V.str "forget" = V.str "pin") = false by decide +kernel]
      refine iteF ⟨_, rfl, da, _, 0, _, rfl, rfl, sd, atI_nat (j := 0) rfl, rfl, _, rfl, ?_⟩
      rw [show decide (V.str "forget" = V.str "unpin") = false by decide +kernel]
      refine iteF ⟨_, rfl, da, _, 0, _, rfl, rfl, sd, atI_nat (j := 0) rfl, rfl, _, rfl, ?_⟩
      rw [show decide (V.str "forget" = V.str "lift") = false by decide +kernel]
      refine iteF ⟨_, rfl, da, _, 0, _, rfl, rfl, sd, atI_nat (j := 0) rfl, rfl, _, rfl, ?_⟩
      rw [show decide (V.str "forget" = V.str "own") = false by decide +kernel]
      refine iteF ⟨_, rfl, da, _, 0, _, rfl, rfl, sd, atI_nat (j := 0) rfl, rfl, _, rfl, ?_⟩
      rw [show decide (V.str "forget" = V.str "close") = false by decide +kernel]
      refine iteF ⟨_, rfl, da, _, 0, _, rfl, rfl, sd, atI_nat (j := 0) rfl, rfl, _, rfl, ?_⟩
      rw [show decide (V.str "forget" = V.str "forget") = true by decide +kernel]
      refine iteT ⟨_, rfl, m, _, rfl, dg_closed h1, ca, rfl, ⟨_, SqL.of (hF _ _ c1)⟩, fun D nD => ?_⟩
      obtain ⟨bs, b1, b2⟩ := paired_filter (fun y => decide (y ≠ (sh, name))) c2
      refine lc_list_pure nD (SqL.of (hF _ _ c1)) (ps.zip ms.closed) (by rw [List.length_zip, List.length_map]; omega) (by rw [List.length_map]; omega) (fun q => if decide (q.2 ≠ (sh, name)) = true then some (.ref q.1) else none) (fun i x q H2 Qn Qy hx hm s1 hn hy => ?_) (fun H2 s1 e => ?_)
      · obtain ⟨t, ht, rfl⟩ := map_at hx
        obtain ⟨z1, z2⟩ := zip_at hm
        have ea : t = q.1 := Option.some.inj (ht.symm.trans z1)
        subst ea
        obtain ⟨y, hy1, hat⟩ := paired_at c2 ht
        have en : y = q.2 := Option.some.inj (hy1.symm.trans z2)
        subst en
        have sd2 := sqT_same s1 sd
        refine ⟨rfl, ?_⟩
        refine ⟨_, rfl, _, rfl, da, _, 1, _, rfl, rfl, sd2, atI_nat (j := 1) rfl, ?_⟩
        refine ⟨_, rfl, da, _, 2, _, rfl, rfl, sd2, atI_nat (j := 2) rfl, (by show 2 ≤ sizeLine; decide), fun p np => ?_⟩
        have s2 := same_new (o := .tup [V.int sh, V.ref na]) np
        have s02 := hF.trans (s1.trans s2)
        refine ⟨q.2, (sh, name), is_cl (hat.mono s02), is_cl ⟨na, upd_same, e2.mono s02⟩, _, rfl, ?_⟩
        refine ite_b (fun hc => ⟨_, rfl, hy _ ?_ _ s2⟩) (fun hc => hn ?_ _ s2)
        · rw [if_pos (decide_eq_true (dt hc))]
        · rw [if_neg (fun z => df hc (of_decide_eq_true z))]
      rw [b1] at e
      have g1 : Gr [m] F H (upd F D (.lst (bs.map V.ref))) H2 := (Gr.refl hF).lc nD s1 e
      have Dm : D ≠ m := ne_of_none_ h1 nD
      have fm : (upd F D (.lst (bs.map V.ref))) m = none := by rw [upd_ne Dm.symm]; exact hM.out
      refine ⟨_, rfl, m, _, rfl, dp_closed (s1 _ _ h1), ?_⟩
      have g2 := g1.put (o := .dK (modK ms.now ms.floor pa nta sa ms.up ra D ms.begins)) fm (.inr (by simp))
      exact rest _ _ ⟨_, g2, ⟨fm, pa, nta, sa, ra, D, upd_same, g2.ff _ _ h2, h3.mono g2.ff fun _ _ z => z.mono g2.ff, h4.mono g2.ff fun _ _ z => z.mono g2.ff, h5.mono g2.ff fun _ _ z => z.mono g2.ff, ⟨bs, upd_same, Paired.mono (fun _ _ z => z.mono g2.ff) b2⟩⟩, _, rfl⟩
    | route low sh =>
      have sd : SqT K H da [.str "route", .str low, .int sh] := .inl (.inl (hF _ _ hd))
      obtain ⟨ps, c1, c2⟩ := h5
      have lc := c2.length
      have fc := fit.routes
      refine ⟨_, rfl, da, _, 0, _, rfl, rfl, sd, atI_nat (j := 0) rfl, rfl, _, rfl, ?_⟩
      rw [show decide (V.str "route" = V.str "put") = false by decide +kernel]
      refine iteF ⟨_, rfl, da, _, 0, _, rfl, rfl, sd, atI_nat (j := 0) rfl, rfl, _, rfl, ?_⟩
      rw [show decide (V.str "route" = V.str "drop") = false by decide +kernel]
      refine iteF ⟨_, rfl, da, _, 0, _, rfl, rfl, sd, atI_nat (j := 0) rfl, rfl, _, rfl, ?_⟩
      rw [show decide (V.str "route" = V.str "pin") = false by decide +kernel]
      refine iteF ⟨_, rfl, da, _, 0, _, rfl, rfl, sd, atI_nat (j := 0) rfl, rfl, _, rfl, ?_⟩
      rw [show decide (V.str "route" = V.str "unpin") = false by decide +kernel]
      refine iteF ⟨_, rfl, da, _, 0, _, rfl, rfl, sd, atI_nat (j := 0) rfl, rfl, _, rfl, ?_⟩
      rw [show decide (V.str "route" = V.str "lift") = false by decide +kernel]
      refine iteF ⟨_, rfl, da, _, 0, _, rfl, rfl, sd, atI_nat (j := 0) rfl, rfl, _, rfl, ?_⟩
      rw [show decide (V.str "route" = V.str "own") = false by decide +kernel]
      refine iteF ⟨_, rfl, da, _, 0, _, rfl, rfl, sd, atI_nat (j := 0) rfl, rfl, _, rfl, ?_⟩
      rw [show decide (V.str "route" = V.str "close") = false by decide +kernel]
      refine iteF ⟨_, rfl, da, _, 0, _, rfl, rfl, sd, atI_nat (j := 0) rfl, rfl, _, rfl, ?_⟩
      rw [show decide (V.str "route" = V.str "forget") = false by decide +kernel]
      refine iteF ⟨_, rfl, da, _, 0, _, rfl, rfl, sd, atI_nat (j := 0) rfl, rfl, _, rfl, ?_⟩
      rw [show decide (V.str "route" = V.str "route") = true by decide +kernel]
      refine iteT ⟨_, rfl, m, _, rfl, dg_routes h1, ra, rfl, ⟨_, SqL.of (hF _ _ c1)⟩, fun D nD => ?_⟩
      obtain ⟨bs, b1, b2⟩ := paired_filter (fun r : Str × Int => decide (r.1 ≠ low)) c2
      refine lc_list_pure nD (SqL.of (hF _ _ c1)) (ps.zip ms.routes) (by rw [List.length_zip, List.length_map]; omega) (by rw [List.length_map]; omega) (fun q => if decide (q.2.1 ≠ low) = true then some (.ref q.1) else none) (fun i x q H2 Qn Qy hx hm s1 hn hy => ?_) (fun H2 s1 e => ?_)
      · obtain ⟨t, ht, rfl⟩ := map_at hx
        obtain ⟨z1, z2⟩ := zip_at hm
        have ea : t = q.1 := Option.some.inj (ht.symm.trans z1)
        subst ea
        obtain ⟨y, hy1, hat⟩ := paired_at c2 ht
        have en : y = q.2 := Option.some.inj (hy1.symm.trans z2)
        subst en
        refine ⟨rfl, ?_⟩
        refine ⟨_, rfl, q.1, _, 0, _, rfl, rfl, .inl (.inl (s1 _ _ (hF _ _ hat))), atI_nat (j := 0) rfl, _, rfl, da, _, 1, _, rfl, rfl, sqT_same s1 sd, atI_nat (j := 1) rfl, rfl, _, rfl, ?_⟩
        by_cases hl : q.2.1 = low
        · rw [decide_eq_true (show V.str q.2.1 = V.str low by rw [hl])]
          exact iteF (hn (if_neg fun z => absurd hl (of_decide_eq_true z)) H2 (Same.refl _))
        · rw [decide_eq_false (show ¬ V.str q.2.1 = V.str low from fun z => hl (V.str.inj z))]
          exact iteT ⟨_, rfl, hy _ (if_pos (decide_eq_true hl)) H2 (Same.refl _)⟩
      rw [b1] at e
      have lb := b2.length
      have lb2 : (ms.routes.filter fun r => decide (r.1 ≠ low)).length ≤ ms.routes.length := List.length_filter_le _ _
      have g1 : Gr [m] F H F H2 := (Gr.refl hF).samef s1
      have sd2 := sqT_same s1 sd
      refine ⟨_, rfl, da, _, 1, _, rfl, rfl, sd2, atI_nat (j := 1) rfl, ?_⟩
      refine ⟨_, rfl, da, _, 2, _, rfl, rfl, sd2, atI_nat (j := 2) rfl, (by show 2 ≤ sizeLine; decide), fun t nt => ⟨(by show 1 ≤ sizeLine; decide), fun p np => ?_⟩⟩
      have g2 := g1.new_ (o := .tup [V.str low, V.int sh]) nt
      have nDt : D ≠ t := ne_of_none e nt
      have eD : upd H2 t (.tup [V.str low, V.int sh]) D = some (.lst (bs.map V.ref)) := by rw [upd_ne nDt]; exact e
      have nDp : D ≠ p := ne_of_none eD np
      refine ⟨D, p, _, _, rfl, rfl, by rw [upd_ne nDp]; exact eD, upd_same, le1000 (by rw [List.length_map]; show _ + 1 ≤ _; omega), fun r nr => ?_⟩
      have g4 := (g2.made (o := .lst [V.ref t]) np).made (o := .lst (bs.map V.ref ++ [V.ref t])) nr
      have s4 := same_app (o := .lst (bs.map V.ref ++ [V.ref t])) (same_app (o := .lst [V.ref t]) (same_app (o := .tup [V.str low, V.int sh]) s1 nt) np) nr
      have hr4 : (upd (upd (upd H2 t (.tup [V.str low, V.int sh])) p (.lst [V.ref t])) r (.lst (bs.map V.ref ++ [V.ref t]))) r = some (.lst ((bs ++ [t]).map V.ref)) := by
        rw [upd_same, List.map_append]
        rfl
      generalize hH4 : upd (upd (upd H2 t (.tup [V.str low, V.int sh])) p (.lst [V.ref t])) r (.lst (bs.map V.ref ++ [V.ref t])) = H4 at *
      have pr4 : Paired (RtAt (upd F t (.tup [V.str low, V.int sh]))) (bs ++ [t]) (ms.routes.filter (fun r => decide (r.1 ≠ low)) ++ [(low, sh)]) :=
        paired_append (Paired.mono (fun _ _ z => z.mono g4.ff) b2) (.cons upd_same .nil)
      refine ⟨r, bs ++ [t], ms.routes.filter (fun r => decide (r.1 ≠ low)) ++ [(low, sh)], RtAt (upd F t (.tup [V.str low, V.int sh])), rfl, hr4, pr4, fun _ _ z => z.mono g4.fh, by rw [List.length_append]; show _ + 1 ≤ _; omega, fun ps' D5 n5 p5 => ?_⟩
      have g5 := g4.new_ (o := .lst (ps'.map V.ref)) n5
      have s5 := same_app (o := .lst (ps'.map V.ref)) s4 n5
      refine ⟨_, rfl, m, _, rfl, dp_routes (s5 _ _ h1), ?_⟩
      have tm : t ≠ m := ne_of_none_ h1 (s1.free nt)
      have Dm5 : D5 ≠ m := ne_of_none_ h1 (s4.free n5)
      have fm : (upd (upd F t (.tup [V.str low, V.int sh])) D5 (.lst (ps'.map V.ref))) m = none := by
        rw [upd_ne Dm5.symm, upd_ne tm.symm]
        exact hM.out
      have gZ := g5.put (o := .dK (modK ms.now ms.floor pa nta sa ms.up D5 ca ms.begins)) fm (.inr (by simp))
      refine ⟨_, rfl, da, _, 2, _, rfl, rfl, .inl (.inl (gZ.fh _ _ (gZ.ff _ _ hd))), atI_nat (j := 2) rfl, ?_⟩
      exact rest _ _ ⟨_, gZ, ⟨fm, pa, nta, sa, D5, ca, upd_same, gZ.ff _ _ h2, h3.mono gZ.ff fun _ _ z => z.mono gZ.ff, h4.mono gZ.ff fun _ _ z => z.mono gZ.ff, ⟨ps', upd_same, Paired.mono (fun _ _ z => z.mono (same_new (g4.fh.free n5))) p5⟩, h6.mono gZ.ff fun _ _ z => z.mono gZ.ff⟩, _, rfl⟩
    | begin_ =>
      have sd : SqT K H da [.str "begin"] := .inl (.inl (hF _ _ hd))
      refine ⟨_, rfl, da, _, 0, _, rfl, rfl, sd, atI_nat (j := 0) rfl, rfl, _, rfl, ?_⟩
      rw [show decide (V.str "begin" = V.str "put") = false by decide +kernel]
      refine iteF ⟨_, rfl, da, _, 0, _, rfl, rfl, sd, atI_nat (j := 0) rfl, rfl, _, rfl, ?_⟩
      rw [show decide (V.str "begin" = V.str "drop") = false by decide +kernel]
      refine iteF ⟨_, rfl, da, _, 0, _, rfl, rfl, sd, atI_nat (j := 0) rfl, rfl, _, rfl, ?_⟩
      rw [show decide (V.str "begin" = V.str "pin") = false by decide +kernel]
      refine iteF ⟨_, rfl, da, _, 0, _, rfl, rfl, sd, atI_nat (j := 0) rfl, rfl, _, rfl, ?_⟩
      rw [show decide (V.str "begin" = V.str "unpin") = false by decide +kernel]
      refine iteF ⟨_, rfl, da, _, 0, _, rfl, rfl, sd, atI_nat (j := 0) rfl, rfl, _, rfl, ?_⟩
      rw [show decide (V.str "begin" = V.str "lift") = false by decide +kernel]
      refine iteF ⟨_, rfl, da, _, 0, _, rfl, rfl, sd, atI_nat (j := 0) rfl, rfl, _, rfl, ?_⟩
      rw [show decide (V.str "begin" = V.str "own") = false by decide +kernel]
      refine iteF ⟨_, rfl, da, _, 0, _, rfl, rfl, sd, atI_nat (j := 0) rfl, rfl, _, rfl, ?_⟩
      rw [show decide (V.str "begin" = V.str "close") = false by decide +kernel]
      refine iteF ⟨_, rfl, da, _, 0, _, rfl, rfl, sd, atI_nat (j := 0) rfl, rfl, _, rfl, ?_⟩
      rw [show decide (V.str "begin" = V.str "forget") = false by decide +kernel]
      refine iteF ⟨_, rfl, da, _, 0, _, rfl, rfl, sd, atI_nat (j := 0) rfl, rfl, _, rfl, ?_⟩
      rw [show decide (V.str "begin" = V.str "route") = false by decide +kernel]
      refine iteF ⟨_, rfl, m, _, rfl, dg_begins h1, _, _, rfl, rfl, ?_⟩
      refine ⟨_, rfl, m, _, rfl, dp_begins h1, ?_⟩
      refine ⟨_, rfl, m, _, rfl, dg_begins upd_same, ?_⟩
      have g2 := (Gr.refl (S := [m]) hF).put (o := .dK (modK ms.now ms.floor pa nta sa ms.up ra ca (ms.begins + 1))) hM.out (.inr (by simp))
      exact rest _ _ ⟨_, g2, ⟨hM.out, pa, nta, sa, ra, ca, upd_same, h2, h3, h4, h5, h6⟩, _, rfl⟩
end
end K94
/-! The law's deeds. -/
namespace K94
open PySem PySem.Spec PyProof.Rows L2 LamX
/-- what the law's deeds are -/
def DeedGood (sd : SchD) (ms : MS) : Deed → Prop
  | .put _ r => RecOk sd r ∧ Small r
  | .own _ _ _ homes => homes.length ≤ ms.notes.length + 1 ∧ (homes.map (·.1)).Nodup
  | _ => True
section
variable {P : Program} {w : World} {K : PySem.W.Frag} {mg : Str → Option Value} {base : Heap}
theorem sc_l_some : FnScope ["_law_state", "_law_model", "_law_names", "_law_row_here"] ["_law_state", "_law_model"] (defScope s_l_some) := ⟨rfl, rfl, rfl, by decide +kernel, rfl, by decide +kernel, by decide +kernel⟩
def sp_l_some (K : PySem.W.Frag) : Sp := fun vs H Q _ => ∃ (F : Hp) (st m : Addr) (ms : MS), vs = [.ref st, .ref m] ∧ Same F H ∧ StAt F H st ∧ MAt K F H m ms ∧ ms.Fit ∧ ∀ (F' H' : Hp) (p na : Addr) (sh : Int) (name : Int × Int), Gr [st] F H F' H' → StAt F' H' st → F' p = some (.tup [.int sh, .ref na]) → NmAt F' na name → Q (.ref p) H'
theorem ok_l_some (T : Tx w K mg) : C8.Cal P w K mg base 3 "_law_some" (sp_l_some K) [] := by
  have c_l_next := ok_l_next (P := P) (base := base) T
  refine cal_mk (st := s_l_some) T.d_l_some T.g_l_some sc_l_some (fun _ _ _ _ _ _ us hl => match us, hl with | [_, _], _ => rfl) (fun vs H Q E h => ?_) (fun f cdv A outer s H vs Q E hr h => ?_)
  · obtain ⟨F, st, m, ms, rfl, _⟩ := h
    rfl
  · obtain ⟨F, st, m, ms, rfl, hF, hS, hM, fit, k⟩ := h
    obtain ⟨pa, nta, sa, ra, ca, h1, h2, h3, ⟨sas, q1, q2⟩, h5, ⟨cas, c1, c2⟩⟩ := hM.ex
    have hu := hu_of hr
    have lsg := q2.length
    have lc := c2.length
    have fs := fit.segs
    have fc := fit.closed
    refine ⟨_, (pss_cons (ps_set (i := 2) sc_l_some.nd rfl (.inl rfl) (pe_op op_cat (pe_op op_cat (pe_lc (own := [("_law_row_here", 3)]) (g := gName 3) (tt := tYes) rfl sc_l_some.nd (pi_list (pe_dget hu (pv 1) pe_str (fun _ _ => rfl))) (blkOk_by (N := ["_law_state", "_law_model", "_law_names", "_law_row_here"]) (sc := defScope s_l_some) (by decide +kernel)) (fun _ _ _ _ _ => pg_name (i := 3) sc_l_some.nd rfl (.inl rfl)) (fun _ _ _ _ _ => pts_nil) (fun _ _ _ _ _ => (pe_tup (pa_cons (pe_ix (ix_tupK (K := K) rfl) (pv 3) pe_int (fun _ _ => rfl)) (pa_cons (pe_ix (ix_tupK (K := K) rfl) (pv 3) pe_int (fun _ _ => rfl)) pa_nil))))) (pe_dget hu (pv 1) pe_str (fun _ _ => rfl))) (pe_lst (pa_cons (pe_tup (pa_cons pe_int (pa_cons (pe_tup (pa_cons pe_int (pa_cons pe_int pa_nil))) pa_nil))) (pa_cons (pe_tup (pa_cons pe_int (pa_cons (pe_tup (pa_cons pe_int (pa_cons pe_int pa_nil))) pa_nil))) pa_nil)))))
      (pss_one (ps_ret (pe_ix ix_list (pv 2) (C8.pe_c c_l_next hr (by decide) (by rfl) (pa_cons (pv 0) (pa_cons (pe_callB call_len_seq (by rfl) T.z_len PySem.boot_len (pa_cons (pv 2) pa_nil)) pa_nil))) (fun _ _ => rfl))))), ?_⟩
    refine ⟨_, rfl, m, _, rfl, dg_segments h1, sa, rfl, ⟨_, SqL.of (hF _ _ q1)⟩, fun D nD => ?_⟩
    refine lc_grow walk_list nD hF (fun i w => (sas.map V.ref)[i]? = some w) (fun H4 q => SqL.of (q _ _ (hF _ _ q1))) (fun _ _ _ _ y => y) ms.segs (by rw [List.length_map]; exact lsg.symm) (by rw [List.length_map]; omega) (fun s => some ((s.shard, s.name) : Int × (Int × Int))) (fun F a x => ClAt F a x) (fun s e => e.mono s) ?_ ?_
    · intro i w sd Fi H4 Qn Qy rv hz gr hn hy
      obtain ⟨t, ht, rfl⟩ := map_at rv
      obtain ⟨sd', hq, sna, spa, r1, r2, r3⟩ := paired_at q2 ht
      have en : sd' = sd := Option.some.inj (hq.symm.trans hz)
      subst en
      have r1' : SqT K H4 t [.int sd'.num, .int sd'.shard, .ref sna, .ref spa] := .inl (.inl (gr.fh _ _ (gr.ff _ _ r1)))
      refine ⟨rfl, lc_yes ?_⟩
      refine ⟨_, rfl, t, _, 1, _, rfl, rfl, r1', atI_nat (j := 1) rfl, ?_⟩
      refine ⟨_, rfl, t, _, 2, _, rfl, rfl, r1', atI_nat (j := 2) rfl, (by show 2 ≤ sizeLine; decide), fun p np => ?_⟩
      have g := (Gr.refl (S := []) gr.fh).new_ (o := .tup [V.int sd'.shard, V.ref sna]) np
      exact hy _ rfl p _ _ g ⟨sna, upd_same, (r2.mono gr.ff).mono g.ff⟩
    intro F1 H1 ps g1 nF e pr
    rw [List.filterMap_eq_map'] at pr
    have lp := pr.length
    have lp2 : (ms.segs.map fun s => ((s.shard, s.name) : Int × (Int × Int))).length = ms.segs.length := List.length_map _
    refine ⟨_, rfl, m, _, rfl, dg_closed (g1.hh _ _ h1), D, ca, _, _, rfl, rfl, e, g1.fh _ _ (g1.ff _ _ c1), le1000 (by rw [List.length_map, List.length_map]; omega), fun r1 nr1 => ?_⟩
    have g2 := g1.made (o := .lst (ps.map V.ref ++ cas.map V.ref)) nr1
    refine ⟨(by show 2 ≤ sizeLine; decide), fun t1 n1 => ⟨(by show 2 ≤ sizeLine; decide), fun t2 n2 => ⟨(by show 2 ≤ sizeLine; decide), fun t3 n3 => ⟨(by show 2 ≤ sizeLine; decide), fun t4 n4 => ⟨(by show 2 ≤ sizeLine; decide), fun u nu => ?_⟩⟩⟩⟩⟩
    have g3 := g2.new_ (o := .tup [V.int 7, V.int 7]) n1
    have g4 := g3.new_ (o := .tup [V.int 1, V.ref t1]) n2
    have g5 := g4.new_ (o := .tup [V.int 1, V.int 1]) n3
    have g6 := g5.new_ (o := .tup [V.int 2, V.ref t3]) n4
    have g7 := g6.made (o := .lst [V.ref t2, V.ref t4]) nu
    have f3 := same_new (o := .tup [V.int 7, V.int 7]) (g2.fh.free n1)
    have f4 := same_new (o := .tup [V.int 1, V.ref t1]) (g3.fh.free n2)
    have f5 := same_new (o := .tup [V.int 1, V.int 1]) (g4.fh.free n3)
    have f6 := same_new (o := .tup [V.int 2, V.ref t3]) (g5.fh.free n4)
    have hr1 := same_new (o := .lst [V.ref t2, V.ref t4]) nu _ _ (same_new (o := .tup [V.int 2, V.ref t3]) n4 _ _ (same_new (o := .tup [V.int 1, V.int 1]) n3 _ _ (same_new (o := .tup [V.int 1, V.ref t1]) n2 _ _ (same_new (o := .tup [V.int 7, V.int 7]) n1 _ _ (upd_same (H := H1) (a := r1) (o := .lst (ps.map V.ref ++ cas.map V.ref)))))))
    refine ⟨r1, u, _, _, rfl, rfl, hr1, upd_same, le1000 (by rw [List.length_append, List.length_map, List.length_map]; show _ + 2 ≤ _; omega), fun r2 nr2 => ?_⟩
    have g8 := g7.made (o := .lst (ps.map V.ref ++ cas.map V.ref ++ [V.ref t2, V.ref t4])) nr2
    have er : ps.map V.ref ++ cas.map V.ref ++ [V.ref t2, V.ref t4] = (ps ++ cas ++ [t2, t4]).map V.ref := by
      rw [List.map_append, List.map_append]
      rfl
    have all : Paired (ClAt (upd (upd (upd (upd F1 t1 (.tup [V.int 7, V.int 7])) t2 (.tup [V.int 1, V.ref t1])) t3 (.tup [V.int 1, V.int 1])) t4 (.tup [V.int 2, V.ref t3]))) (ps ++ cas ++ [t2, t4]) ((ms.segs.map fun s => ((s.shard, s.name) : Int × (Int × Int))) ++ ms.closed ++ [(1, (7, 7)), (2, (1, 1))]) := by
      have ff := f3.trans (f4.trans (f5.trans f6))
      refine paired_append (paired_append (Paired.mono (fun _ _ z => z.mono ff) pr) (Paired.mono (fun _ _ z => z.mono (g1.ff.trans ff)) c2)) (.cons ⟨t1, f6 _ _ (f5 _ _ upd_same), f6 _ _ (f5 _ _ (f4 _ _ upd_same))⟩ (.cons ⟨t3, upd_same, f6 _ _ upd_same⟩ .nil))
    have gS : Gr [st] F H _ _ := g8.mono (S' := [st]) (by simp)
    have hS8 := hS.frame g8 (by simp)
    have h8 : (upd (upd (upd (upd (upd (upd (upd H1 r1 (.lst (ps.map V.ref ++ cas.map V.ref))) t1 (.tup [V.int 7, V.int 7])) t2 (.tup [V.int 1, V.ref t1])) t3 (.tup [V.int 1, V.int 1])) t4 (.tup [V.int 2, V.ref t3])) u (.lst [V.ref t2, V.ref t4])) r2 (.lst (ps.map V.ref ++ cas.map V.ref ++ [V.ref t2, V.ref t4]))) r2 = some (.lst ((ps ++ cas ++ [t2, t4]).map V.ref)) := by rw [upd_same, er]
    have r2s : r2 ≠ st := (hS.frame g7 (by simp)).ne nr2
    generalize hH8 : upd (upd (upd (upd (upd (upd (upd H1 r1 (.lst (ps.map V.ref ++ cas.map V.ref))) t1 (.tup [V.int 7, V.int 7])) t2 (.tup [V.int 1, V.ref t1])) t3 (.tup [V.int 1, V.int 1])) t4 (.tup [V.int 2, V.ref t3])) u (.lst [V.ref t2, V.ref t4])) r2 (.lst (ps.map V.ref ++ cas.map V.ref ++ [V.ref t2, V.ref t4])) = H8 at *
    generalize hF8 : upd (upd (upd (upd F1 t1 (.tup [V.int 7, V.int 7])) t2 (.tup [V.int 1, V.ref t1])) t3 (.tup [V.int 1, V.int 1])) t4 (.tup [V.int 2, V.ref t3]) = F8 at *
    generalize hps : ps ++ cas ++ [t2, t4] = as at *
    have las : as.length ≤ 2002 ∧ 0 < as.length := by
      rw [← hps, List.length_append, List.length_append]
      show ps.length + cas.length + 2 ≤ 2002 ∧ 0 < ps.length + cas.length + 2
      omega
    refine ⟨_, rfl, _, rfl, _, rfl, r2, _, rfl, .inl (SqL.of h8), F8, st, _, rfl, gS.fh, hS8, by rw [List.length_map]; omega, by rw [List.length_map]; omega, fun H9 r g9 hS9 r0 r1' => ?_⟩
    rw [List.length_map] at r1'
    have hlt : r.toNat < as.length := by omega
    have e9 := g9.keep _ _ h8 (by simp [r2s])
    have at_ : (as.map V.ref)[r.toNat]? = some (.ref as[r.toNat]) := by rw [List.getElem?_map, List.getElem?_eq_getElem hlt]; rfl
    obtain ⟨y, hy, na, y1, y2⟩ := paired_at all (List.getElem?_eq_getElem hlt)
    refine ⟨r2, _, r, _, rfl, rfl, SqL.of e9, ?_, k F8 H9 _ na y.1 y.2 (gS.trans g9) hS9 y1 y2⟩
    have ea := atI_nat (j := r.toNat) at_
    rw [show ((r.toNat : Nat) : Int) = r by omega] at ea
    exact ea
end
end K94
/-! The law's deeds, part 2. -/
namespace K94
open PySem PySem.Spec PyProof.Rows L2 LamX
theorem StAt.tell {F H : Hp} {st p : Addr} {o : HO} (h : StAt F H st) (s : Same F H) (n : H p = none) (ho : NoTab o := by intro _ h; cases h) : StAt (upd F p o) (upd H p o) st := h.frame (S := []) (Gr.tell s n ho) (by simp)
theorem letter_at {r : Int} (h0 : 0 ≤ r) (h1 : r < 6) : ∃ c, atI ("abcdef" : Str).cps.toList r = some c := by
  have hl : ("abcdef" : Str).cps.toList.length = 6 := by decide +kernel
  have hk : r.toNat < ("abcdef" : Str).cps.toList.length := by omega
  have e := atI_nat (xs := ("abcdef" : Str).cps.toList) (j := r.toNat) (List.getElem?_eq_getElem hk)
  rw [show ((r.toNat : Nat) : Int) = r by omega] at e
  exact ⟨_, e⟩
theorem atI_strs (ws : List Str) {r : Int} (h0 : 0 ≤ r) (h1 : r < (ws.length : Nat)) : ∃ x, atI (ws.map V.str) r = some (.str x) ∧ x ∈ ws := by
  have hk : r.toNat < ws.length := by omega
  have e := atI_nat (xs := ws.map V.str) (j := r.toNat) (v := .str ws[r.toNat]) (by rw [List.getElem?_map, List.getElem?_eq_getElem hk]; rfl)
  rw [show ((r.toNat : Nat) : Int) = r by omega] at e
  exact ⟨_, e, List.getElem_mem hk⟩
theorem one_ne (c : Nat) : (⟨#[c]⟩ : Str) ≠ "" := fun e => by
  have h := congrArg (fun z : Str => z.cps.size) e
  have h2 : (1 : Nat) = 0 := h
  omega
/-- what is told besides -/
theorem LP.step {α : Type} {At : Hp → Addr → α → Prop} {F H F1 H1 F2 H2 : Hp} {st fl : Addr} {xs : List α} (mono : ∀ (F F' : Hp) (p : Addr) (b : α), Same F F' → At F p b → At F' p b) (h : LP At F H F1 H1 st fl xs) (g : Gr [] F1 H1 F2 H2) : LP At F H F2 H2 st fl xs := by
  obtain ⟨as, e1, e2⟩ := h.ls
  exact ⟨h.g.trans (g.mono (by simp)), h.hS.frame g (by simp), g.out e1 h.out, h.ne, h.h0, as, g.hh _ _ e1, Paired.mono (fun _ _ z => mono _ _ _ _ g.ff z) e2⟩
def words14 : List Str := ["put", "put", "put", "drop", "pin", "unpin", "lift", "own", "own", "own", "close", "forget", "route", "begin"]
theorem words10 {x : Str} (h : x ∈ words14) : x = "put" ∨ x = "drop" ∨ x = "pin" ∨ x = "unpin" ∨ x = "lift" ∨ x = "own" ∨ x = "close" ∨ x = "forget" ∨ x = "route" ∨ x = "begin" := by
  simp only [words14, List.mem_cons, List.not_mem_nil, or_false] at h
  rcases h with h | h | h | h | h | h | h | h | h | h | h | h | h | h <;> simp [h]
theorem HomeAt.mono_ {K : PySem.W.Frag} (F F' : Hp) (p : Addr) (b : Int × List Int) (s : Same F F') (h : HomeAt K F p b) : HomeAt K F' p b := h.mono s
section
variable {P : Program} {w : World} {K : PySem.W.Frag} {mg : Str → Option Value} {base : Heap}
theorem sc_l_deed : FnScope ["_law_state", "_law_schema_here", "_law_model", "_law_words", "_law_word", "_law_homes", "_law_note", "_law_name", "_law_regions", "_law_shard_here"] ["_law_state", "_law_schema_here", "_law_model"] (defScope s_l_deed) := ⟨rfl, rfl, rfl, by decide +kernel, rfl, by decide +kernel, by decide +kernel⟩
def sp_l_deed (K : PySem.W.Frag) : Sp := fun vs H Q _ => ∃ (F : Hp) (st sa m : Addr) (d : SchD) (ms : MS), vs = [.ref st, .ref sa, .ref m] ∧ Same F H ∧ StAt F H st ∧ SchAt K F sa d ∧ d.Ok ∧ MAt K F H m ms ∧ st ≠ m ∧ ms.Fit ∧ (ms.notes.map (·.num)).Nodup ∧ (∀ nd ∈ ms.notes, nd.num ≤ ms.now) ∧
  ∀ (F' H' : Hp) (da : Addr) (dd : Deed), Gr [st] F H F' H' → StAt F' H' st → DeedAt K F' da dd → DeedGood d ms dd → Q (.ref da) H'
theorem ok_l_deed (T : Tx w K mg) : C8.Cal P w K mg base 5 "_law_deed" (sp_l_deed K) [] := by
  have c_l_next := ok_l_next (P := P) (base := base) T
  have c_l_some := ok_l_some (P := P) (base := base) T
  have c_l_record := ok_l_record (P := P) (base := base) T
  have c_Region := ok_Region_init (P := P) (base := base) T
  have c_Norms := ok_Norms_init (P := P) (base := base) T
  refine cal_mk (st := s_l_deed) T.d_l_deed T.g_l_deed sc_l_deed (fun _ _ _ _ _ _ us hl => match us, hl with | [_, _, _], _ => rfl) (fun vs H Q E h => ?_) (fun f cdv A outer s H vs Q E hr h => ?_)
  · obtain ⟨F, st, sa, m, d, ms, rfl, _⟩ := h
    rfl
  · obtain ⟨F, st, sa, m, d, ms, rfl, hF, hS, hsa, ok, hM, stm, fit, nod, old, k⟩ := h
    have hu := hu_of hr
    have fnow := fit.now
    have fno := fit.notes
    refine ⟨_, (pss_cons (ps_set (i := 3) sc_l_deed.nd rfl (.inl rfl) (pe_lst (pa_cons pe_str (pa_cons pe_str (pa_cons pe_str (pa_cons pe_str (pa_cons pe_str (pa_cons pe_str (pa_cons pe_str (pa_cons pe_str (pa_cons pe_str (pa_cons pe_str (pa_cons pe_str (pa_cons pe_str (pa_cons pe_str pa_nil)))))))))))))))
      (pss_cons (ps_set (i := 4) sc_l_deed.nd rfl (.inl rfl) (pe_ix ix_list (pe_op op_cat (pv 3) (pe_lst (pa_cons pe_str pa_nil))) (C8.pe_c c_l_next hr (by decide) (by rfl) (pa_cons (pv 0) (pa_cons pe_int pa_nil))) (fun _ _ => rfl)))
      (pss_cons (ps_if (pt_cmpR op_eq (pv 4) pe_str (nomark _))
        (pss_one (ps_ret (pe_tup (pa_cons (pv 4) (pa_cons (C8.pe_c c_l_record hr (by decide) (by rfl) (pa_cons (pv 0) (pa_cons (pv 1) (pa_cons (pe_ix ix_str pe_str (C8.pe_c c_l_next hr (by decide) (by rfl) (pa_cons (pv 0) (pa_cons pe_int pa_nil))) (fun _ _ => rfl)) pa_nil)))) pa_nil)))))
        pss_nil)
      (pss_cons (ps_if (pt_cmpR op_eq (pv 4) pe_str (nomark _))
        (pss_one (ps_ret (pe_tup (pa_cons (pv 4) (pa_cons (pe_ix ix_str pe_str (C8.pe_c c_l_next hr (by decide) (by rfl) (pa_cons (pv 0) (pa_cons pe_int pa_nil))) (fun _ _ => rfl)) pa_nil)))))
        pss_nil)
      (pss_cons (ps_if (PW.pt (pw_or (pt_cmpR op_eq (pv 4) pe_str (nomark _)) (pw_or1 (pt_cmpR op_eq (pv 4) pe_str (nomark _)))))
        (pss_one (ps_ret (pe_tup (pa_cons (pv 4) (pa_cons (C8.pe_c c_l_next hr (by decide) (by rfl) (pa_cons (pv 0) (pa_cons (pe_op op_add (pe_dget hu (pv 2) pe_str (fun _ _ => rfl)) pe_int) pa_nil))) pa_nil)))))
        pss_nil)
      (pss_cons (ps_if (pt_cmpR op_eq (pv 4) pe_str (nomark _))
        (pss_cons (ps_set (i := 5) sc_l_deed.nd rfl (.inl rfl) (pe_lst pa_nil))
        (pss_cons (ps_for PassesOwn.never rfl (pi_list (pe_dget hu (pv 2) pe_str (fun _ _ => rfl))) (pg_name (i := 6) sc_l_deed.nd rfl (.inl rfl))
          (pss_one (ps_if (pt_cmpR op_gt (C8.pe_c c_l_next hr (by decide) (by rfl) (pa_cons (pv 0) (pa_cons pe_int pa_nil))) pe_int (nomark _))
            (pss_one (ps_expr (pe_bm PySem.F.plainAttrs_list PySem.F.slot_list_append PySem.F.type_list_append mt_append (pv 5) (pa_cons (pe_tup (pa_cons (pe_ix (ix_tupK (K := K) rfl) (pv 6) pe_int (fun _ _ => rfl)) (pa_cons (pe_tup (pa_cons (C8.pe_c c_l_next hr (by decide) (by rfl) (pa_cons (pv 0) (pa_cons pe_int pa_nil))) pa_nil)) pa_nil))) pa_nil))))
            pss_nil)))
        (pss_cons (ps_if (pt_cmpR op_eq (C8.pe_c c_l_next hr (by decide) (by rfl) (pa_cons (pv 0) (pa_cons pe_int pa_nil))) pe_int (nomark _))
          (pss_one (ps_expr (pe_bm PySem.F.plainAttrs_list PySem.F.slot_list_append PySem.F.type_list_append mt_append (pv 5) (pa_cons (pe_tup (pa_cons (pe_op op_add (pe_dget hu (pv 2) pe_str (fun _ _ => rfl)) pe_int) (pa_cons (pe_tup (pa_cons pe_int pa_nil)) pa_nil))) pa_nil))))
          pss_nil)
        (pss_cons (ps_set (i := 7) sc_l_deed.nd rfl (.inl rfl) (pe_tup (pa_cons (C8.pe_c c_l_next hr (by decide) (by rfl) (pa_cons (pv 0) (pa_cons pe_int pa_nil))) (pa_cons (pe_dget hu (pv 2) pe_str (fun _ _ => rfl)) pa_nil))))
        (pss_cons (ps_set (i := 8) sc_l_deed.nd rfl (.inl rfl) (pe_tup (pa_cons (C8.pe_mk c_Region hr (by decide) (by rfl) (pa_cons pe_non (pa_cons (pe_lst pa_nil) pa_nil))) (pa_cons (C8.pe_mk c_Region hr (by decide) (by rfl) (pa_cons pe_non (pa_cons (pe_lst (pa_cons (C8.pe_mk c_Norms hr (by decide) (by rfl) (pa_cons pe_int (pa_cons pe_int pa_nil))) pa_nil)) pa_nil))) pa_nil))))
        (pss_one (ps_ret (pe_tup (pa_cons (pv 4) (pa_cons (pe_op op_add pe_int (C8.pe_c c_l_next hr (by decide) (by rfl) (pa_cons (pv 0) (pa_cons pe_int pa_nil)))) (pa_cons (pv 7) (pa_cons (pe_tup (pa_cons (pv 8) pa_nil)) (pa_cons (pe_callTy (call_tuple_K (K := K) rfl) (by rfl) T.z_tuple (by decide +kernel) (pa_cons (pv 5) pa_nil)) pa_nil)))))))))))))
        pss_nil)
      (pss_cons (ps_if (PW.pt (pw_or (pt_cmpR op_eq (pv 4) pe_str (nomark _)) (pw_or1 (pt_cmpR op_eq (pv 4) pe_str (nomark _)))))
        (pss_cons (ps_asg (C8.pe_c c_l_some hr (by decide) (by rfl) (pa_cons (pv 0) (pa_cons (pv 2) pa_nil))) (pg_tup rfl (pgs_cons (pg_name (i := 9) sc_l_deed.nd rfl (.inl rfl)) (pgs_cons (pg_name (i := 7) sc_l_deed.nd rfl (.inl rfl)) pgs_nil))))
        (pss_one (ps_ret (pe_tup (pa_cons (pv 4) (pa_cons (pv 9) (pa_cons (pv 7) pa_nil)))))))
        pss_nil)
      (pss_cons (ps_if (pt_cmpR op_eq (pv 4) pe_str (nomark _))
        (pss_one (ps_ret (pe_tup (pa_cons (pv 4) (pa_cons (pe_ix ix_list (pe_lst (pa_cons pe_str (pa_cons pe_str (pa_cons pe_str (pa_cons pe_str pa_nil))))) (C8.pe_c c_l_next hr (by decide) (by rfl) (pa_cons (pv 0) (pa_cons pe_int pa_nil))) (fun _ _ => rfl)) (pa_cons (pe_op op_add pe_int (C8.pe_c c_l_next hr (by decide) (by rfl) (pa_cons (pv 0) (pa_cons pe_int pa_nil)))) pa_nil))))))
        pss_nil)
      (pss_one (ps_ret (pe_tup (pa_cons (pv 4) pa_nil)))))))))))), ?_⟩
    refine ⟨(by show 13 ≤ sizeLine; decide), fun p np => ?_⟩
    have s1 := same_new (o := .lst [V.str "put", V.str "put", V.str "put", V.str "drop", V.str "pin", V.str "unpin", V.str "lift", V.str "own", V.str "own", V.str "own", V.str "close", V.str "forget", V.str "route"]) np
    refine ⟨_, rfl, (by show 1 ≤ sizeLine; decide), fun q nq => ?_⟩
    have s2 := same_app (o := .lst [V.str "begin"]) s1 nq
    have npq : p ≠ q := fun z => by
      rw [← z, upd_same] at nq
      cases nq
    refine ⟨p, q, _, _, rfl, rfl, by rw [upd_ne npq, upd_same], upd_same, (by show 14 ≤ sizeLine; decide), fun r nr => ?_⟩
    have s3 := same_app (o := .lst (words14.map V.str)) s2 nr
    have g1 : Gr [] F H F _ := (Gr.refl hF).samef s3
    have hS1 := hS.frame g1 (by simp)
    have nrs : r ≠ st := (hS.frame (S := []) ((Gr.refl hF).samef s2) (by simp)).ne nr
    refine ⟨_, rfl, F, st, 14, rfl, g1.fh, hS1, by decide, by decide, fun H3 i g2 hS3 i0 i1 => ?_⟩
    obtain ⟨x, e1, hx⟩ := atI_strs words14 i0 i1
    have hr3 := g2.keep _ _ (upd_same (a := r) (o := .lst (words14.map V.str))) (by simp [nrs])
    refine ⟨r, _, i, _, rfl, rfl, SqL.of hr3, e1, ?_⟩
    have g3 : Gr [st] F H F H3 := (g1.mono (by simp)).trans g2
    have hF3 := g3.fh
    have hM3 := hM.frame g3 (by simp [stm.symm])
    obtain ⟨pa, nta, sga, ra, ca, h13, h2, h3, h4, h5, h6⟩ := hM3.ex
    rcases words10 hx with rfl | rfl | rfl | rfl | rfl | rfl | rfl | rfl | rfl | rfl
    · refine ⟨_, rfl, rfl, _, rfl, ?_⟩
      rw [show decide (V.str "put" = V.str "put") = true by decide +kernel]
      refine iteT ?_
      refine ⟨_, rfl, _, rfl, _, rfl, _, rfl, F, st, 6, rfl, hF3, hS3, by decide, by decide, fun H4 r g4 hS4 r0 r1 => ?_⟩
      obtain ⟨c, hc⟩ := letter_at r0 r1
      refine ⟨_, _, c, rfl, rfl, (by show 6 ≤ sizeLine; decide), hc, F, st, sa, d, _, rfl, one_ne c, (by show 1 ≤ 20; decide), g4.fh, hS4, hsa, ok, fun F5 H5 ra rr g5 hS5 hR hok hsm _ => ⟨(by show 2 ≤ sizeLine; decide), fun q nq => ?_⟩⟩
      have gz := ((g3.trans g4).trans g5).new_ (o := .tup [V.str "put", V.ref ra]) nq
      exact k _ _ q (.put ra rr) gz (hS5.tell g5.fh nq) ⟨upd_same, hR.mono (same_new (g5.fh.free nq))⟩ ⟨hok, hsm⟩
    · refine ⟨_, rfl, rfl, _, rfl, ?_⟩
      rw [show decide (V.str "drop" = V.str "put") = false by decide +kernel]
      refine iteF ⟨_, rfl, rfl, _, rfl, ?_⟩
      rw [show decide (V.str "drop" = V.str "drop") = true by decide +kernel]
      refine iteT ?_
      refine ⟨_, rfl, _, rfl, F, st, 6, rfl, hF3, hS3, by decide, by decide, fun H4 r g4 hS4 r0 r1 => ?_⟩
      obtain ⟨c, hc⟩ := letter_at r0 r1
      refine ⟨_, _, c, rfl, rfl, (by show 6 ≤ sizeLine; decide), hc, (by show 2 ≤ sizeLine; decide), fun q nq => ?_⟩
      exact k _ _ q (.drop ⟨#[c]⟩) ((g3.trans g4).new_ nq) (hS4.tell g4.fh nq) upd_same True.intro
    · refine ⟨_, rfl, rfl, _, rfl, ?_⟩
      rw [show decide (V.str "pin" = V.str "put") = false by decide +kernel]
      refine iteF ⟨_, rfl, rfl, _, rfl, ?_⟩
      rw [show decide (V.str "pin" = V.str "drop") = false by decide +kernel]
      refine iteF ⟨_, rfl, rfl, _, rfl, ?_⟩
      rw [show decide (V.str "pin" = V.str "unpin") = false by decide +kernel]
      refine iteF ⟨_, rfl, rfl, _, rfl, ?_⟩
      rw [show decide (V.str "pin" = V.str "lift") = false by decide +kernel]
      refine iteF ⟨_, rfl, rfl, _, rfl, ?_⟩
      rw [show decide (V.str "pin" = V.str "own") = false by decide +kernel]
      refine iteF ⟨_, rfl, rfl, _, rfl, ?_⟩
      rw [show decide (V.str "pin" = V.str "close") = false by decide +kernel]
      refine iteF ⟨_, rfl, rfl, _, rfl, ?_⟩
      rw [show decide (V.str "pin" = V.str "forget") = false by decide +kernel]
      refine iteF ⟨_, rfl, rfl, _, rfl, ?_⟩
      rw [show decide (V.str "pin" = V.str "route") = false by decide +kernel]
      refine iteF ?_
      refine ⟨_, rfl, (by show 1 ≤ sizeLine; decide), fun q nq => ?_⟩
      exact k _ _ q .pin (g3.new_ nq) (hS3.tell g3.fh nq) upd_same True.intro
    · refine ⟨_, rfl, rfl, _, rfl, ?_⟩
      rw [show decide (V.str "unpin" = V.str "put") = false by decide +kernel]
      refine iteF ⟨_, rfl, rfl, _, rfl, ?_⟩
      rw [show decide (V.str "unpin" = V.str "drop") = false by decide +kernel]
      refine iteF ⟨_, rfl, rfl, _, rfl, ?_⟩
      rw [show decide (V.str "unpin" = V.str "unpin") = true by decide +kernel]
      refine iteT (iteT ?_)
      refine ⟨_, rfl, _, rfl, _, rfl, m, _, rfl, dg_now h13, _, _, rfl, rfl, F, st, ms.now + 2, rfl, hF3, hS3, by omega, by omega, fun H4 r g4 hS4 r0 r1 => ⟨(by show 2 ≤ sizeLine; decide), fun q nq => ?_⟩⟩
      exact k _ _ q (.unpin r) ((g3.trans g4).new_ nq) (hS4.tell g4.fh nq) upd_same True.intro
    · refine ⟨_, rfl, rfl, _, rfl, ?_⟩
      rw [show decide (V.str "lift" = V.str "put") = false by decide +kernel]
      refine iteF ⟨_, rfl, rfl, _, rfl, ?_⟩
      rw [show decide (V.str "lift" = V.str "drop") = false by decide +kernel]
      refine iteF ⟨_, rfl, rfl, _, rfl, ?_⟩
      rw [show decide (V.str "lift" = V.str "unpin") = false by decide +kernel]
      refine iteF ⟨_, rfl, rfl, _, rfl, ?_⟩
      rw [show decide (V.str "lift" = V.str "lift") = true by decide +kernel]
      refine iteT ?_
      refine ⟨_, rfl, _, rfl, _, rfl, m, _, rfl, dg_now h13, _, _, rfl, rfl, F, st, ms.now + 2, rfl, hF3, hS3, by omega, by omega, fun H4 r g4 hS4 r0 r1 => ⟨(by show 2 ≤ sizeLine; decide), fun q nq => ?_⟩⟩
      exact k _ _ q (.lift r) ((g3.trans g4).new_ nq) (hS4.tell g4.fh nq) upd_same True.intro
    · refine ⟨_, rfl, rfl, _, rfl, ?_⟩
      rw [show decide (V.str "own" = V.str "put") = false by decide +kernel]
      refine iteF ⟨_, rfl, rfl, _, rfl, ?_⟩
      rw [show decide (V.str "own" = V.str "drop") = false by decide +kernel]
      refine iteF ⟨_, rfl, rfl, _, rfl, ?_⟩
      rw [show decide (V.str "own" = V.str "unpin") = false by decide +kernel]
      refine iteF ⟨_, rfl, rfl, _, rfl, ?_⟩
      rw [show decide (V.str "own" = V.str "lift") = false by decide +kernel]
      refine iteF ⟨_, rfl, rfl, _, rfl, ?_⟩
      rw [show decide (V.str "own" = V.str "own") = true by decide +kernel]
      refine iteT ?_
      refine ⟨Nat.zero_le _, fun hl nhl => ?_⟩
      have l0 := LP.start (At := HomeAt K) g3 hS3 nhl
      obtain ⟨nas, n1, n2⟩ := h3
      have ln := n2.length
      have n1H := hF3 _ _ n1
      refine ⟨_, rfl, m, _, rfl, dg_notes (same_new nhl _ _ h13), nta, rfl, ⟨_, SqL.of (same_new nhl _ _ n1H)⟩, for_list (K := K) (a := nta) (xs := nas.map V.ref) (fun i σ H2 => ∃ (F1 : Hp) (xs : List (Int × List Int)), LP (HomeAt K) F H F1 H2 st hl xs ∧ Same F F1 ∧ xs.length ≤ i ∧ (xs.map (·.1)).Sublist ((ms.notes.take i).map (·.num)) ∧
          ∃ y6, σ = [some (.ref st), some (.ref sa), some (.ref m), some (.ref p), some (.str "own"), some (.ref hl), y6, none, none, none])
        ⟨F, [], l0, Same.refl _, Nat.zero_le _, List.Sublist.refl _, _, rfl⟩ (fun i σ H2 _ q => by obtain ⟨F1, xs, l, s, _⟩ := q; exact SqL.of (l.g.fh _ _ (s _ _ n1))) ?_ ?_⟩
      · rintro i v σ H2 hi ⟨F1, xs, l, s, lx, sub, y6, rfl⟩
        obtain ⟨a, hA, rfl⟩ := map_at hi
        obtain ⟨nd, hnd, lvx, a1, _⟩ := paired_at n2 hA
        have hlt : i < ms.notes.length := (List.getElem?_eq_some_iff.mp hnd).1
        have sub2 : (xs.map (·.1)).Sublist ((ms.notes.take (i + 1)).map (·.num)) := by
          rw [take_succ_of hnd, List.map_append]
          exact sub.trans (List.sublist_append_left _ _)
        refine ⟨_, rfl, F1, st, 3, rfl, l.g.fh, l.hS, by decide, by decide, fun H4 r4 g4 hS4 _ _ => ⟨_, _, rfl, rfl, _, rfl, ite_b (fun _ => ?_) (fun _ => ?_)⟩⟩
        · have l1 := l.next g4 hS4
          obtain ⟨as1, b1, _⟩ := l1.ls
          refine ⟨_, rfl, .inl ⟨rfl, _, SqL.of b1⟩, _, rfl, a, _, 0, _, rfl, rfl, .inl (.inl (l1.g.fh _ _ (s _ _ a1))), atI_nat (j := 0) rfl, ?_⟩
          refine ⟨_, rfl, F1, st, 2, rfl, l1.g.fh, l1.hS, by decide, by decide, fun H5 v g5 hS5 _ _ => ⟨(by show 1 ≤ sizeLine; decide), fun lv nlv => ⟨(by show 2 ≤ sizeLine; decide), fun t nt => ?_⟩⟩⟩
          have l2 := l1.next g5 hS5
          have l3 := l2.step HomeAt.mono_ (Gr.tell (S := []) (o := .tup [V.int v]) l2.g.fh nlv)
          obtain ⟨as, e1, e2⟩ := l3.ls
          have las := e2.length
          refine ⟨hl, _, _, rfl, rfl, same_new nt _ _ e1, lt1000 (by rw [List.length_map]; omega), ?_⟩
          have ft := l3.g.fh.free nt
          have l4 := l3.push (x := (nd.num, [v])) HomeAt.mono_ (o := .tup [V.int nd.num, V.ref lv]) (fun _ h => by cases h) nt ⟨lv, upd_same, .inl (.inl (same_new ft _ _ upd_same))⟩ e1 e2
          refine ⟨_, _, l4, s.trans ((same_new (l2.g.fh.free nlv)).trans (same_new ft)), by rw [List.length_append]; exact Nat.succ_le_succ lx, ?_, _, rfl⟩
          rw [take_succ_of hnd, List.map_append, List.map_append]
          exact List.Sublist.append sub (List.Sublist.refl _)
        · exact ⟨F1, xs, l.next g4 hS4, s, by omega, sub2, _, rfl⟩
      rintro σ H2 ⟨F1, xs, l, s, lx, sub, y6, rfl⟩
      rw [List.length_map, ln, List.take_length] at sub
      rw [List.length_map, ln] at lx
      have nx := sub.nodup nod
      have ox : ∀ n ∈ xs.map (·.1), n ≤ ms.now := fun n hn => by
        obtain ⟨nd, h1, rfl⟩ := List.mem_map.mp (sub.subset hn)
        exact old nd h1
      dsimp only
      refine cut (fun σ' H' => ∃ (F1 : Hp) (xs : List (Int × List Int)), LP (HomeAt K) F H F1 H' st hl xs ∧ xs.length ≤ ms.notes.length + 1 ∧ (xs.map (·.1)).Nodup ∧
        σ' = [some (.ref st), some (.ref sa), some (.ref m), some (.ref p), some (.str "own"), some (.ref hl), y6, none, none, none]) ?_ (fun rest => ?_)
      rotate_left
      · refine ⟨_, rfl, F1, st, 4, rfl, l.g.fh, l.hS, by decide, by decide, fun H4 r4 g4 hS4 _ _ => ⟨rfl, _, rfl, ite_b (fun _ => ?_) (fun _ => ?_)⟩⟩
        · have l1 := l.next g4 hS4
          obtain ⟨as1, b1, _⟩ := l1.ls
          obtain ⟨_, _, _, _, _, hm4, _⟩ := (hM.frame l1.g (by simp [stm.symm])).ex
          refine ⟨_, rfl, .inl ⟨rfl, _, SqL.of b1⟩, _, rfl, m, _, rfl, dg_now hm4, _, _, rfl, rfl, (by show 1 ≤ sizeLine; decide), fun lv nlv => ⟨(by show 2 ≤ sizeLine; decide), fun t nt => ?_⟩⟩
          have l3 := l1.step HomeAt.mono_ (Gr.tell (S := []) (o := .tup [V.int 0]) l1.g.fh nlv)
          obtain ⟨as, e1, e2⟩ := l3.ls
          have las := e2.length
          refine ⟨hl, _, _, rfl, rfl, same_new nt _ _ e1, lt1000 (by rw [List.length_map]; omega), ?_⟩
          have ft := l3.g.fh.free nt
          have l4 := l3.push (x := (ms.now + 5, [0])) HomeAt.mono_ (o := .tup [V.int (ms.now + 5), V.ref lv]) (fun _ h => by cases h) nt ⟨lv, upd_same, .inl (.inl (same_new ft _ _ upd_same))⟩ e1 e2
          refine rest _ _ ⟨_, _, l4, by rw [List.length_append]; exact Nat.succ_le_succ lx, ?_, rfl⟩
          rw [List.map_append]
          refine List.nodup_append.mpr ⟨nx, by simp, fun u hu v hv e => ?_⟩
          have := ox u hu
          have e2 : v = ms.now + 5 := by simpa using hv
          omega
        · exact rest _ _ ⟨F1, xs, l.next g4 hS4, by omega, nx, rfl⟩
      clear nx ox sub lx s l
      clear F1 xs
      rintro σ4 H4 ⟨F1, xs, l, lx, nx, rfl⟩
      obtain ⟨_, _, _, _, _, hm4, _⟩ := (hM.frame l.g (by simp [stm.symm])).ex
      refine ⟨_, rfl, F1, st, 3, rfl, l.g.fh, l.hS, by decide, by decide, fun H5 n0 g5 hS5 _ _ => ⟨_, rfl, m, _, rfl, dg_upcoming (g5.keep _ _ hm4 (by simp [stm.symm])), (by show 2 ≤ sizeLine; decide), fun na nna => ?_⟩⟩
      have l5 := l.next g5 hS5
      have l6 := l5.step HomeAt.mono_ (Gr.tell (S := []) (o := .tup [V.int n0, V.int ms.up]) l5.g.fh nna)
      have d6 : NmAt (upd F1 na (.tup [V.int n0, V.int ms.up])) na (n0, ms.up) := upd_same
      generalize upd F1 na (.tup [V.int n0, V.int ms.up]) = F6 at *
      generalize upd H5 na (.tup [V.int n0, V.int ms.up]) = H6 at *
      refine ⟨Nat.zero_le _, fun fa nfa x dx hx hd hne => ?_⟩
      have s6 : Same F6 (upd H6 fa (.lst [])) := l6.g.fh.trans (same_new nfa)
      refine ⟨F6, _, x, dx, fa, .non, [], rfl, s6, hx, hd, hne, rfl, upd_same, fun F7 H7 g7 => ⟨rfl, ?_⟩⟩
      have l7 := (l6.same (same_new nfa)).step HomeAt.mono_ g7
      have d7 := d6.mono g7.ff
      refine fun x2 dx2 hx2 hd2 hne2 => ⟨F7, _, x2, dx2, _, _, rfl, l7.g.fh, hx2, hd2, hne2, rfl, fun F8 H8 g8 => ⟨rfl, (by show 1 ≤ sizeLine; decide), fun fb nfb x3 dx3 hx3 hd3 hne3 => ?_⟩⟩
      have l8 := l7.step HomeAt.mono_ g8
      have d8 := d7.mono g8.ff
      have s8 : Same F8 (upd H8 fb (.lst [V.ref x2])) := l8.g.fh.trans (same_new nfb)
      refine ⟨F8, _, x3, dx3, fb, .non, _, rfl, s8, hx3, hd3, hne3, rfl, upd_same, fun F9 H9 g9 => ⟨rfl, (by show 2 ≤ sizeLine; decide), fun ia nia => ?_⟩⟩
      have l9 := (l8.same (same_new nfb)).step HomeAt.mono_ g9
      have d9 := d8.mono g9.ff
      have l10 := l9.step HomeAt.mono_ (Gr.tell (S := []) (o := .tup [V.ref x, V.ref x3]) l9.g.fh nia)
      have d10 := d9.mono (same_new (o := .tup [V.ref x, V.ref x3]) (l9.g.fh.free nia))
      have i10 : InAt (upd F9 ia (.tup [V.ref x, V.ref x3])) ia := ⟨_, upd_same⟩
      generalize upd F9 ia (.tup [V.ref x, V.ref x3]) = F10 at *
      generalize upd H9 ia (.tup [V.ref x, V.ref x3]) = H10 at *
      refine ⟨_, rfl, _, rfl, F10, st, 3, rfl, l10.g.fh, l10.hS, by decide, by decide, fun H11 n1 g11 hS11 _ _ => ⟨_, _, rfl, rfl, ?_⟩⟩
      have l11 := l10.next g11 hS11
      refine ⟨_, rfl, _, rfl, (by show 1 ≤ sizeLine; decide), fun pz npz => ?_⟩
      have l12 := l11.step HomeAt.mono_ (Gr.tell (S := []) (o := .tup [V.ref ia]) l11.g.fh npz)
      have sp := same_new (o := .tup [V.ref ia]) (l11.g.fh.free npz)
      obtain ⟨as, e1, e2⟩ := l12.ls
      refine ⟨_, rfl, hl, _, rfl, .inl ⟨SqL.of e1, fun ha nha => ⟨(by show 5 ≤ sizeLine; decide), fun q nq => ?_⟩⟩⟩
      have gA := Gr.tell (S := []) (o := .tup (as.map V.ref)) l12.g.fh nha
      have l13 := l12.step HomeAt.mono_ gA
      have gB := Gr.tell (S := []) (o := .tup [V.str "own", V.int (1 + n1), V.ref na, V.ref pz, V.ref ha]) l13.g.fh nq
      have l14 := l13.step HomeAt.mono_ gB
      have sAB := gA.ff.trans gB.ff
      refine k _ _ q (.own (1 + n1) (n0, ms.up) ia xs) l14.g l14.hS ⟨na, pz, ha, as, upd_same, d10.mono (sp.trans sAB), sAB _ _ upd_same, ?_, gB.ff _ _ upd_same, Paired.mono (fun _ _ z => z.mono sAB) e2⟩ ⟨lx, nx⟩
      obtain ⟨ws, i10⟩ := i10
      exact ⟨ws, (sp.trans sAB) _ _ i10⟩
    · refine ⟨_, rfl, rfl, _, rfl, ?_⟩
      rw [show decide (V.str "close" = V.str "put") = false by decide +kernel]
      refine iteF ⟨_, rfl, rfl, _, rfl, ?_⟩
      rw [show decide (V.str "close" = V.str "drop") = false by decide +kernel]
      refine iteF ⟨_, rfl, rfl, _, rfl, ?_⟩
      rw [show decide (V.str "close" = V.str "unpin") = false by decide +kernel]
      refine iteF ⟨_, rfl, rfl, _, rfl, ?_⟩
      rw [show decide (V.str "close" = V.str "lift") = false by decide +kernel]
      refine iteF ⟨_, rfl, rfl, _, rfl, ?_⟩
      rw [show decide (V.str "close" = V.str "own") = false by decide +kernel]
      refine iteF ⟨_, rfl, rfl, _, rfl, ?_⟩
      rw [show decide (V.str "close" = V.str "close") = true by decide +kernel]
      refine iteT (iteT ?_)
      refine ⟨_, rfl, _, rfl, F, st, m, ms, rfl, hF3, hS3, hM3, fit, fun F4 H4 p na sh name g4 hS4 e1 e2 => ⟨p, _, rfl, .inl (.inl (g4.fh _ _ e1)), rfl, _, _, rfl, _, _, rfl, rfl, ?_⟩⟩
      refine ⟨_, rfl, _, rfl, _, rfl, (by show 3 ≤ sizeLine; decide), fun q nq => ?_⟩
      exact k _ _ q (.close sh name) ((g3.trans g4).new_ nq) (hS4.tell g4.fh nq) ⟨na, upd_same, e2.mono (same_new (g4.fh.free nq))⟩ True.intro
    · refine ⟨_, rfl, rfl, _, rfl, ?_⟩
      rw [show decide (V.str "forget" = V.str "put") = false by decide +kernel]
      refine iteF ⟨_, rfl, rfl, _, rfl, ?_⟩
      rw [show decide (V.str "forget" = V.str "drop") = false by decide +kernel]
      refine iteF ⟨_, rfl, rfl, _, rfl, ?_⟩
      rw [show decide (V.str "forget" = V.str "unpin") = false by decide +kernel]
      refine iteF ⟨_, rfl, rfl, _, rfl, ?_⟩
      rw [show decide (V.str "forget" = V.str "lift") = false by decide +kernel]
      refine iteF ⟨_, rfl, rfl, _, rfl, ?_⟩
      rw [show decide (V.str "forget" = V.str "own") = false by decide +kernel]
      refine iteF ⟨_, rfl, rfl, _, rfl, ?_⟩
      rw [show decide (V.str "forget" = V.str "close") = false by decide +kernel]
      refine iteF ⟨_, rfl, rfl, _, rfl, ?_⟩
      rw [show decide (V.str "forget" = V.str "forget") = true by decide +kernel]
      refine iteT ?_
      refine ⟨_, rfl, _, rfl, F, st, m, ms, rfl, hF3, hS3, hM3, fit, fun F4 H4 p na sh name g4 hS4 e1 e2 => ⟨p, _, rfl, .inl (.inl (g4.fh _ _ e1)), rfl, _, _, rfl, _, _, rfl, rfl, ?_⟩⟩
      refine ⟨_, rfl, _, rfl, _, rfl, (by show 3 ≤ sizeLine; decide), fun q nq => ?_⟩
      exact k _ _ q (.forget sh name) ((g3.trans g4).new_ nq) (hS4.tell g4.fh nq) ⟨na, upd_same, e2.mono (same_new (g4.fh.free nq))⟩ True.intro
    · refine ⟨_, rfl, rfl, _, rfl, ?_⟩
      rw [show decide (V.str "route" = V.str "put") = false by decide +kernel]
      refine iteF ⟨_, rfl, rfl, _, rfl, ?_⟩
      rw [show decide (V.str "route" = V.str "drop") = false by decide +kernel]
      refine iteF ⟨_, rfl, rfl, _, rfl, ?_⟩
      rw [show decide (V.str "route" = V.str "unpin") = false by decide +kernel]
      refine iteF ⟨_, rfl, rfl, _, rfl, ?_⟩
      rw [show decide (V.str "route" = V.str "lift") = false by decide +kernel]
      refine iteF ⟨_, rfl, rfl, _, rfl, ?_⟩
      rw [show decide (V.str "route" = V.str "own") = false by decide +kernel]
      refine iteF ⟨_, rfl, rfl, _, rfl, ?_⟩
      rw [show decide (V.str "route" = V.str "close") = false by decide +kernel]
      refine iteF ⟨_, rfl, rfl, _, rfl, ?_⟩
      rw [show decide (V.str "route" = V.str "forget") = false by decide +kernel]
      refine iteF ⟨_, rfl, rfl, _, rfl, ?_⟩
      rw [show decide (V.str "route" = V.str "route") = true by decide +kernel]
      refine iteT ?_
      refine ⟨_, rfl, (by show 4 ≤ sizeLine; decide), fun l nl => ?_⟩
      have g4 := g3.made (o := .lst [V.str "", V.str "b", V.str "c", V.str "e"]) nl
      have nls := hS3.ne nl
      refine ⟨_, rfl, F, st, 4, rfl, g4.fh, hS3.upd_ nls, by decide, by decide, fun H5 r g5 hS5 r0 r1 => ?_⟩
      have hl5 := g5.keep _ _ (upd_same (H := H3) (a := l) (o := .lst [V.str "", V.str "b", V.str "c", V.str "e"])) (by simp [nls])
      obtain ⟨low, e1, _⟩ := atI_strs ["", "b", "c", "e"] r0 r1
      refine ⟨l, _, r, _, rfl, rfl, SqL.of hl5, e1, ?_⟩
      refine ⟨_, rfl, F, st, 3, rfl, g5.fh, hS5, by decide, by decide, fun H6 r2 g6 hS6 _ _ => ⟨_, _, rfl, rfl, (by show 3 ≤ sizeLine; decide), fun q nq => ?_⟩⟩
      exact k _ _ q (.route low (1 + r2)) (((g4.trans g5).trans g6).new_ nq) (hS6.tell g6.fh nq) upd_same True.intro
    · refine ⟨_, rfl, rfl, _, rfl, ?_⟩
      rw [show decide (V.str "begin" = V.str "put") = false by decide +kernel]
      refine iteF ⟨_, rfl, rfl, _, rfl, ?_⟩
      rw [show decide (V.str "begin" = V.str "drop") = false by decide +kernel]
      refine iteF ⟨_, rfl, rfl, _, rfl, ?_⟩
      rw [show decide (V.str "begin" = V.str "unpin") = false by decide +kernel]
      refine iteF ⟨_, rfl, rfl, _, rfl, ?_⟩
      rw [show decide (V.str "begin" = V.str "lift") = false by decide +kernel]
      refine iteF ⟨_, rfl, rfl, _, rfl, ?_⟩
      rw [show decide (V.str "begin" = V.str "own") = false by decide +kernel]
      refine iteF ⟨_, rfl, rfl, _, rfl, ?_⟩
      rw [show decide (V.str "begin" = V.str "close") = false by decide +kernel]
      refine iteF ⟨_, rfl, rfl, _, rfl, ?_⟩
      rw [show decide (V.str "begin" = V.str "forget") = false by decide +kernel]
      refine iteF ⟨_, rfl, rfl, _, rfl, ?_⟩
      rw [show decide (V.str "begin" = V.str "route") = false by decide +kernel]
      refine iteF ?_
      refine ⟨_, rfl, (by show 1 ≤ sizeLine; decide), fun q nq => ?_⟩
      exact k _ _ q .begin_ (g3.new_ nq) (hS3.tell g3.fh nq) upd_same True.intro
end
end K94
/-! The law's comparison of the catalog and the model. -/
namespace K94
open PySem PySem.Spec PyProof.Rows L2 LamX
/-- the catalog that the model tells of -/
def CS.of (ms : MS) : CS := ⟨⟨ms.now, ms.floor, ms.pins, ms.notes, ms.segs, ms.up⟩, ms.segs.map fun s => ⟨s.num, s.shard, s.name⟩, ms.closed, ms.routes, ms.begins⟩
/-- a segment as it is told -/
def TdAt (F : Hp) (p : Addr) (s : SegD) : Prop := ∃ pa, F p = some (.tup [.int s.num, .int s.shard, .ref pa]) ∧ F pa = some (.tup [.ref s.inner])
theorem TdAt.mono {F F' : Hp} {p : Addr} {s : SegD} (e : Same F F') (h : TdAt F p s) : TdAt F' p s := by
  obtain ⟨pa, h1, h2⟩ := h
  exact ⟨pa, e _ _ h1, e _ _ h2⟩
theorem is_ti_ {K : PySem.W.Frag} {H : Hp} {a : Addr} {x : T3 Int Int (Int × Int)} (h : TiAt H a x) : Is K H (.ref a) x := by
  obtain ⟨na, h1, h2⟩ := h
  exact is_t3 (.inl (.inl h1)) (is_int _) (is_int _) (is_nm h2)
theorem is_rt_ {K : PySem.W.Frag} {H : Hp} {a : Addr} {x : Str × Int} (h : RtAt H a x) : Is K H (.ref a) x := is_pair (.inl (.inl h)) (is_str _) (is_int _)
theorem is_oV {K : PySem.W.Frag} {H : Hp} (o : Option Int) : Is K H (oV o) o := by
  cases o with
  | none => exact .non
  | some i => exact .int i
theorem eqK_lift {K : PySem.W.Frag} {H : Hp} {n : Nat} {x y : V} {b : Bool} (h : EqK K H 0 x y b) : EqK K H n x y b := by
  induction n with
  | zero => exact h
  | succ n ih => exact .inl ih
theorem eqK_refN {K : PySem.W.Frag} {H : Hp} {n : Nat} {a : Addr} : EqK K H n (.ref a) (.ref a) true := eqK_lift (.inr (.inl ⟨a, rfl, rfl, rfl⟩))
theorem eqK_intN {K : PySem.W.Frag} {H : Hp} {n : Nat} {i : Int} : EqK K H n (.int i) (.int i) true := eqK_lift (.inl ⟨rfl, rfl, rfl⟩)
theorem eqK_td {K : PySem.W.Frag} {H : Hp} {p q : Addr} {s : SegD} (h1 : TdAt H p s) (h2 : TdAt H q s) : EqK K H 3 (.ref p) (.ref q) true := by
  obtain ⟨pa, a1, a2⟩ := h1
  obtain ⟨pb, b1, b2⟩ := h2
  by_cases e : p = q
  · subst e
    exact eqK_refN
  · have hp : EqK K H 2 (.ref pa) (.ref pb) true := by
      by_cases e : pa = pb
      · subst e
        exact eqK_refN
      · exact .inr ⟨pa, pb, _, _, rfl, rfl, e, .inl (.inl a2), .inl (.inl b2), .cons (b := true) (c := true) eqK_refN .nil⟩
    exact .inr ⟨p, q, _, _, rfl, rfl, e, .inl (.inl a1), .inl (.inl b1), .cons (b := true) (c := true) eqK_intN (.cons (b := true) (c := true) eqK_intN (.cons (b := true) (c := true) hp .nil))⟩
theorem eqL_td {K : PySem.W.Frag} {H : Hp} : ∀ {ps qs : List Addr} {ss : List SegD}, Paired (TdAt H) ps ss → Paired (TdAt H) qs ss → EqL (EqK K H 3) (ps.map V.ref) (qs.map V.ref) true
  | _, _, _, .nil, .nil => .nil
  | _, _, _, .cons h1 t1, .cons h2 t2 => .cons (b := true) (c := true) (eqK_td h1 h2) (eqL_td t1 t2)
theorem ne_self {α : Type} {i : DecidableEq α} (x : α) : decide (x ≠ x) = false := by simp
section
variable {P : Program} {w : World} {K : PySem.W.Frag} {mg : Str → Option Value} {base : Heap}
theorem sc_l_alike : FnScope ["_law_catalog", "_law_model", "_law_key", "_law_ledger", "_law_segment", "_law_told", "_law_k", "_law_note", "_law_number", "_law_record_here", "_law_died", "_law_leaves"] ["_law_catalog", "_law_model", "_law_key"] (defScope s_l_alike) := ⟨rfl, rfl, rfl, by decide +kernel, rfl, by decide +kernel, by decide +kernel⟩
def sp_l_alike (K : PySem.W.Frag) : Sp := fun vs H Q _ => ∃ (c : LC) (F : Hp) (a : CA) (m ka : Addr) (ms : MS), vs = [.ref a.x, .ref m, .ref ka] ∧ Same F H ∧ CatAt K F H c a (CS.of ms) ∧ MAt K F H m ms ∧ F ka = some (.tup [.int c.key.1, .int c.key.2]) ∧ ms.Fit ∧ (∀ nd ∈ ms.notes, Small nd.r) ∧
  ∀ F' H', Gr [] F H F' H' → Q (.bl true) H'
theorem ok_l_alike (T : Tx w K mg) : C8.Cal P w K mg base 5 "_law_alike" (sp_l_alike K) [] := by
  have c_mark_of := ok_mark_of (P := P) (base := base) T
  have c_Record_eq := ok_Record_eq (P := P) (base := base) T
  refine cal_mk (st := s_l_alike) T.d_l_alike T.g_l_alike sc_l_alike (fun _ _ _ _ _ _ us hl => match us, hl with | [_, _, _], _ => rfl) (fun vs H Q E h => ?_) (fun f cdv A outer s H vs Q E hr h => ?_)
  · obtain ⟨c, F, a, m, ka, ms, rfl, _⟩ := h
    rfl
  · obtain ⟨c, F, a, m, ka, ms, rfl, hF, hC, hM, hka, fit, sml, k⟩ := h
    have hu := hu_of hr
    have hu64 := hr.units
    obtain ⟨dx, ro, c1, ⟨rps, c2, c3⟩⟩ := hC.obj
    obtain ⟨lx, lpa, lna, lsa, l1, ⟨l2, ⟨nas, n1, n2⟩, ⟨sgs, s1, s2⟩⟩⟩ := hC.led.ex
    obtain ⟨tps, t1, t2⟩ := hC.tis
    obtain ⟨cps, k1, k2⟩ := hC.cls
    obtain ⟨pa, nta, sa, ra, ca, h1, h2, ⟨mas, m1, m2⟩, ⟨msg, g1, g2⟩, ⟨rms, r1, r2⟩, ⟨cms, e1, e2⟩⟩ := hM.ex
    change H a.l = some (.ins (He.ga K "Ledger") lx (ledF c ms.now ms.floor lpa lna lsa ms.up)) at l1
    change H a.x = some (.ins (He.ga K "Catalog") dx (catF a.l a.tl a.cl ro ms.begins)) at c1
    change F lpa = some (.lst (ms.pins.map V.int)) at l2
    change Paired _ nas ms.notes at n2
    change Paired _ sgs ms.segs at s2
    have lsg := s2.length
    have lmg := g2.length
    have lnn := n2.length
    have lmn := m2.length
    have fs := fit.segs
    have fn := fit.notes
    refine ⟨_, (pss_cons (ps_set (i := 3) sc_l_alike.nd rfl (.inl rfl) (pe_fldK (K := K) rfl (pv 0) rfl))
      (pss_cons (ps_if (pt_cmpR (op_neT (α := T3 (Int) (Int) (Int)) (K := K) rfl (by decide) hu64) (pe_tup (pa_cons (pe_fldK (K := K) rfl (pv 3) rfl) (pa_cons (pe_fldK (K := K) rfl (pv 3) rfl) (pa_cons (pe_fldK (K := K) rfl (pv 3) rfl) pa_nil)))) (pe_tup (pa_cons (pe_dget hu (pv 1) pe_str (fun _ _ => rfl)) (pa_cons (pe_dget hu (pv 1) pe_str (fun _ _ => rfl)) (pa_cons (pe_dget hu (pv 1) pe_str (fun _ _ => rfl)) pa_nil)))) (nomark _))
        (pss_one (ps_ret pe_bl))
        pss_nil)
      (pss_cons (ps_if (PW.pt (pw_or (pt_cmpR (op_neT (α := List (Int)) (K := K) rfl (by decide) hu64) (pe_fldK (K := K) rfl (pv 3) rfl) (pe_dget hu (pv 1) pe_str (fun _ _ => rfl)) (nomark _)) (pw_or (pt_cmpR (op_neT (α := List ((Int) × ((Int) × (Int)))) (K := K) rfl (by decide) hu64) (pe_fldK (K := K) rfl (pv 0) rfl) (pe_dget hu (pv 1) pe_str (fun _ _ => rfl)) (nomark _)) (pw_or1 (pt_cmpR (op_neT (α := List ((Str) × (Int))) (K := K) rfl (by decide) hu64) (pe_fldK (K := K) rfl (pv 0) rfl) (pe_dget hu (pv 1) pe_str (fun _ _ => rfl)) (nomark _))))))
        (pss_one (ps_ret pe_bl))
        pss_nil)
      (pss_cons (ps_if (PW.pt (pw_or (pt_cmpR (op_neT (α := List (T3 (Int) (Int) ((Int) × (Int)))) (K := K) rfl (by decide) hu64) (pe_fldK (K := K) rfl (pv 0) rfl) (pe_lc (own := [("_law_segment", 4)]) (g := gName 4) (tt := tYes) rfl sc_l_alike.nd (pi_list (pe_dget hu (pv 1) pe_str (fun _ _ => rfl))) (blkOk_by (N := ["_law_catalog", "_law_model", "_law_key", "_law_ledger", "_law_segment", "_law_told", "_law_k", "_law_note", "_law_number", "_law_record_here", "_law_died", "_law_leaves"]) (sc := defScope s_l_alike) (by decide +kernel)) (fun _ _ _ _ _ => pg_name (i := 4) sc_l_alike.nd rfl (.inl rfl)) (fun _ _ _ _ _ => pts_nil) (fun _ _ _ _ _ => (pe_slice (sl_tupK (K := K) rfl) (pv 4) po_none (po_some pe_int)))) (nomark _)) (pw_or1 (pt_cmpR op_ne (pe_fldK (K := K) rfl (pv 0) rfl) (pe_dget hu (pv 1) pe_str (fun _ _ => rfl)) (nomark _)))))
        (pss_one (ps_ret pe_bl))
        pss_nil)
      (pss_cons (ps_setLc (i := 5) (own := [("_law_segment", 4)]) (g := gName 4) (tt := tYes) rfl sc_l_alike.nd rfl rfl (sw_true rfl rfl rfl (by decide +kernel)) (pi_list (pe_fldK (K := K) rfl (pv 3) rfl)) (blkOk_by (N := ["_law_catalog", "_law_model", "_law_key", "_law_ledger", "_law_segment", "_law_told", "_law_k", "_law_note", "_law_number", "_law_record_here", "_law_died", "_law_leaves"]) (sc := defScope s_l_alike) (by decide +kernel)) (fun _ _ _ _ _ => pg_name (i := 4) sc_l_alike.nd rfl (.inl rfl)) (fun _ _ _ _ _ => pts_nil) (fun _ _ _ _ _ => (pe_tup (pa_cons (pe_fldK (K := K) rfl (pv 4) rfl) (pa_cons (pe_fldK (K := K) rfl (pv 4) rfl) (pa_cons (pe_fldK (K := K) rfl (pv 4) rfl) pa_nil))))))
      (pss_cons (ps_if (pt_cmpR (op_neL hu64) (pv 5) (pe_lc (own := [("_law_segment", 4)]) (g := gName 4) (tt := tYes) rfl sc_l_alike.nd (pi_list (pe_dget hu (pv 1) pe_str (fun _ _ => rfl))) (blkOk_by (N := ["_law_catalog", "_law_model", "_law_key", "_law_ledger", "_law_segment", "_law_told", "_law_k", "_law_note", "_law_number", "_law_record_here", "_law_died", "_law_leaves"]) (sc := defScope s_l_alike) (by decide +kernel)) (fun _ _ _ _ _ => pg_name (i := 4) sc_l_alike.nd rfl (.inl rfl)) (fun _ _ _ _ _ => pts_nil) (fun _ _ _ _ _ => (pe_tup (pa_cons (pe_ix (ix_tupK (K := K) rfl) (pv 4) pe_int (fun _ _ => rfl)) (pa_cons (pe_ix (ix_tupK (K := K) rfl) (pv 4) pe_int (fun _ _ => rfl)) (pa_cons (pe_ix (ix_tupK (K := K) rfl) (pv 4) pe_int (fun _ _ => rfl)) pa_nil)))))) (nomark _))
        (pss_one (ps_ret pe_bl))
        pss_nil)
      (pss_cons (ps_if (pt_cmpR op_ne (pe_callB call_len_seq (by rfl) T.z_len PySem.boot_len (pa_cons (pe_fldK (K := K) rfl (pv 3) rfl) pa_nil)) (pe_callB call_len_seq (by rfl) T.z_len PySem.boot_len (pa_cons (pe_dget hu (pv 1) pe_str (fun _ _ => rfl)) pa_nil)) (nomark _))
        (pss_one (ps_ret pe_bl))
        pss_nil)
      (pss_cons (ps_for PassesOwn.never rfl (pi_range1 (by rfl) T.z_range (pa_cons (pe_callB call_len_seq (by rfl) T.z_len PySem.boot_len (pa_cons (pe_fldK (K := K) rfl (pv 3) rfl) pa_nil)) pa_nil)) (pg_name (i := 6) sc_l_alike.nd rfl (.inl rfl))
        (pss_cons (ps_set (i := 7) sc_l_alike.nd rfl (.inl rfl) (pe_ix ix_list (pe_fldK (K := K) rfl (pv 3) rfl) (pv 6) (fun _ _ => rfl)))
        (pss_cons (ps_asg (pe_ix ix_list (pe_dget hu (pv 1) pe_str (fun _ _ => rfl)) (pv 6) (fun _ _ => rfl)) (pg_tup rfl (pgs_cons (pg_name (i := 8) sc_l_alike.nd rfl (.inl rfl)) (pgs_cons (pg_name (i := 9) sc_l_alike.nd rfl (.inl rfl)) (pgs_cons (pg_name (i := 10) sc_l_alike.nd rfl (.inl rfl)) (pgs_cons (pg_name (i := 4) sc_l_alike.nd rfl (.inl rfl)) (pgs_cons (pg_name (i := 11) sc_l_alike.nd rfl (.inl rfl)) pgs_nil)))))))
        (pss_cons (ps_if (pt_cmpR (op_neT (α := T3 (Int) (Str) (PySem.W.Tup (Int))) (K := K) rfl (by decide) hu64) (pe_tup (pa_cons (pe_fldK (K := K) rfl (pv 7) rfl) (pa_cons (pe_fldK (K := K) rfl (pv 7) rfl) (pa_cons (pe_fldK (K := K) rfl (pv 7) rfl) pa_nil)))) (pe_tup (pa_cons (pv 8) (pa_cons (pe_fldK (K := K) rfl (pv 9) rfl) (pa_cons (C8.pe_c c_mark_of hr (by decide) (by rfl) (pa_cons (pv 2) (pa_cons (pv 8) (pa_cons (pv 9) pa_nil)))) pa_nil)))) (nomark _))
          (pss_one (ps_ret pe_bl))
          pss_nil)
        (pss_cons (ps_if (pt_cmpR (op_neT (α := T3 (Option Int) (Option Int) (PySem.W.Tup (Int))) (K := K) rfl (by decide) hu64) (pe_tup (pa_cons (pe_fldK (K := K) rfl (pv 7) rfl) (pa_cons (pe_fldK (K := K) rfl (pv 7) rfl) (pa_cons (pe_fldK (K := K) rfl (pv 7) rfl) pa_nil)))) (pe_tup (pa_cons (pv 10) (pa_cons (pv 4) (pa_cons (pv 11) pa_nil)))) (nomark _))
          (pss_one (ps_ret pe_bl))
          pss_nil)
        (pss_one (ps_if (PW.pt (pw_or (PW.pt (pw_and (pt_cmpR op_isN (pv 4) pe_non (nomark _)) (pw_and1 (pt_cmpR (op_ne_own c_Record_eq T.e_ne T.e_mro hr (by decide)) (pe_fldK (K := K) rfl (pv 7) rfl) (pv 9) (nomark _))))) (pw_or1 (PW.pt (pw_and (pt_cmpR op_notN (pv 4) pe_non (nomark _)) (pw_and1 (pt_cmpR op_notN (pe_fldK (K := K) rfl (pv 7) rfl) pe_non (nomark _))))))))
          (pss_one (ps_ret pe_bl))
          pss_nil)))))))
      (pss_one (ps_ret pe_bl)))))))))), ?_⟩
    refine ⟨_, rfl, a.x, _, dx, _, _, rfl, c1, T.c_Catalog, T.n_Catalog_ledger, catF_ledger, ?_⟩
    refine ⟨_, rfl, a.l, _, lx, _, _, rfl, l1, T.c_Ledger, T.n_Ledger_now, ledF_now, ?_⟩
    refine ⟨_, rfl, a.l, _, lx, _, _, rfl, l1, T.c_Ledger, T.n_Ledger_floor, ledF_floor, ?_⟩
    refine ⟨_, rfl, a.l, _, lx, _, _, rfl, l1, T.c_Ledger, T.n_Ledger_upcoming, ledF_upcoming, (by show 3 ≤ sizeLine; decide), fun p np => ?_⟩
    have q1 := same_new (o := .tup [V.int ms.now, V.int ms.floor, V.int ms.up]) np
    refine ⟨_, rfl, m, _, rfl, dg_now (q1 _ _ h1), ?_⟩
    refine ⟨_, rfl, m, _, rfl, dg_floor (q1 _ _ h1), ?_⟩
    refine ⟨_, rfl, m, _, rfl, dg_upcoming (q1 _ _ h1), (by show 3 ≤ sizeLine; decide), fun q nq => ?_⟩
    have q2 := same_app (o := .tup [V.int ms.now, V.int ms.floor, V.int ms.up]) q1 nq
    refine ⟨T3.mk ms.now ms.floor ms.up, T3.mk ms.now ms.floor ms.up, is_t3 (.inl (.inl (same_new nq _ _ upd_same))) (is_int _) (is_int _) (is_int _), is_t3 (.inl (.inl upd_same)) (is_int _) (is_int _) (is_int _), _, rfl, ?_⟩
    rw [ne_self]
    refine iteF ?_
    generalize upd (upd H p (.tup [V.int ms.now, V.int ms.floor, V.int ms.up])) q (.tup [V.int ms.now, V.int ms.floor, V.int ms.up]) = H2 at *
    have f2 : Same F H2 := hF.trans q2
    refine ⟨_, rfl, a.l, _, lx, _, _, rfl, q2 _ _ l1, T.c_Ledger, T.n_Ledger_pins, ledF_pins, _, rfl, m, _, rfl, dg_pins (q2 _ _ h1), ms.pins, ms.pins, is_ints (SqL.of (f2 _ _ l2)), is_ints (SqL.of (f2 _ _ h2)), _, rfl, ?_⟩
    rw [ne_self]
    refine iteF ⟨_, rfl, a.x, _, dx, _, _, rfl, q2 _ _ c1, T.c_Catalog, T.n_Catalog_closed, catF_closed, _, rfl, m, _, rfl, dg_closed (q2 _ _ h1), ms.closed, ms.closed, is_list (SqL.of (q2 _ _ k1)) k2 (fun z => is_cl (z.mono f2)), is_list (SqL.of (f2 _ _ e1)) e2 (fun z => is_cl (z.mono f2)), _, rfl, ?_⟩
    rw [ne_self]
    refine iteF ⟨_, rfl, a.x, _, dx, _, _, rfl, q2 _ _ c1, T.c_Catalog, T.n_Catalog_routes, catF_routes, _, rfl, m, _, rfl, dg_routes (q2 _ _ h1), ms.routes, ms.routes, is_list (SqL.of (f2 _ _ c2)) c3 (fun z => is_rt_ (z.mono f2)), is_list (SqL.of (f2 _ _ r1)) r2 (fun z => is_rt_ (z.mono f2)), _, rfl, ?_⟩
    rw [ne_self]
    refine iteF ?_
    have w2 : Gr [] F H F H2 := (Gr.refl hF).samef q2
    refine ⟨_, rfl, a.x, _, dx, _, _, rfl, q2 _ _ c1, T.c_Catalog, T.n_Catalog_titles, catF_titles, _, rfl, m, _, rfl, dg_segments (q2 _ _ h1), sa, rfl, ⟨_, SqL.of (f2 _ _ g1)⟩, fun D nD => ?_⟩
    refine lc_grow walk_list nD f2 (fun i v => (msg.map V.ref)[i]? = some v) (fun H4 z => SqL.of (z _ _ (f2 _ _ g1))) (fun _ _ _ _ y => y) ms.segs (by rw [List.length_map]; exact lmg.symm) (by rw [List.length_map]; omega) (fun s => some (T3.mk s.num s.shard s.name)) (fun F a x => TiAt F a x) (fun s e => e.mono s) ?_ ?_
    · intro i v sd Fi H4 Qn Qy rv hz gr hn hy
      obtain ⟨t, ht, rfl⟩ := map_at rv
      obtain ⟨sd', hq, sna, spa, x1, x2, x3⟩ := paired_at g2 ht
      have en : sd' = sd := Option.some.inj (hq.symm.trans hz)
      subst en
      refine ⟨rfl, lc_yes ?_⟩
      refine ⟨_, rfl, _, rfl, t, _, rfl, .inl (.inl (gr.fh _ _ (gr.ff _ _ x1))), (by show ¬ (HT.sIx 4 0 none = 0 ∧ HT.sIx 4 4 (some 3) = 4); decide), fun p np => ?_⟩
      exact hy _ rfl p _ _ (Gr.tell (S := []) (o := .tup [V.int sd'.num, V.int sd'.shard, V.ref sna]) gr.fh np) ⟨sna, upd_same, (x2.mono gr.ff).mono (same_new (gr.fh.free np))⟩
    intro F3 H3 ps w3 nF eD pr
    rw [List.filterMap_eq_map'] at pr
    have w03 := w2.trans w3
    have f3 := w3.fh
    refine ⟨(CS.of ms).titles, (CS.of ms).titles, is_list (SqL.of (w03.hh _ _ t1)) t2 (fun z => is_ti_ (z.mono (w03.ff.trans f3))), is_list (SqL.of eD) pr (fun z => is_ti_ (z.mono f3)), _, rfl, ?_⟩
    rw [ne_self]
    refine iteF ⟨_, rfl, a.x, _, dx, _, _, rfl, w03.hh _ _ c1, T.c_Catalog, T.n_Catalog_begins, catF_begins, _, rfl, m, _, rfl, dg_begins (w03.hh _ _ h1), rfl, _, rfl, ?_⟩
    rw [show (!decide (V.int ms.begins = V.int ms.begins)) = false by simp]
    refine iteF ?_
    refine ⟨_, rfl, a.l, _, lx, _, _, rfl, w03.hh _ _ l1, T.c_Ledger, T.n_Ledger_segments, ledF_segments, lsa, rfl, ⟨_, SqL.of (f3 _ _ (w03.ff _ _ s1))⟩, fun D2 nD2 => ?_⟩
    refine lc_grow walk_list nD2 f3 (fun i v => (sgs.map V.ref)[i]? = some v) (fun H4 z => SqL.of (z _ _ (f3 _ _ (w03.ff _ _ s1)))) (fun _ _ _ _ y => y) ms.segs (by rw [List.length_map]; exact lsg.symm) (by rw [List.length_map]; show sgs.length ≤ _; have : sgs.length = ms.segs.length := lsg; omega) (fun s => some s) (fun F a x => TdAt F a x) (fun s e => e.mono s) ?_ ?_
    · intro i v sd Fi H4 Qn Qy rv hz gr hn hy
      obtain ⟨t, ht, rfl⟩ := map_at rv
      obtain ⟨sd', hq, sx, spa, x1, x2⟩ := paired_at s2 ht
      have en : sd' = sd := Option.some.inj (hq.symm.trans hz)
      subst en
      have ff := w03.ff.trans gr.ff
      have x1' := gr.fh _ _ (ff _ _ x1)
      refine ⟨rfl, lc_yes ?_⟩
      refine ⟨_, rfl, t, _, sx, _, _, rfl, x1', T.c_Segment, T.n_Segment_number, segF_number _ _ _, ?_⟩
      refine ⟨_, rfl, t, _, sx, _, _, rfl, x1', T.c_Segment, T.n_Segment_shard, segF_shard _ _ _, ?_⟩
      refine ⟨_, rfl, t, _, sx, _, _, rfl, x1', T.c_Segment, T.n_Segment_partitions, segF_partitions _ _ _, (by show 3 ≤ sizeLine; decide), fun p np => ?_⟩
      exact hy _ rfl p _ _ (Gr.tell (S := []) (o := .tup [V.int sd'.num, V.int sd'.shard, V.ref spa]) gr.fh np) ⟨spa, upd_same, same_new (gr.fh.free np) _ _ (ff _ _ x2)⟩
    intro F4 H4 ps2 w4 nF2 eD2 pr2
    rw [List.filterMap_some] at pr2
    have w04 := w03.trans w4
    have f4 := w4.fh
    refine ⟨_, rfl, _, rfl, m, _, rfl, dg_segments (w04.hh _ _ h1), sa, rfl, ⟨_, SqL.of (f4 _ _ (w04.ff _ _ g1))⟩, fun D3 nD3 => ?_⟩
    refine lc_grow walk_list nD3 f4 (fun i v => (msg.map V.ref)[i]? = some v) (fun H4 z => SqL.of (z _ _ (f4 _ _ (w04.ff _ _ g1)))) (fun _ _ _ _ y => y) ms.segs (by rw [List.length_map]; exact lmg.symm) (by rw [List.length_map]; omega) (fun s => some s) (fun F a x => TdAt F a x) (fun s e => e.mono s) ?_ ?_
    · intro i v sd Fi H5 Qn Qy rv hz gr hn hy
      obtain ⟨t, ht, rfl⟩ := map_at rv
      obtain ⟨sd', hq, sna, spa, x1, x2, x3⟩ := paired_at g2 ht
      have en : sd' = sd := Option.some.inj (hq.symm.trans hz)
      subst en
      have ff := w04.ff.trans gr.ff
      have x1' : SqT K H5 t [.int sd'.num, .int sd'.shard, .ref sna, .ref spa] := .inl (.inl (gr.fh _ _ (ff _ _ x1)))
      refine ⟨rfl, lc_yes ?_⟩
      refine ⟨_, rfl, t, _, 0, _, rfl, rfl, x1', atI_nat (j := 0) rfl, ?_⟩
      refine ⟨_, rfl, t, _, 1, _, rfl, rfl, x1', atI_nat (j := 1) rfl, ?_⟩
      refine ⟨_, rfl, t, _, 3, _, rfl, rfl, x1', atI_nat (j := 3) rfl, (by show 3 ≤ sizeLine; decide), fun p np => ?_⟩
      exact hy _ rfl p _ _ (Gr.tell (S := []) (o := .tup [V.int sd'.num, V.int sd'.shard, V.ref spa]) gr.fh np) ⟨spa, upd_same, same_new (gr.fh.free np) _ _ (ff _ _ x3)⟩
    intro F5 H5 ps3 w5 nF3 eD3 pr3
    rw [List.filterMap_some] at pr3
    have w05 := w04.trans w5
    have f5 := w5.fh
    refine ⟨D2, D3, _, _, true, rfl, rfl, SqL.of (w5.hh _ _ eD2), SqL.of eD3, eqL_td (Paired.mono (fun _ _ z => z.mono (w5.ff.trans f5)) pr2) (Paired.mono (fun _ _ z => z.mono f5) pr3), _, rfl, ?_⟩
    refine iteF ?_
    have hl5 := w05.hh _ _ l1
    have hm5 := w05.hh _ _ h1
    have n15 := f5 _ _ (w05.ff _ _ n1)
    have m15 := f5 _ _ (w05.ff _ _ m1)
    refine ⟨_, rfl, a.l, _, lx, _, _, rfl, hl5, T.c_Ledger, T.n_Ledger_notes, ledF_notes, lna, _, rfl, .inl (SqL.of n15), _, rfl, m, _, rfl, dg_notes hm5, nta, _, rfl, .inl (SqL.of m15), rfl, _, rfl, ?_⟩
    have lN : nas.length = ms.notes.length := lnn
    rw [show (!decide (V.int ((nas.map V.ref).length : Nat) = V.int ((mas.map V.ref).length : Nat))) = false by rw [List.length_map, List.length_map, lN, lmn]; simp]
    refine iteF ⟨_, rfl, a.l, _, lx, _, _, rfl, hl5, T.c_Ledger, T.n_Ledger_notes, ledF_notes, lna, _, rfl, .inl (SqL.of n15), _, rfl, by rw [List.length_map, lN]; omega, by rw [List.length_map, lN]; omega, ?_⟩
    refine for_range (fun i σ H6 => Same H5 H6 ∧ ∃ y4 y6 y7 y8 y9 y10 y11, σ = [some (.ref a.x), some (.ref m), some (.ref ka), some (.ref a.l), y4, some (.ref D2), y6, y7, y8, y9, y10, y11]) ⟨Same.refl _, _, _, _, _, _, _, _, rfl⟩ ?_ ?_
    · rintro i σ H6 hi ⟨s6, y4, y6, y7, y8, y9, y10, y11, rfl⟩
      rw [List.length_map, lN] at hi
      rw [show (0 : Int) + (i : Nat) = ((i : Nat) : Int) by omega]
      have f6 := f5.trans s6
      have F6 : Same F H6 := w05.ff.trans f6
      have hnd : ms.notes[i]? = some ms.notes[i] := List.getElem?_eq_getElem hi
      have hsm := sml _ (List.getElem_mem hi)
      obtain ⟨qa, b1, nx, ma, lv, b2, b3, b4⟩ := paired_at2 n2 hnd
      obtain ⟨ta, d1, lv2, d2, d3, d4⟩ := paired_at2 m2 hnd
      generalize ms.notes[i] = nd at *
      obtain ⟨rdx, vt, rft, wt, fas, was, rr, _⟩ := d3.ex
      have at1 : atI (nas.map V.ref) (i : Int) = some (.ref qa) := atI_nat (j := i) (by rw [List.getElem?_map, b1]; rfl)
      have at2 : atI (mas.map V.ref) (i : Int) = some (.ref ta) := atI_nat (j := i) (by rw [List.getElem?_map, d1]; rfl)
      have hq6 := F6 _ _ b2
      refine ⟨_, rfl, a.l, _, lx, _, _, rfl, s6 _ _ hl5, T.c_Ledger, T.n_Ledger_notes, ledF_notes, _, rfl, lna, _, _, _, rfl, rfl, SqL.of (s6 _ _ n15), at1, ?_⟩
      refine ⟨_, rfl, m, _, rfl, dg_notes (s6 _ _ hm5), _, rfl, nta, _, _, _, rfl, rfl, SqL.of (s6 _ _ m15), at2, ?_⟩
      refine ⟨ta, _, rfl, .inl (.inl (F6 _ _ d2)), rfl, _, _, rfl, _, _, rfl, _, _, rfl, _, _, rfl, _, _, rfl, rfl, ?_⟩
      refine ⟨_, rfl, qa, _, nx, _, _, rfl, hq6, T.c_Note, T.n_Note_number, noteF_number, ?_⟩
      refine ⟨_, rfl, qa, _, nx, _, _, rfl, hq6, T.c_Note, T.n_Note_name, noteF_name, ?_⟩
      refine ⟨_, rfl, qa, _, nx, _, _, rfl, hq6, T.c_Note, T.n_Note_mark, noteF_mark, (by show 3 ≤ sizeLine; decide), fun p np => ?_⟩
      have z1 := same_new (o := .tup [V.int nd.num, V.str nd.r.name, V.ref ma]) np
      have F7 := F6.trans z1
      refine ⟨_, rfl, _, rfl, nd.ra, _, rdx, _, _, rfl, F7 _ _ rr, T.c_Record, T.n_Record_name, recF_name _ _ _ _, _, rfl, _, rfl, _, rfl, ka, nd.ra, c.key, nd.num, nd.r, rfl, .inl (.inl (F7 _ _ hka)), d3.mono F7, hsm, fun H8 mp s8 nmp => ⟨(by show 3 ≤ sizeLine; decide), fun q nq => ?_⟩⟩
      have z3 := same_app (o := .tup ((markOf c.key nd.num nd.r).map V.int)) s8 nmp
      have z4 := same_app (o := .tup [V.int nd.num, V.str nd.r.name, V.ref mp]) z3 nq
      have F9 := F7.trans z4
      refine ⟨T3.mk nd.num nd.r.name (PySem.W.Tup.mk (markOf c.key nd.num nd.r)), T3.mk nd.num nd.r.name (PySem.W.Tup.mk (markOf c.key nd.num nd.r)), is_t3 (.inl (.inl (z4 _ _ upd_same))) (is_int _) (is_str _) (is_tupI (.inl (.inl (F9 _ _ b3)))), is_t3 (.inl (.inl upd_same)) (is_int _) (is_str _) (is_tupI (.inl (.inl (same_new nq _ _ upd_same)))), _, rfl, ?_⟩
      rw [ne_self]
      refine iteF ?_
      have s9 := s6.trans (z1.trans z4)
      generalize upd (upd H8 mp (.tup ((markOf c.key nd.num nd.r).map V.int))) q (.tup [V.int nd.num, V.str nd.r.name, V.ref mp]) = H9 at *
      have hq9 := F9 _ _ b2
      refine ⟨_, rfl, qa, _, nx, _, _, rfl, hq9, T.c_Note, T.n_Note_died, noteF_died, ?_⟩
      refine ⟨_, rfl, qa, _, nx, _, _, rfl, hq9, T.c_Note, T.n_Note_segment, noteF_segment, ?_⟩
      refine ⟨_, rfl, qa, _, nx, _, _, rfl, hq9, T.c_Note, T.n_Note_leaves, noteF_leaves, (by show 3 ≤ sizeLine; decide), fun p2 np2 => ?_⟩
      refine ⟨_, rfl, _, rfl, _, rfl, (by show 3 ≤ sizeLine; decide), fun q2 nq2 => ?_⟩
      have z5 := same_new (o := .tup [oV nd.died, oV nd.seg, V.ref lv]) np2
      have z6 := same_app (o := .tup [oV nd.died, oV nd.seg, V.ref lv2]) z5 nq2
      have F10 := F9.trans z6
      refine ⟨T3.mk nd.died nd.seg (PySem.W.Tup.mk nd.leaves), T3.mk nd.died nd.seg (PySem.W.Tup.mk nd.leaves), is_t3 (.inl (.inl (same_new nq2 _ _ upd_same))) (is_oV _) (is_oV _) (is_tupI (sqT_same F10 b4)), is_t3 (.inl (.inl upd_same)) (is_oV _) (is_oV _) (is_tupI (sqT_same F10 d4)), _, rfl, ?_⟩
      rw [ne_self]
      refine iteF ?_
      have s10 := s9.trans z6
      generalize upd (upd H9 p2 (.tup [oV nd.died, oV nd.seg, V.ref lv])) q2 (.tup [oV nd.died, oV nd.seg, V.ref lv2]) = H10 at *
      have hq10 := F10 _ _ b2
      cases hsg : nd.seg with
      | none =>
        refine ⟨_, rfl, rfl, _, rfl, ?_⟩
        rw [show decide (oV none = V.non) = true by decide]
        have hrc : recV nd = .ref nd.ra := by
          unfold recV
          rw [hsg]
        refine iteT ⟨_, rfl, qa, _, nx, _, _, rfl, hq10, T.c_Note, T.n_Note_record, noteF_record, _, rfl, nd.ra, nd.ra, rdx, rdx, _, _, hrc, rfl, F10 _ _ rr, F10 _ _ rr, nd.ra, nd.r, rfl, d3.mono F10, fun H11 s11 => ⟨true, rfl, _, rfl, iteF ⟨_, rfl, rfl, _, rfl, ?_⟩⟩⟩
        rw [show (!decide (oV none = V.non)) = false by decide]
        exact iteF (iteF ⟨s10.trans s11, _, _, _, _, _, _, _, rfl⟩)
      | some n =>
        refine ⟨_, rfl, rfl, _, rfl, ?_⟩
        rw [show decide (oV (some n) = V.non) = false from decide_eq_false (fun z => by cases z)]
        refine iteF (iteF ⟨_, rfl, rfl, _, rfl, ?_⟩)
        rw [show (!decide (oV (some n) = V.non)) = true by rw [show decide (oV (some n) = V.non) = false from decide_eq_false (fun z => by cases z)]; rfl]
        have hrc : recV nd = .non := by
          unfold recV
          rw [hsg]
        refine iteT ⟨_, rfl, qa, _, nx, _, _, rfl, hq10, T.c_Note, T.n_Note_record, noteF_record, rfl, _, rfl, ?_⟩
        rw [hrc, show (!decide (V.non = V.non)) = false by decide]
        exact iteF ⟨s10, _, _, _, _, _, _, _, rfl⟩
    · rintro σ H6 ⟨s6, y4, y6, y7, y8, y9, y10, y11, rfl⟩
      exact k F5 H6 (w05.samef s6)
end
end K94
/-! The plain law, part 1: routes; what is not needed. -/
namespace K94
open PySem PySem.Spec PyProof.Rows L2 LamX
/-! ### routes -/
structure RtOk (rs : List (Str × Int)) : Prop where
  pw : rs.Pairwise fun a b => strLe a.1 b.1 = true
  nod : (rs.map (·.1)).Nodup
  em : ("" : Str) ∈ rs.map (·.1)
theorem strLe_nil (x : Str) : strLe "" x = true := by
  unfold strLe
  rw [show ("" : Str).cps.toList = [] from rfl]
  simp
theorem nil_of_strLe {x : Str} (h : strLe x "" = true) : x = "" := by
  unfold strLe at h
  rw [show ("" : Str).cps.toList = [] from rfl] at h
  have h2 : ¬ ([] : List Nat) < x.cps.toList := by simpa using h
  have h3 : x.cps.toList = [] := by
    cases e : x.cps.toList with
    | nil => rfl
    | cons c cs =>
      rw [e] at h2
      exact absurd (by simp) h2
  cases x with
  | mk a =>
    cases a with
    | mk l =>
      have h4 : l = [] := h3
      rw [h4]
      rfl
theorem RtOk.first {rs : List (Str × Int)} (h : RtOk rs) : ∃ r t, rs = r :: t ∧ r.1 = "" := by
  cases rs with
  | nil => exact absurd h.em (by simp)
  | cons r t =>
    refine ⟨r, t, rfl, ?_⟩
    have em := h.em
    rw [List.map_cons, List.mem_cons] at em
    rcases em with e | e
    · exact e.symm
    · obtain ⟨q, hq, e2⟩ := List.mem_map.mp e
      have := (List.pairwise_cons.mp h.pw).1 q hq
      rw [e2] at this
      exact nil_of_strLe this
theorem best_step (x : Str) : ∀ (rs : List (Str × Int)) (b : Str × Int), rs.Pairwise (fun a b => strLe a.1 b.1 = true) → (∀ r ∈ rs, strLe b.1 r.1 = true) →
    (rs.foldl (fun b r => if (strLe b.1 r.1 && strLe r.1 x) = true then r else b) b).2 = rs.foldl (fun f r => if strLe r.1 x = true then r.2 else f) b.2
  | [], _, _, _ => rfl
  | r :: t, b, hp, hb => by
    obtain ⟨h1, h2⟩ := List.pairwise_cons.mp hp
    rw [List.foldl_cons, List.foldl_cons, hb r List.mem_cons_self, Bool.true_and]
    cases c : strLe r.1 x with
    | true =>
      rw [if_pos rfl, if_pos rfl]
      exact best_step x t r h2 h1
    | false =>
      rw [if_neg (by decide), if_neg (by decide)]
      exact best_step x t b h2 fun q hq => hb q (List.mem_cons_of_mem _ hq)
theorem shard_best {rs : List (Str × Int)} (h : RtOk rs) (x : Str) : shardOf rs x = (bestM rs x).2 := by
  obtain ⟨r, t, rfl, e⟩ := h.first
  obtain ⟨h1, h2⟩ := List.pairwise_cons.mp h.pw
  unfold shardOf bestM
  rw [List.foldl_cons, List.foldl_cons, e, strLe_nil, strLe_nil]
  exact (best_step x t r h2 h1).symm
theorem le_tup_key {l : List (Str × Int)} (nod : (l.map (·.1)).Nodup) : ∀ a ∈ l, ∀ b ∈ l, PySem.W.dataLe false keyR a b = PySem.W.dataLe false tupR a b := by
  intro a ha b hb
  show (!PySem.W.dataLt (.str b.1) (.str a.1)) = (!PySem.W.dataLt (.tuple [.str b.1, .int b.2]) (.tuple [.str a.1, .int a.2]))
  rw [PySem.W.dataLt_pair (by simp [PySem.W.alike]) (by simp [PySem.W.alike])]
  by_cases e : b.1 = a.1
  · have e2 : b = a := by
      obtain ⟨i, hi, ei⟩ := List.mem_iff_getElem.mp ha
      obtain ⟨j, hj, ej⟩ := List.mem_iff_getElem.mp hb
      have : i = j := by
        refine (List.getElem_inj (xs := l.map (·.1)) (h₀ := by rw [List.length_map]; exact hi) (h₁ := by rw [List.length_map]; exact hj) nod).mp ?_
        rw [List.getElem_map, List.getElem_map, ei, ej, e]
      subst this
      exact ej.symm.trans ei
    subst e2
    rw [PySem.W.dataLt_str]
    simp [PyData.eqv]
  · have : PyData.eqv (.str b.1) (.str a.1) = false := by
      simp only [PyData.eqv]
      exact beq_false_of_ne e
    rw [this]
    rfl
theorem filter_route_nod {rs : List (Str × Int)} (h : (rs.map (·.1)).Nodup) (low : Str) (sh : Int) : ((rs.filter (fun r => decide (r.1 ≠ low)) ++ [(low, sh)]).map (·.1)).Nodup := by
  rw [List.map_append]
  refine List.nodup_append.mpr ⟨(List.filter_sublist.map _).nodup h, by simp, fun a ha b hb e => ?_⟩
  obtain ⟨q, hq, rfl⟩ := List.mem_map.mp ha
  have h2 := (List.mem_filter.mp hq).2
  have h3 : b = low := by simpa using hb
  exact of_decide_eq_true h2 (e.trans h3)
theorem route_eq {rs : List (Str × Int)} (h : RtOk rs) (low : Str) (sh : Int) : routeK low sh rs = routeM low sh rs :=
  PySem.W.sort_congr (le_tup_key (filter_route_nod h.nod low sh))
theorem route_ok {rs : List (Str × Int)} (h : RtOk rs) (low : Str) (sh : Int) : RtOk (routeM low sh rs) := by
  rw [← route_eq h]
  have hp : (routeK low sh rs).Perm (rs.filter (fun r => decide (r.1 ≠ low)) ++ [(low, sh)]) := List.mergeSort_perm _ _
  refine ⟨?_, (hp.map _).nodup_iff.mpr (filter_route_nod h.nod low sh), (hp.map _).mem_iff.mpr ?_⟩
  · have := PySem.W.sort_pairwise (PySem.W.sortLe_total (PyProof.Rows.listOrd PyProof.Rows.itemOrd) false fun b => PySem.W.keyToks (keyR b)) (rs.filter (fun r => decide (r.1 ≠ low)) ++ [(low, sh)])
    refine List.Pairwise.imp ?_ this
    intro a b hab
    have e : PySem.W.dataLe false keyR a b = true := hab
    rw [show keyR = fun b : Str × Int => PyData.str b.1 from rfl, PySem.W.dataLe_str] at e
    unfold strLe
    rw [PySem.W.not_lt_str]
    exact e
  · rw [List.map_append, List.mem_append]
    by_cases e : low = ""
    · exact .inr (by simp [e])
    · left
      obtain ⟨q, hq, e2⟩ := List.mem_map.mp h.em
      exact List.mem_map.mpr ⟨q, List.mem_filter.mpr ⟨hq, decide_eq_true (by rw [e2]; exact fun z => e z.symm)⟩, e2⟩
theorem route_len (rs : List (Str × Int)) (low : Str) (sh : Int) : (routeM low sh rs).length ≤ rs.length + 1 := by
  unfold routeM
  rw [List.length_mergeSort, List.length_append]
  exact Nat.succ_le_succ (List.length_filter_le _ _)
/-! ### what is not needed -/
theorem alive_iff {ms : MS} {nd : NoteD} (h1 : nd.num ≤ ms.now) (h2 : ms.floor ≤ ms.now) (h3 : ∀ d, nd.died = some d → nd.num < d) : needed ms.floor ms.pins nd = aliveM ms nd := by
  have key : ((List.range (ms.now + 1 - ms.floor).toNat).map fun (i : Nat) => ms.floor + (i : Int)).any (fun m => livesAt nd.num nd.died m) = (match nd.died with
      | none => true
      | some d => decide (ms.floor < d)) := by
    rw [Bool.eq_iff_iff, List.any_eq_true]
    cases hd : nd.died with
    | none =>
      refine ⟨fun _ => rfl, fun _ => ⟨ms.now, List.mem_map.mpr ⟨(ms.now - ms.floor).toNat, List.mem_range.mpr (by omega), by omega⟩, ?_⟩⟩
      simp [livesAt, h1]
    | some d =>
      have hlt := h3 d hd
      constructor
      · rintro ⟨m, hm, hv⟩
        obtain ⟨i, _, rfl⟩ := List.mem_map.mp hm
        simp only [livesAt, Bool.and_eq_true, decide_eq_true_eq] at hv
        exact decide_eq_true (by omega)
      · intro hf
        have hf : ms.floor < d := of_decide_eq_true hf
        refine ⟨max ms.floor nd.num, List.mem_map.mpr ⟨(max ms.floor nd.num - ms.floor).toNat, List.mem_range.mpr (by omega), by omega⟩, ?_⟩
        simp only [livesAt, Bool.and_eq_true, decide_eq_true_eq]
        omega
  unfold needed aliveM keptM
  rw [List.any_append, key, Bool.or_comm]
  all_goals rfl
theorem hasSeg_own (ns : List NoteD) : ∀ {segs : List SegD} {s : SegD}, s ∈ segs → (segs.filter (ownedBy ns)).any (fun x => decide (x.num = s.num)) = ownedBy ns s := by
  intro segs s hs
  rw [Bool.eq_iff_iff, List.any_eq_true]
  constructor
  · rintro ⟨x, hx, e⟩
    have e : x.num = s.num := of_decide_eq_true e
    have h2 := (List.mem_filter.mp hx).2
    unfold ownedBy at h2 ⊢
    rw [← e]
    exact h2
  · exact fun h => ⟨s, List.mem_filter.mpr ⟨hs, h⟩, decide_eq_true rfl⟩
def tiOf (s : SegD) : T3 Int Int (Int × Int) := ⟨s.num, s.shard, s.name⟩
theorem settle_trim (ms : MS) (h : ∀ nd ∈ ms.notes, needed ms.floor ms.pins nd = aliveM ms nd) : settleC { CS.of ms with led := tidyL (CS.of ms).led } = CS.of (trimM ms) := by
  have e1 : ms.notes.filter (needed ms.floor ms.pins) = ms.notes.filter (aliveM ms) := List.filter_congr h
  have e2 : (ms.segs.map tiOf).filter (fun t => (ms.segs.filter (ownedBy (ms.notes.filter (aliveM ms)))).any fun x => decide (x.num = t.a)) = (ms.segs.filter (ownedBy (ms.notes.filter (aliveM ms)))).map tiOf := by
    rw [List.filter_map]
    congr 1
    exact List.filter_congr fun s hs => hasSeg_own _ hs
  have e3 : (ms.segs.map tiOf).filter (fun t => !(ms.segs.filter (ownedBy (ms.notes.filter (aliveM ms)))).any fun x => decide (x.num = t.a)) = (ms.segs.filter fun s => !ownedBy (ms.notes.filter (aliveM ms)) s).map tiOf := by
    rw [List.filter_map]
    congr 1
    refine List.filter_congr fun s hs => ?_
    show (!(ms.segs.filter (ownedBy (ms.notes.filter (aliveM ms)))).any fun x => decide (x.num = s.num)) = _
    rw [hasSeg_own _ hs]
  have e4 : ∀ ns, (fun s : SegD => ns.any fun nd => decide (nd.seg = some s.num)) = ownedBy ns := fun _ => rfl
  have eL : tidyL (CS.of ms).led = (CS.of (trimM ms)).led := by
    show ({ now := ms.now, floor := ms.floor, pins := ms.pins, notes := ms.notes.filter (needed ms.floor ms.pins), segs := ms.segs.filter fun s => (ms.notes.filter (needed ms.floor ms.pins)).any fun nd => decide (nd.seg = some s.num), up := ms.up } : LS) = _
    rw [e1]
    rfl
  rw [eL]
  show ({ led := (CS.of (trimM ms)).led, titles := _, closed := _, routes := ms.routes, begins := ms.begins } : CS) = _
  have eT : (CS.of (trimM ms)).titles = (ms.segs.filter (ownedBy (ms.notes.filter (aliveM ms)))).map tiOf := rfl
  have eC : (CS.of (trimM ms)).closed = (ms.segs.filter fun s => !ownedBy (ms.notes.filter (aliveM ms)) s).foldl (fun cl s => closeC (s.shard, s.name) cl) ms.closed := rfl
  have fT : ((CS.of ms).titles.filter fun t => hasSeg (CS.of (trimM ms)).led t.a) = (CS.of (trimM ms)).titles := by
    rw [eT]
    exact e2
  have fC : (((CS.of ms).titles.filter fun t => !hasSeg (CS.of (trimM ms)).led t.a).foldl (fun cl t => closeC (t.b, t.c) cl) (CS.of ms).closed) = (CS.of (trimM ms)).closed := by
    rw [eC, show ((CS.of ms).titles.filter fun t => !hasSeg (CS.of (trimM ms)).led t.a) = _ from e3, List.foldl_map]
    rfl
  show ({ led := (CS.of (trimM ms)).led, titles := ((CS.of ms).titles.filter fun t => hasSeg (CS.of (trimM ms)).led t.a), closed := (((CS.of ms).titles.filter fun t => !hasSeg (CS.of (trimM ms)).led t.a).foldl (fun cl t => closeC (t.b, t.c) cl) (CS.of ms).closed), routes := ms.routes, begins := ms.begins } : CS) = _
  rw [fT, fC]
  rfl
theorem tidy_same (ms : MS) (h1 : ∀ nd ∈ ms.notes, needed ms.floor ms.pins nd = true) (h2 : ∀ s ∈ ms.segs, ownedBy ms.notes s = true) : tidyL (CS.of ms).led = (CS.of ms).led := by
  have e1 : ms.notes.filter (needed ms.floor ms.pins) = ms.notes := List.filter_eq_self.mpr h1
  have e2 : ms.segs.filter (ownedBy ms.notes) = ms.segs := List.filter_eq_self.mpr h2
  show ({ now := ms.now, floor := ms.floor, pins := ms.pins, notes := ms.notes.filter (needed ms.floor ms.pins), segs := ms.segs.filter (ownedBy (ms.notes.filter (needed ms.floor ms.pins))), up := ms.up } : LS) = _
  rw [e1, e2]
  rfl
end K94
/-! The plain law, part 2: whose turn it is; homes; the invariant; catalog and model answer alike. -/
namespace K94
open PySem PySem.Spec PyProof.Rows L2 LamX
theorem find_two (n sh : Int) : ∀ (segs : List SegD), (segs.map (·.num)).Nodup → segs.find? (fun s => decide (some n = some s.num) && decide (s.shard = sh)) = (segs.find? fun s => decide (s.num = n)).filter fun s => decide (s.shard = sh)
  | [], _ => rfl
  | s :: t, h => by
    obtain ⟨h1, h2⟩ := List.nodup_cons.mp h
    rw [List.find?_cons, List.find?_cons]
    by_cases e : s.num = n
    · have no : t.find? (fun s => decide (some n = some s.num) && decide (s.shard = sh)) = none := by
        rw [List.find?_eq_none]
        intro x hx hc
        rw [Bool.and_eq_true] at hc
        have := Option.some.inj (of_decide_eq_true hc.1)
        exact h1 (List.mem_map.mpr ⟨x, hx, (show x.num = s.num by rw [e, this])⟩)
      subst e
      rw [no]
      by_cases e2 : s.shard = sh
      · simp [Option.filter, e2]
      · simp [Option.filter, e2]
    · have e' : ¬ n = s.num := fun z => e z.symm
      rw [find_two n sh t h2]
      simp [e, e']
theorem title_find (n : Int) (segs : List SegD) : titleOf (segs.map tiOf) n = (segs.find? fun s => decide (s.num = n)).map tiOf := by
  unfold titleOf
  rw [List.find?_map]
  rfl
theorem turns_eq {ms : MS} (hr : RtOk ms.routes) (hs : (ms.segs.map (·.num)).Nodup) (sh : Int) (name : Int × Int) (nd : NoteD) : turnsC (CS.of ms) sh name nd = turnsM ms sh name nd := by
  unfold turnsC turnsM
  show (match segTitle (ms.segs.map tiOf) nd.seg with
    | some t => if t.b = sh then nmLt t.c name else decide (shardOf ms.routes nd.r.name = sh)
    | none => decide (shardOf ms.routes nd.r.name = sh)) = _
  rw [shard_best hr]
  cases e : nd.seg with
  | none =>
    have no : ms.segs.find? (fun s => decide (none = some s.num) && decide (s.shard = sh)) = none := by
      rw [List.find?_eq_none]
      intro x _
      simp
    rw [no]
    rfl
  | some n =>
    rw [find_two n sh ms.segs hs]
    show (match titleOf (ms.segs.map tiOf) n with
      | some t => if t.b = sh then nmLt t.c name else decide ((bestM ms.routes nd.r.name).2 = sh)
      | none => decide ((bestM ms.routes nd.r.name).2 = sh)) = _
    rw [title_find]
    cases ms.segs.find? fun s => decide (s.num = n) with
    | none => rfl
    | some s =>
      by_cases e2 : s.shard = sh
      · have : (some s).filter (fun s => decide (s.shard = sh)) = some s := by simp [Option.filter, e2]
        rw [this]
        show (if s.shard = sh then nmLt s.name name else _) = _
        rw [if_pos e2]
      · have : (some s).filter (fun s => decide (s.shard = sh)) = none := by simp [Option.filter, e2]
        rw [this]
        show (if s.shard = sh then nmLt s.name name else _) = _
        rw [if_neg e2]
/-! ### homes -/
theorem homes_none (ms : MS) (sh : Int) (name : Int × Int) : ∀ (homes : List (Int × List Int)) (nd : NoteD), (∀ h ∈ homes, h.1 ≠ nd.num) → homes.foldl (homeM ms sh name) nd = nd
  | [], _, _ => rfl
  | h :: t, nd, no => by
    rw [List.foldl_cons]
    have e : homeM ms sh name nd h = nd := by
      unfold homeM
      rw [if_neg fun z => no h List.mem_cons_self z.1]
    rw [e]
    exact homes_none ms sh name t nd fun x hx => no x (List.mem_cons_of_mem _ hx)
theorem homes_eq (ms : MS) (sh : Int) (name : Int × Int) (nd : NoteD) (p : Int × List Int → Bool) : ∀ (homes : List (Int × List Int)), (homes.map (·.1)).Nodup → (∀ h ∈ homes, h.1 = nd.num → p h = turnsM ms sh name nd) → ownN ms.up (homes.filter p) nd = homes.foldl (homeM ms sh name) nd
  | [], _, _ => rfl
  | h :: t, nod, hp => by
    obtain ⟨h1, h2⟩ := List.nodup_cons.mp nod
    rw [List.foldl_cons]
    by_cases e : h.1 = nd.num
    · have no : ∀ x ∈ t, x.1 ≠ nd.num := fun x hx z => h1 (List.mem_map.mpr ⟨x, hx, (show x.1 = h.1 by rw [e, z])⟩)
      have ph := hp h List.mem_cons_self e
      cases c : turnsM ms sh name nd with
      | true =>
        have e2 : homeM ms sh name nd h = { nd with seg := some ms.up, leaves := h.2 } := by
          unfold homeM
          rw [if_pos ⟨e, c⟩]
        rw [e2, homes_none ms sh name t { nd with seg := some ms.up, leaves := h.2 } no]
        unfold ownN
        rw [List.filter_cons, ph, c, if_pos rfl, List.find?_cons, decide_eq_true e]
      | false =>
        have e2 : homeM ms sh name nd h = nd := by
          unfold homeM
          rw [if_neg fun z => Bool.noConfusion (c.symm.trans z.2)]
        rw [e2, homes_none ms sh name t _ no]
        unfold ownN
        rw [List.filter_cons, ph, c, if_neg (by decide)]
        have no2 : (t.filter p).find? (fun h => decide (h.1 = nd.num)) = none := by
          rw [List.find?_eq_none]
          intro x hx hc
          exact no x (List.mem_filter.mp hx).1 (of_decide_eq_true hc)
        rw [no2]
    · have e2 : homeM ms sh name nd h = nd := by
        unfold homeM
        rw [if_neg fun z => e z.1]
      rw [e2, ← homes_eq ms sh name nd p t h2 fun x hx => hp x (List.mem_cons_of_mem _ hx)]
      unfold ownN
      rw [List.filter_cons]
      cases p h with
      | true => rw [if_pos rfl, List.find?_cons, decide_eq_false e]
      | false => rw [if_neg (by decide)]
theorem find_note : ∀ {ns : List NoteD} {nd : NoteD}, (ns.map (·.num)).Nodup → nd ∈ ns → findNote ns nd.num = some nd
  | [], _, _, h => by cases h
  | x :: t, nd, nod, h => by
    obtain ⟨h1, h2⟩ := List.nodup_cons.mp nod
    unfold findNote
    rw [List.find?_cons]
    rcases List.mem_cons.mp h with rfl | h
    · rw [decide_eq_true rfl]
    · have ne : ¬ x.num = nd.num := fun z => h1 (List.mem_map.mpr ⟨nd, h, z.symm⟩)
      rw [decide_eq_false ne]
      exact find_note h2 h
theorem own_notes {ms : MS} (hr : RtOk ms.routes) (hs : (ms.segs.map (·.num)).Nodup) (hn : (ms.notes.map (·.num)).Nodup) (sh : Int) (name : Int × Int) (homes : List (Int × List Int)) (hh : (homes.map (·.1)).Nodup) :
    ms.notes.map (ownN ms.up (turning (CS.of ms) sh name homes)) = ms.notes.map fun nd => homes.foldl (homeM ms sh name) nd := by
  refine List.map_congr_left fun nd hnd => homes_eq ms sh name nd _ homes hh fun h _ e => ?_
  show (match findNote ms.notes h.1 with
    | none => false
    | some nd => turnsC (CS.of ms) sh name nd) = _
  rw [e, find_note hn hnd]
  exact turns_eq hr hs sh name nd
/-! ### the invariant -/
structure Wp (ms : MS) (i : Nat) : Prop where
  nod : (ms.notes.map (·.num)).Nodup
  old : ∀ nd ∈ ms.notes, nd.num ≤ ms.now
  dies : ∀ nd ∈ ms.notes, ∀ d, nd.died = some d → nd.num < d
  small : ∀ nd ∈ ms.notes, Small nd.r
  f0 : 0 ≤ ms.floor
  f1 : ms.floor ≤ ms.now
  now : ms.now ≤ i
  ln : ms.notes.length ≤ i
  lp : ms.pins.length ≤ i
  ls : ms.segs.length ≤ i
  lc : ms.closed.length + ms.segs.length ≤ i
  lr : ms.routes.length ≤ i + 1
  snod : (ms.segs.map (·.num)).Nodup
  sup : ∀ s ∈ ms.segs, s.num < ms.up
  rt : RtOk ms.routes
structure Wf (ms : MS) (i : Nat) : Prop where
  wp : Wp ms i
  alive : ∀ nd ∈ ms.notes, aliveM ms nd = true
  owned : ∀ s ∈ ms.segs, ownedBy ms.notes s = true
theorem Wp.fit {ms : MS} {i : Nat} (h : Wp ms i) (hi : i ≤ 100) : ms.Fit := by
  obtain ⟨h1, h2, h3, h4, h5, h6, h7, h8, h9, h10, h11, h12, h13, h14, h15⟩ := h
  exact ⟨by omega, by omega, by omega, by omega, by omega, ⟨by omega, by omega⟩, ⟨by omega, by omega⟩⟩
theorem CS.of_fit {ms : MS} (h : ms.Fit) : (CS.of ms).Fit :=
  ⟨⟨h.pins, h.notes, h.segs⟩, by show (ms.segs.map _).length ≤ _; rw [List.length_map]; exact h.segs, h.closed, h.routes⟩
theorem wf0 : Wf ms0 0 := by
  refine ⟨⟨.nil, (fun _ h => by cases h), (fun _ h => by cases h), (fun _ h => by cases h), Int.le_refl _, Int.le_refl _, Int.le_refl _, Nat.le_refl _, Nat.le_refl _, Nat.le_refl _, Nat.le_refl _, Nat.le_refl _, .nil, (fun _ h => by cases h), ?_⟩, (fun _ h => by cases h), (fun _ h => by cases h)⟩
  exact ⟨List.pairwise_singleton _ _, by simp [ms0], by simp [ms0]⟩
theorem closeN_num (x : Str) (n : Int) (nd : NoteD) : (closeN x n nd).num = nd.num := by
  unfold closeN
  split <;> rfl
theorem closeN_r (x : Str) (n : Int) (nd : NoteD) : (closeN x n nd).r = nd.r := by
  unfold closeN
  split <;> rfl
theorem closeN_died (x : Str) (n : Int) (nd : NoteD) : (closeN x n nd).died = nd.died ∨ (closeN x n nd).died = some n := by
  unfold closeN
  split
  · exact .inr rfl
  · exact .inl rfl
theorem homeM_keep (ms : MS) (sh : Int) (name : Int × Int) (nd : NoteD) (h : Int × List Int) : (homeM ms sh name nd h).num = nd.num ∧ (homeM ms sh name nd h).r = nd.r ∧ (homeM ms sh name nd h).died = nd.died := by
  unfold homeM
  split <;> exact ⟨rfl, rfl, rfl⟩
theorem homes_keep (ms : MS) (sh : Int) (name : Int × Int) : ∀ (homes : List (Int × List Int)) (nd : NoteD), (homes.foldl (homeM ms sh name) nd).num = nd.num ∧ (homes.foldl (homeM ms sh name) nd).r = nd.r ∧ (homes.foldl (homeM ms sh name) nd).died = nd.died
  | [], _ => ⟨rfl, rfl, rfl⟩
  | h :: t, nd => by
    rw [List.foldl_cons]
    obtain ⟨a1, a2, a3⟩ := homes_keep ms sh name t (homeM ms sh name nd h)
    obtain ⟨b1, b2, b3⟩ := homeM_keep ms sh name nd h
    exact ⟨a1.trans b1, a2.trans b2, a3.trans b3⟩
theorem closeC_len2 (x : Int × (Int × Int)) (cl : List (Int × (Int × Int))) : (closeC x cl).length ≤ cl.length + 1 := by
  unfold closeC
  split
  · exact Nat.le_succ _
  · rw [List.length_append]
    exact Nat.le_refl _
theorem Wp.mono {ms : MS} {i : Nat} (h : Wp ms i) : Wp ms (i + 1) := by
  obtain ⟨h1, h2, h3, h4, h5, h6, h7, h8, h9, h10, h11, h12, h13, h14, h15⟩ := h
  exact ⟨h1, h2, h3, h4, h5, h6, by omega, by omega, by omega, by omega, by omega, by omega, h13, h14, h15⟩
/-- closed notes, and perhaps one more -/
theorem Wp.put {ms : MS} {i : Nat} (h : Wp ms i) (x : Str) (more : List NoteD) (hm : more = [] ∨ ∃ ra r, more = [⟨ms.now + 1, ra, r, none, none, []⟩] ∧ Small r) : Wp { ms with notes := ms.notes.map (closeN x (ms.now + 1)) ++ more, now := ms.now + 1 } (i + 1) := by
  obtain ⟨h1, h2, h3, h4, h5, h6, h7, h8, h9, h10, h11, h12, h13, h14, h15⟩ := h
  have en : ((ms.notes.map (closeN x (ms.now + 1))).map (·.num)) = ms.notes.map (·.num) := by
    rw [List.map_map]
    exact List.map_congr_left fun nd _ => closeN_num _ _ _
  have all : ∀ nd ∈ ms.notes.map (closeN x (ms.now + 1)) ++ more, nd.num ≤ ms.now + 1 ∧ (∀ d, nd.died = some d → nd.num < d) ∧ Small nd.r := by
    intro nd hnd
    rcases List.mem_append.mp hnd with hnd | hnd
    · obtain ⟨q, hq, rfl⟩ := List.mem_map.mp hnd
      rw [closeN_num, closeN_r]
      have a := h2 q hq
      refine ⟨by omega, fun d hd => ?_, h4 q hq⟩
      rcases closeN_died x (ms.now + 1) q with e | e
      · exact h3 q hq d (e.symm.trans hd)
      · have := Option.some.inj (e.symm.trans hd)
        omega
    · rcases hm with rfl | ⟨ra, r, rfl, hs⟩
      · cases hnd
      · rw [List.mem_singleton.mp hnd]
        exact ⟨Int.le_refl _, (fun d hd => by cases hd), hs⟩
  have lm : more.length ≤ 1 := by
    rcases hm with rfl | ⟨ra, r, rfl, hs⟩
    · exact Nat.zero_le _
    · exact Nat.le_refl _
  refine ⟨?_, fun nd hnd => (all nd hnd).1, fun nd hnd => (all nd hnd).2.1, fun nd hnd => (all nd hnd).2.2, h5, by show ms.floor ≤ ms.now + 1; omega, by show ms.now + 1 ≤ ((i + 1 : Nat) : Int); omega, ?_, by show ms.pins.length ≤ _; omega, by show ms.segs.length ≤ _; omega, by show ms.closed.length + ms.segs.length ≤ _; omega, by show ms.routes.length ≤ _; omega, h13, h14, h15⟩
  · show ((ms.notes.map (closeN x (ms.now + 1)) ++ more).map (·.num)).Nodup
    rw [List.map_append, en]
    refine List.nodup_append.mpr ⟨h1, ?_, fun a ha b hb e => ?_⟩
    · rcases hm with rfl | ⟨ra, r, rfl, hs⟩ <;> simp
    · obtain ⟨q, hq, rfl⟩ := List.mem_map.mp ha
      have a := h2 q hq
      rcases hm with rfl | ⟨ra, r, rfl, hs⟩
      · cases hb
      · have : b = ms.now + 1 := by simpa using hb
        omega
  · show (ms.notes.map (closeN x (ms.now + 1)) ++ more).length ≤ _
    rw [List.length_append, List.length_map]
    omega
theorem Wp.step {sd : SchD} {ms : MS} {i : Nat} (h : Wp ms i) {d : Deed} (hd : DeedGood sd ms d) : Wp (stepM d ms).1 (i + 1) := by
  have h0 := h
  obtain ⟨h1, h2, h3, h4, h5, h6, h7, h8, h9, h10, h11, h12, h13, h14, h15⟩ := h
  cases d with
  | put ra r => exact h0.put r.name _ (.inr ⟨ra, r, rfl, hd.2⟩)
  | drop x =>
    show Wp (dropM x ms) (i + 1)
    unfold dropM
    split
    · have := h0.put x [] (.inl rfl)
      rw [List.append_nil] at this
      exact this
    · exact h0.mono
  | pin =>
    refine ⟨h1, h2, h3, h4, h5, h6, by show ms.now ≤ _; omega, by show ms.notes.length ≤ _; omega, ?_, by show ms.segs.length ≤ _; omega, by show ms.closed.length + ms.segs.length ≤ _; omega, by show ms.routes.length ≤ _; omega, h13, h14, h15⟩
    show (ms.pins ++ [ms.now]).length ≤ _
    rw [List.length_append]
    exact Nat.succ_le_succ h9
  | unpin m =>
    show Wp (if m ∈ ms.pins then { ms with pins := cutPins ms.pins m } else ms) (i + 1)
    split
    · have := cutPins_len ms.pins m
      exact ⟨h1, h2, h3, h4, h5, h6, by show ms.now ≤ _; omega, by show ms.notes.length ≤ _; omega, by show (cutPins ms.pins m).length ≤ _; omega, by show ms.segs.length ≤ _; omega, by show ms.closed.length + ms.segs.length ≤ _; omega, by show ms.routes.length ≤ _; omega, h13, h14, h15⟩
    · exact h0.mono
  | lift m =>
    exact ⟨h1, h2, h3, h4, by show 0 ≤ max ms.floor (min m ms.now); omega, by show max ms.floor (min m ms.now) ≤ ms.now; omega, by show ms.now ≤ _; omega, by show ms.notes.length ≤ _; omega, by show ms.pins.length ≤ _; omega, by show ms.segs.length ≤ _; omega, by show ms.closed.length + ms.segs.length ≤ _; omega, by show ms.routes.length ≤ _; omega, h13, h14, h15⟩
  | own sh name inner homes =>
    have en : ((ms.notes.map fun nd => homes.foldl (homeM ms sh name) nd).map (·.num)) = ms.notes.map (·.num) := by
      rw [List.map_map]
      exact List.map_congr_left fun nd _ => (homes_keep ms sh name homes nd).1
    have all : ∀ nd ∈ ms.notes.map (fun nd => homes.foldl (homeM ms sh name) nd), nd.num ≤ ms.now ∧ (∀ d, nd.died = some d → nd.num < d) ∧ Small nd.r := by
      intro nd hnd
      obtain ⟨q, hq, rfl⟩ := List.mem_map.mp hnd
      obtain ⟨e1, e2, e3⟩ := homes_keep ms sh name homes q
      rw [e1, e2, e3]
      exact ⟨h2 q hq, h3 q hq, h4 q hq⟩
    refine ⟨by rw [← en] at h1; exact h1, fun nd hnd => (all nd hnd).1, fun nd hnd => (all nd hnd).2.1, fun nd hnd => (all nd hnd).2.2, h5, h6, by show ms.now ≤ _; omega, ?_, by show ms.pins.length ≤ _; omega, ?_, ?_, by show ms.routes.length ≤ _; omega, ?_, ?_, h15⟩
    · show (ms.notes.map _).length ≤ _
      rw [List.length_map]
      omega
    · show (ms.segs ++ [_]).length ≤ _
      rw [List.length_append]
      exact Nat.succ_le_succ h10
    · show ms.closed.length + (ms.segs ++ [_]).length ≤ _
      rw [List.length_append]
      show ms.closed.length + (ms.segs.length + 1) ≤ _
      omega
    · show ((ms.segs ++ [(⟨ms.up, sh, name, inner⟩ : SegD)]).map (fun s : SegD => s.num)).Nodup
      rw [List.map_append]
      refine List.nodup_append.mpr ⟨h13, by simp, fun a ha b hb e => ?_⟩
      obtain ⟨q, hq, rfl⟩ := List.mem_map.mp ha
      have a := h14 q hq
      have : b = ms.up := by simpa using hb
      omega
    · intro s hs
      show s.num < ms.up + 1
      rcases List.mem_append.mp hs with hs | hs
      · have := h14 s hs
        omega
      · rw [List.mem_singleton.mp hs]
        show ms.up < ms.up + 1
        omega
  | close sh name =>
    have := closeC_len2 (sh, name) ms.closed
    exact ⟨h1, h2, h3, h4, h5, h6, by show ms.now ≤ _; omega, by show ms.notes.length ≤ _; omega, by show ms.pins.length ≤ _; omega, by show ms.segs.length ≤ _; omega, by show (closeC (sh, name) ms.closed).length + ms.segs.length ≤ _; omega, by show ms.routes.length ≤ _; omega, h13, h14, h15⟩
  | forget sh name =>
    have : (ms.closed.filter fun y => decide (y ≠ (sh, name))).length ≤ ms.closed.length := List.length_filter_le _ _
    exact ⟨h1, h2, h3, h4, h5, h6, by show ms.now ≤ _; omega, by show ms.notes.length ≤ _; omega, by show ms.pins.length ≤ _; omega, by show ms.segs.length ≤ _; omega, by show (ms.closed.filter fun y => decide (y ≠ (sh, name))).length + ms.segs.length ≤ _; omega, by show ms.routes.length ≤ _; omega, h13, h14, h15⟩
  | route low sh =>
    have := route_len ms.routes low sh
    exact ⟨h1, h2, h3, h4, h5, h6, by show ms.now ≤ _; omega, by show ms.notes.length ≤ _; omega, by show ms.pins.length ≤ _; omega, by show ms.segs.length ≤ _; omega, by show ms.closed.length + ms.segs.length ≤ _; omega, by show (routeM low sh ms.routes).length ≤ _; omega, h13, h14, route_ok h15 low sh⟩
  | begin_ => exact ⟨h1, h2, h3, h4, h5, h6, by show ms.now ≤ _; omega, by show ms.notes.length ≤ _; omega, by show ms.pins.length ≤ _; omega, by show ms.segs.length ≤ _; omega, by show ms.closed.length + ms.segs.length ≤ _; omega, by show ms.routes.length ≤ _; omega, h13, h14, h15⟩
theorem fold_close_len : ∀ (ss : List SegD) (cl : List (Int × (Int × Int))), (ss.foldl (fun cl s => closeC (s.shard, s.name) cl) cl).length ≤ cl.length + ss.length
  | [], _ => Nat.le_refl _
  | s :: t, cl => by
    rw [List.foldl_cons]
    have h1 := fold_close_len t (closeC (s.shard, s.name) cl)
    have h2 := closeC_len2 (s.shard, s.name) cl
    rw [List.length_cons]
    omega
theorem filter_two {α : Type} (p : α → Bool) (l : List α) : (l.filter p).length + (l.filter fun x => !p x).length = l.length := by
  induction l with
  | nil => rfl
  | cons x t ih =>
    rw [List.filter_cons, List.filter_cons]
    cases p x <;> simp <;> omega
theorem Wp.trim {ms : MS} {i : Nat} (h : Wp ms i) : Wf (trimM ms) i := by
  obtain ⟨h1, h2, h3, h4, h5, h6, h7, h8, h9, h10, h11, h12, h13, h14, h15⟩ := h
  have sub : ∀ nd ∈ ms.notes.filter (aliveM ms), nd ∈ ms.notes := fun nd hnd => (List.mem_filter.mp hnd).1
  have l1 := filter_two (ownedBy (ms.notes.filter (aliveM ms))) ms.segs
  have l2 := fold_close_len (ms.segs.filter fun s => !ownedBy (ms.notes.filter (aliveM ms)) s) ms.closed
  have l3 : (ms.notes.filter (aliveM ms)).length ≤ ms.notes.length := List.length_filter_le _ _
  refine ⟨⟨(List.filter_sublist.map _).nodup h1, fun nd hnd => h2 nd (sub nd hnd), fun nd hnd => h3 nd (sub nd hnd), fun nd hnd => h4 nd (sub nd hnd), h5, h6, h7, ?_, h9, ?_, ?_, h12, (List.filter_sublist.map _).nodup h13, fun s hs => h14 s (List.mem_filter.mp hs).1, h15⟩, fun nd hnd => (List.mem_filter.mp hnd).2, fun s hs => (List.mem_filter.mp hs).2⟩
  · show (ms.notes.filter (aliveM ms)).length ≤ i
    omega
  · show (ms.segs.filter (ownedBy (ms.notes.filter (aliveM ms)))).length ≤ i
    omega
  · show ((ms.segs.filter fun s => !ownedBy (ms.notes.filter (aliveM ms)) s).foldl (fun cl s => closeC (s.shard, s.name) cl) ms.closed).length + (ms.segs.filter (ownedBy (ms.notes.filter (aliveM ms)))).length ≤ i
    omega
/-! ### alike -/
theorem Wp.needed {ms : MS} {i : Nat} (h : Wp ms i) : ∀ nd ∈ ms.notes, needed ms.floor ms.pins nd = aliveM ms nd := fun nd hnd => alive_iff (h.old nd hnd) h.f1 (h.dies nd hnd)
theorem Wf.needed {ms : MS} {i : Nat} (h : Wf ms i) : ∀ nd ∈ ms.notes, needed ms.floor ms.pins nd = true := fun nd hnd => (h.wp.needed nd hnd).trans (h.alive nd hnd)
theorem apply_do {sd : SchD} {ms : MS} {i : Nat} (h : Wf ms i) {d : Deed} (hd : DeedGood sd ms d) : applyC d (CS.of ms) = (CS.of (doM d ms).1, (doM d ms).2) := by
  have wp := h.wp.step hd
  have fin := settle_trim (stepM d ms).1 wp.needed
  have quiet : (∀ nd ∈ (stepM d ms).1.notes, K94.needed (stepM d ms).1.floor (stepM d ms).1.pins nd = true) → (∀ s ∈ (stepM d ms).1.segs, ownedBy (stepM d ms).1.notes s = true) → settleC (CS.of (stepM d ms).1) = CS.of (trimM (stepM d ms).1) := fun q1 q2 => by
    rw [tidy_same _ q1 q2] at fin
    exact fin
  unfold applyC doM
  refine Prod.ext ?_ ?_
  · show settleC (changeC d (CS.of ms)).1 = CS.of (trimM (stepM d ms).1)
    cases d with
    | put ra r => exact fin
    | drop x =>
      by_cases c : hasM x ms = true
      · have e1 : (stepM (.drop x) ms).1 = { ms with notes := ms.notes.map (closeN x (ms.now + 1)), now := ms.now + 1 } := by
          show dropM x ms = _
          unfold dropM
          rw [if_pos c]
        have e2 : (changeC (.drop x) (CS.of ms)).1 = { CS.of ms with led := tidyL (endL x { (CS.of ms).led with now := (CS.of ms).led.now + 1 }) } := by
          show ({ CS.of ms with led := dropL x (CS.of ms).led } : CS) = _
          unfold dropL
          rw [if_pos (show hasN x (CS.of ms).led = true from c)]
        rw [e2]
        rw [e1] at fin ⊢
        exact fin
      · have e1 : (stepM (.drop x) ms).1 = ms := by
          show dropM x ms = _
          unfold dropM
          rw [if_neg c]
        have e2 : (changeC (.drop x) (CS.of ms)).1 = CS.of ms := by
          show ({ CS.of ms with led := dropL x (CS.of ms).led } : CS) = _
          unfold dropL
          rw [if_neg (show ¬ hasN x (CS.of ms).led = true from c)]
        rw [e2]
        rw [e1] at quiet ⊢
        exact quiet h.needed h.owned
    | pin =>
      refine quiet (fun nd hnd => ?_) h.owned
      have := h.needed nd hnd
      unfold K94.needed at this ⊢
      show (_ || (ms.pins ++ [ms.now]).any _) = true
      rw [List.any_append, ← Bool.or_assoc]
      show (_ || _) = true
      rw [Bool.or_eq_true]
      exact .inl this
    | unpin m =>
      by_cases c : m ∈ ms.pins
      · have e1 : (stepM (.unpin m) ms).1 = { ms with pins := cutPins ms.pins m } := if_pos c
        have e2 : (changeC (.unpin m) (CS.of ms)).1 = { CS.of ms with led := unpinL m (CS.of ms).led } := if_pos c
        rw [e2]
        rw [e1] at fin ⊢
        exact fin
      · have e1 : (stepM (.unpin m) ms).1 = ms := if_neg c
        have e2 : (changeC (.unpin m) (CS.of ms)).1 = CS.of ms := if_neg c
        rw [e2]
        rw [e1] at quiet ⊢
        exact quiet h.needed h.owned
    | lift m => exact fin
    | own sh name inner homes =>
      have e := own_notes h.wp.rt h.wp.snod h.wp.nod sh name homes hd.2
      have t : (CS.of (stepM (.own sh name inner homes) ms).1).titles = (CS.of ms).titles ++ [⟨(CS.of ms).led.up, sh, name⟩] := by
        show ((ms.segs ++ [(⟨ms.up, sh, name, inner⟩ : SegD)]).map tiOf) = _
        rw [List.map_append]
        rfl
      have n : (CS.of (stepM (.own sh name inner homes) ms).1).led = { now := ms.now, floor := ms.floor, pins := ms.pins, notes := ms.notes.map (ownN ms.up (turning (CS.of ms) sh name homes)), segs := ms.segs ++ [⟨ms.up, sh, name, inner⟩], up := ms.up + 1 } := by
        show ({ now := ms.now, floor := ms.floor, pins := ms.pins, notes := ms.notes.map (fun nd => homes.foldl (homeM ms sh name) nd), segs := ms.segs ++ [⟨ms.up, sh, name, inner⟩], up := ms.up + 1 } : LS) = _
        rw [e]
      have e2 : (changeC (.own sh name inner homes) (CS.of ms)).1 = CS.mk (tidyL (CS.of (stepM (.own sh name inner homes) ms).1).led) (CS.of (stepM (.own sh name inner homes) ms).1).titles ms.closed ms.routes ms.begins := by
        rw [t, n]
        rfl
      rw [e2]
      exact fin
    | close sh name => exact quiet h.needed h.owned
    | forget sh name => exact quiet h.needed h.owned
    | route low sh =>
      have e2 : (changeC (.route low sh) (CS.of ms)).1 = CS.of (stepM (.route low sh) ms).1 := by
        show ({ CS.of ms with routes := routeK low sh ms.routes } : CS) = _
        rw [route_eq h.wp.rt]
        rfl
      rw [e2]
      exact quiet h.needed h.owned
    | begin_ => exact quiet h.needed h.owned
  · cases d <;> rfl
theorem do_wf {sd : SchD} {ms : MS} {i : Nat} (h : Wf ms i) {d : Deed} (hd : DeedGood sd ms d) : Wf (doM d ms).1 (i + 1) := (h.wp.step hd).trim
theorem good_ok {sd : SchD} {ms : MS} {i : Nat} (h : Wf ms i) (hi : i ≤ 100) {d : Deed} (hd : DeedGood sd ms d) : DeedOk sd d := by
  cases d with
  | put ra r => exact hd
  | own sh name inner homes =>
    have := hd.1
    have := h.wp.ln
    exact ⟨by omega, hd.2⟩
  | drop x => trivial
  | pin => trivial
  | unpin m => trivial
  | lift m => trivial
  | close sh name => trivial
  | forget sh name => trivial
  | route low sh => trivial
  | begin_ => trivial
end K94
/-! The law. -/
namespace K94
open PySem PySem.Spec PyProof.Rows L2 LamX
section
variable {K : PySem.W.Frag} {P : Addr} {q : Str} {S : List Addr} {F H F' H' : Hp} {st m : Addr} {ms : MS}
theorem TabS.g0 (t : TabS H P q) (g : Gr [] F H F' H') : TabS H' P q := (GrW.of0 (S := []) g).tab t
theorem TabS.stA (t : TabS H P q) (h : StAt F H st) (g : Gr [st] F H F' H') : TabS H' P q := by
  obtain ⟨sc, k, c, ns, h1, h2⟩ := h.ex
  have n := TabS.ne t h1 noTab_lst
  refine (GrW.of g (by simp [n]) fun a ha o e => ?_).tab t
  rw [List.mem_singleton.mp ha, h1] at e
  cases e
  intro p z
  cases z
theorem TabS.md (t : TabS H P q) (h : MAt K F H m ms) (g : Gr [m] F H F' H') : TabS H' P q := by
  obtain ⟨pa, na, sa, ra, ca, h1, _⟩ := h.ex
  have n := TabS.ne t h1 noTab_dK
  refine (GrW.of g (by simp [n]) fun a ha o e => ?_).tab t
  rw [List.mem_singleton.mp ha, h1] at e
  cases e
  intro p z
  cases z
theorem NoTabs.gr (h : NoTabs F) (g : Gr S F H F' H') : NoTabs F' := fun a ps e => h a ps (g.nt a ps e)
theorem StAt.frameW (h : StAt F H st) (g : GrW P q S F H F' H') (n : st ∉ S) : StAt F' H' st := by
  obtain ⟨sc, k, c, ns, h1, h2⟩ := h.ex
  exact ⟨g.out h1 noTab_lst h.out, sc, k, c, ns, g.keep _ _ h1 n noTab_lst, g.ff _ _ h2⟩
theorem MAt.frameW (h : MAt K F H m ms) (g : GrW P q S F H F' H') (n : m ∉ S) : MAt K F' H' m ms := by
  obtain ⟨pa, na, sa, ra, ca, h1, h2, h3, h4, h5, h6⟩ := h.ex
  exact ⟨g.out h1 noTab_dK h.out, pa, na, sa, ra, ca, g.keep _ _ h1 n noTab_dK, g.ff _ _ h2, h3.mono g.ff fun _ _ e => e.mono g.ff, h4.mono g.ff fun _ _ e => e.mono g.ff, h5.mono g.ff fun _ _ e => e.mono g.ff, h6.mono g.ff fun _ _ e => e.mono g.ff⟩
theorem CatAt.notIn {c : LC} {a : CA} {cs : CS} (h : CatAt K F H c a cs) {p : Addr} (n : H p = none) : p ∉ a.S := by
  obtain ⟨dx, ro, h1, h2⟩ := h.obj
  obtain ⟨lx, pa, na, sa, l1, l2⟩ := h.led.ex
  obtain ⟨ps, t1, t2⟩ := h.tis
  obtain ⟨qs, c1, c2⟩ := h.cls
  intro z
  simp only [CA.S, List.mem_cons, List.not_mem_nil, or_false] at z
  rcases z with rfl | rfl | rfl | rfl
  · rw [h1] at n; cases n
  · rw [l1] at n; cases n
  · rw [t1] at n; cases n
  · rw [c1] at n; cases n
/-- a catalog's heap places, where the state of the draws stood before them -/
theorem CatAt.notOld {c : LC} {a : CA} {cs : CS} (h : CatAt K F H c a cs) {o : HO} (e : F st = some o) : st ∉ a.S := by
  intro z
  simp only [CA.S, List.mem_cons, List.not_mem_nil, or_false] at z
  rcases z with rfl | rfl | rfl | rfl
  · rw [h.fx] at e; cases e
  · rw [h.fl] at e; cases e
  · rw [h.ft] at e; cases e
  · rw [h.fc] at e; cases e
/-- the draws' list is no part of a catalog: by its kind and its shape -/
theorem CatAt.ne_st {c : LC} {a : CA} {cs : CS} (h : CatAt K F H c a cs) (s : StAt F H st) : st ∉ a.S := by
  obtain ⟨dx, ro, h1, h2⟩ := h.obj
  obtain ⟨lx, pa, na, sa, l1, l2⟩ := h.led.ex
  obtain ⟨ps, t1, t2⟩ := h.tis
  obtain ⟨qs, c1, c2⟩ := h.cls
  obtain ⟨sc, k, c, ns, s1, s2⟩ := s.ex
  have no : ∀ as : List Addr, as.map V.ref ≠ [V.ref sc, V.int k, V.int c] := fun as e => by
    have := congrArg (fun l : List V => l[1]?) e
    simp only [List.getElem?_map] at this
    cases h : as[1]? with
    | none =>
      rw [h] at this
      cases this
    | some x =>
      rw [h] at this
      cases this
  intro z
  simp only [CA.S, List.mem_cons, List.not_mem_nil, or_false] at z
  rcases z with rfl | rfl | rfl | rfl
  · rw [h1] at s1; cases s1
  · rw [l1] at s1; cases s1
  · rw [t1] at s1
    exact no ps (HO.lst.inj (Option.some.inj s1))
  · rw [c1] at s1
    exact no qs (HO.lst.inj (Option.some.inj s1))
theorem CatAt.ne_m {c : LC} {a : CA} {cs : CS} (h : CatAt K F H c a cs) (s : MAt K F H m ms) : m ∉ a.S := by
  obtain ⟨dx, ro, h1, h2⟩ := h.obj
  obtain ⟨lx, pa, na, sa, l1, l2⟩ := h.led.ex
  obtain ⟨ps, t1, t2⟩ := h.tis
  obtain ⟨qs, c1, c2⟩ := h.cls
  obtain ⟨_, _, _, _, _, s1, _⟩ := s.ex
  intro z
  simp only [CA.S, List.mem_cons, List.not_mem_nil, or_false] at z
  rcases z with rfl | rfl | rfl | rfl
  · rw [h1] at s1; cases s1
  · rw [l1] at s1; cases s1
  · rw [t1] at s1; cases s1
  · rw [c1] at s1; cases s1
theorem StAt.ne_m (s : StAt F H st) (h : MAt K F H m ms) : st ≠ m := fun z => by
  obtain ⟨sc, k, c, ns, s1, s2⟩ := s.ex
  obtain ⟨_, _, _, _, _, h1, _⟩ := h.ex
  rw [z, h1] at s1
  cases s1
end
/-- what stands between two turns -/
structure LawSt (K : PySem.W.Frag) (F H : Hp) (st sa m ka : Addr) (c : LC) (a : CA) (ms : MS) (i : Nat) : Prop where
  same : Same F H
  nt : NoTabs F
  st : StAt F H st
  cat : CatAt K F H c a (CS.of ms)
  mod : MAt K F H m ms
  wf : Wf ms i
  sch : SchAt K F sa c.d
  lc : LcAt K F c
  key : F ka = some (.tup [.int c.key.1, .int c.key.2])
  tab : TabS H (tabR K) qR
theorem LawSt.g0 {K : PySem.W.Frag} {F H F' H' : Hp} {st sa m ka : Addr} {c : LC} {a : CA} {ms : MS} {i : Nat} (h : LawSt K F H st sa m ka c a ms i) (g : Gr [] F H F' H') : LawSt K F' H' st sa m ka c a ms i :=
  ⟨g.fh, h.nt.gr g, h.st.frame g (by simp), h.cat.same g, h.mod.frame g (by simp), h.wf, h.sch.mono g.ff, h.lc.mono g.ff, g.ff _ _ h.key, TabS.g0 h.tab g⟩
theorem scal_oV (o : Option Int) : scal (oV o) (oV o) = true := by cases o <;> rfl
theorem noxed {X : Cx} {b : List Stmt} {D : Ends} {σ : L2.St} {H : Hp} (h : ∃ t, PSs X.nox b t ∧ t D σ H) : ∃ t, PSs X b t ∧ t D σ H := by
  obtain ⟨t, h1, h2⟩ := h
  exact ⟨t, h1.nox, h2⟩
section
variable {P : Program} {w : World} {K : PySem.W.Frag} {mg : Str → Option Value} {base : Heap}
theorem sc_law : FnScope ["_law_script", "_law_state", "_law_schema_here", "_law_key", "_law_catalog", "_law_model", "_law_turn", "_law_deed_here", "_law_due", "_law_told"] ["_law_script"] (defScope s_law) := ⟨rfl, rfl, rfl, by decide +kernel, rfl, by decide +kernel, by decide +kernel⟩
def sp_law (K : PySem.W.Frag) : Sp := fun vs H Q _ => ∃ (a : Addr) (ns : List Int), vs = [.ref a] ∧ SqL K H a (ns.map V.int) ∧ TabS H (tabR K) qR ∧ ∀ H', Q (.bl true) H'
theorem ok_law {f : Addr} {fd : FuncData} (T : Tx w K mg) (tb : TB K base mg) (F : FunD K "law" "law" (defArgs s_law) (defBody s_law) (defScope s_law) [] [] f fd) : FnOk P w K mg base C8.CX0 10 f fd ["_law_script"] (sp_law K) := by
  have c_l_next := ok_l_next (P := P) (base := base) T
  have c_l_schema := ok_l_schema (P := P) (base := base) T
  have c_Catalog := ok_Catalog_init (P := P) (base := base) T
  have c_l_begin := ok_l_begin (P := P) (base := base) T
  have c_l_alike := ok_l_alike (P := P) (base := base) T
  have c_l_deed := ok_l_deed (P := P) (base := base) T
  have c_l_do := ok_l_do (P := P) (base := base) T
  have c_Catalog_apply := ok_apply (P := P) (base := base) T tb
  refine F.ok sc_law (fun vs H Q E h => ?_) (fun cdv A outer s H vs Q E hr h => ?_)
  · obtain ⟨a, ns, rfl, _⟩ := h
    rfl
  · refine noxed ?_
    obtain ⟨scr, ns, rfl, hs, tab, k⟩ := h
    refine ⟨_, (pss_cons (ps_set (i := 1) sc_law.nd rfl (.inl rfl) (pe_lst (pa_cons (pe_callTy call_list_of (by rfl) T.z_list (by decide +kernel) (pa_cons (pv 0) pa_nil)) (pa_cons pe_int (pa_cons pe_int pa_nil)))))
      (pss_cons (ps_set (i := 2) sc_law.nd rfl (.inl rfl) (C8.pe_c c_l_schema hr (by decide) (by rfl) (pa_cons (pv 1) pa_nil)))
      (pss_cons (ps_set (i := 3) sc_law.nd rfl (.inl rfl) (pe_tup (pa_cons (C8.pe_c c_l_next hr (by decide) (by rfl) (pa_cons (pv 1) (pa_cons pe_int pa_nil))) (pa_cons pe_int pa_nil))))
      (pss_cons (ps_set (i := 4) sc_law.nd rfl (.inl rfl) (C8.pe_mk c_Catalog hr (by decide) (by rfl) (pa_cons (pv 2) (pa_cons (pv 3) (pa_cons pe_int pa_nil)))))
      (pss_cons (ps_set (i := 5) sc_law.nd rfl (.inl rfl) (pe_c0 c_l_begin hr (by decide) (by rfl)))
      (pss_cons (ps_if (pt_not (pt_val (C8.pe_c c_l_alike hr (by decide) (by rfl) (pa_cons (pv 4) (pa_cons (pv 5) (pa_cons (pv 3) pa_nil))))))
        (pss_one (ps_ret pe_bl))
        pss_nil)
      (pss_cons (ps_for PassesOwn.never rfl (pi_range1 (by rfl) T.z_range (pa_cons (C8.pe_c c_l_next hr (by decide) (by rfl) (pa_cons (pv 1) (pa_cons pe_int pa_nil))) pa_nil)) (pg_name (i := 6) sc_law.nd rfl (.inl rfl))
        (pss_cons (ps_set (i := 7) sc_law.nd rfl (.inl rfl) (C8.pe_c c_l_deed hr (by decide) (by rfl) (pa_cons (pv 1) (pa_cons (pv 2) (pa_cons (pv 5) pa_nil)))))
        (pss_cons (ps_set (i := 8) sc_law.nd rfl (.inl rfl) (C8.pe_c c_l_do hr (by decide) (by rfl) (pa_cons (pv 5) (pa_cons (pv 7) pa_nil))))
        (pss_cons (ps_set (i := 9) sc_law.nd rfl (.inl rfl) (C8.pe_mt c_Catalog_apply hr (by decide) (pv 4) (pa_cons (pv 7) pa_nil)))
        (pss_one (ps_if (PW.pt (pw_or (pt_cmpR op_ne (pe_cmpR op_isN (pv 9) pe_non (nomark _)) (pe_cmpR op_isN (pv 8) pe_non (nomark _)) (nomark _)) (pw_or (pt_cmpR op_ne (pv 9) (pv 8) (nomark _)) (pw_or1 (pt_not (pt_val (C8.pe_c c_l_alike hr (by decide) (by rfl) (pa_cons (pv 4) (pa_cons (pv 5) (pa_cons (pv 3) pa_nil))))))))))
          (pss_one (ps_ret pe_bl))
          pss_nil))))))
      (pss_one (ps_ret pe_bl))))))))), ?_⟩
    refine ⟨_, rfl, scr, _, rfl, .inl hs, fun l nl => ⟨(by show 3 ≤ sizeLine; decide), fun st nst => ?_⟩⟩
    have g1 : Gr [] (fun _ => none) H (upd (fun _ => none) l (.lst (ns.map V.int))) (upd H l (.lst (ns.map V.int))) := Gr.tell (fun _ _ z => by cases z) nl
    have nF : NoTabs (fun _ => none : Hp) := fun _ _ z => by cases z
    have g2 := g1.made (o := .lst [V.ref l, V.int 0, V.int 0]) nst
    have hS2 : StAt (upd (fun _ => none) l (.lst (ns.map V.int))) (upd (upd H l (.lst (ns.map V.int))) st (.lst [V.ref l, V.int 0, V.int 0])) st := ⟨g1.fh.free nst, l, 0, 0, ns, upd_same, upd_same⟩
    have t2 := TabS.g0 tab g2
    have nF2 := nF.gr g2
    have w2 := g2.fh
    generalize (upd (fun _ => none) l (.lst (ns.map V.int)) : Hp) = F2 at *
    generalize upd (upd H l (.lst (ns.map V.int))) st (.lst [V.ref l, V.int 0, V.int 0]) = H2 at *
    clear g1 g2
    refine ⟨_, rfl, F2, st, rfl, w2, hS2, fun F3 H3 sa d g3 hS3 hSc hOk => ?_⟩
    have t3 := TabS.stA t2 hS2 g3
    have nF3 := nF2.gr g3
    refine ⟨_, rfl, F3, st, 4294967291, rfl, g3.fh, hS3, by decide, by decide, fun H4 r g4 hS4 r0 r1 => ⟨(by show 2 ≤ sizeLine; decide), fun ka nka => ?_⟩⟩
    have t4 := TabS.stA t3 hS3 g4
    have g5 := Gr.tell (S := []) (o := .tup [V.int r, V.int 17]) g4.fh nka
    have hS5 := hS4.tell (o := .tup [V.int r, V.int 17]) g4.fh nka
    have t5 := TabS.g0 t4 g5
    have nF5 := nF3.gr g5
    have k5 : (upd F3 ka (.tup [V.int r, V.int 17])) ka = some (.tup [V.int r, V.int 17]) := upd_same
    have hSc5 := hSc.mono g5.ff
    generalize upd F3 ka (.tup [V.int r, V.int 17]) = F5 at *
    generalize upd H4 ka (.tup [V.int r, V.int 17]) = H5 at *
    refine ⟨_, rfl, _, rfl, fun x dx hx hd hne => ⟨F5, H5, x, dx, sa, ka, d, (r, 17), 1, rfl, g5.fh, hx, hd, hne, rfl, hSc5, hOk, k5, ⟨r0, r1⟩, ⟨(show (0 : Int) ≤ 17 by decide), (show (17 : Int) < 4294967291 by decide)⟩, fun F6 H6 c a g6 ax ck cd hLc hC => ⟨rfl, ?_⟩⟩⟩
    subst ax
    have hS6 := hS5.frame g6 (by simp)
    refine ⟨F6, rfl, g6.fh, fun F7 H7 m g7 nm hM => ?_⟩
    have L0 : LawSt K F7 H7 st sa m ka c a ms0 0 := by
      refine ⟨g7.fh, (nF5.gr g6).gr g7, hS6.frame g7 (by simp), hC.same g7, hM, wf0, ?_, hLc.mono g7.ff, ?_, TabS.g0 (TabS.g0 t5 g6) g7⟩
      · rw [cd]
        exact (hSc5.mono g6.ff).mono g7.ff
      · rw [ck]
        exact g7.ff _ _ (g6.ff _ _ k5)
    have wfit : ∀ {ms : MS} {i : Nat}, Wf ms i → i ≤ 50 → ms.Fit := fun h hi => h.wp.fit (by omega)
    refine ⟨_, rfl, _, rfl, _, rfl, c, F7, a, m, ka, ms0, rfl, L0.same, L0.cat, L0.mod, L0.key, wfit L0.wf (by decide), L0.wf.wp.small, fun F8 H8 g8 => ⟨_, rfl, iteF ?_⟩⟩
    have L1 := L0.g0 g8
    refine ⟨_, rfl, F8, st, 41, rfl, L1.same, L1.st, by decide, by decide, fun H9 n g9 hS9 n0 n1 => ⟨n, rfl, by omega, by omega, ?_⟩⟩
    have L2 : LawSt K F8 H9 st sa m ka c a ms0 0 := ⟨g9.fh, L1.nt, hS9, L1.cat.frame g9 (by have := L1.cat.ne_st L1.st; simp [CA.S] at this ⊢; exact fun z => this.1 z.symm) (by have := L1.cat.ne_st L1.st; simp [CA.S] at this ⊢; exact fun z => this.2.1 z.symm) (by have := L1.cat.ne_st L1.st; simp [CA.S] at this ⊢; exact fun z => this.2.2.1 z.symm) (by have := L1.cat.ne_st L1.st; simp [CA.S] at this ⊢; exact fun z => this.2.2.2 z.symm), L1.mod.frame g9 (by simp [(L1.st.ne_m L1.mod).symm]), L1.wf, L1.sch, L1.lc, L1.key, TabS.stA L1.tab L1.st g9⟩
    refine for_range (fun i σ H' => ∃ (F : Hp) (a' : CA) (ms : MS), a'.x = a.x ∧ LawSt K F H' st sa m ka c a' ms i ∧ ∃ y6 y7 y8 y9, σ = [some (.ref scr), some (.ref st), some (.ref sa), some (.ref ka), some (.ref a.x), some (.ref m), y6, y7, y8, y9]) ⟨F8, a, ms0, rfl, L2, _, _, _, _, rfl⟩ ?_ ?_
    · rintro i σ H' hi ⟨F, a', ms, ex, L, y6, y7, y8, y9, rfl⟩
      have hi41 : i < 41 := by omega
      have fit := wfit L.wf (by omega)
      have stm := L.st.ne_m L.mod
      refine ⟨_, rfl, _, rfl, _, rfl, F, st, sa, m, c.d, ms, rfl, L.same, L.st, L.sch, L.lc.ok, L.mod, stm, fit, L.wf.wp.nod, L.wf.wp.old, fun F1 H1 da dd h1 hS1 hD hG => ?_⟩
      have nS := L.cat.ne_st L.st
      have nM := L.cat.ne_m L.mod
      simp only [CA.S, List.mem_cons, List.not_mem_nil, or_false, not_or] at nS nM
      have hM1 := L.mod.frame h1 (by simp [stm.symm])
      have hC1 := L.cat.frame h1 (by simp; exact fun z => nS.1 z.symm) (by simp; exact fun z => nS.2.1 z.symm) (by simp; exact fun z => nS.2.2.1 z.symm) (by simp; exact fun z => nS.2.2.2 z.symm)
      have tab1 := TabS.stA L.tab L.st h1
      have wp2 := L.wf.wp.step hG
      have fit2 : (stepM dd ms).1.Fit := wp2.fit (by omega)
      refine ⟨_, rfl, _, rfl, F1, m, ms, da, dd, rfl, h1.fh, hM1, fit, fit2, hD, fun F2 H2 h2 hM2 => ?_⟩
      have hC2 := hC1.frame h2 (by simp; exact fun z => nM.1 z.symm) (by simp; exact fun z => nM.2.1 z.symm) (by simp; exact fun z => nM.2.2.1 z.symm) (by simp; exact fun z => nM.2.2.2 z.symm)
      have tab2 := TabS.md tab1 hM1 h2
      have hS2 := hS1.frame h2 (by simp [stm])
      have nF2 := (L.nt.gr h1).gr h2
      have lc2 := (L.lc.mono h1.ff).mono h2.ff
      obtain ⟨dx2, ro2, x2, _⟩ := hC2.obj
      have hne : (CS.of ms).routes ≠ [] := by
        obtain ⟨r, t, e, _⟩ := L.wf.wp.rt.first
        show ms.routes ≠ []
        rw [e]
        simp
      have ln := L.wf.wp.ln
      have ls := L.wf.wp.ls
      have as : Asks K F2 H2 c a' (CS.of ms) da dd := ⟨h2.fh, nF2, hC2, CS.of_fit fit, by show ms.notes.length < 1000; omega, by show ms.segs.length < 1000; omega, L.wf.wp.nod, hne, lc2, hD.mono h2.ff, good_ok L.wf (by omega) hG, tab2⟩
      have q1 : (applyC dd (CS.of ms)).1 = CS.of (doM dd ms).1 := by rw [apply_do L.wf hG]
      have q2 : (applyC dd (CS.of ms)).2 = (doM dd ms).2 := by rw [apply_do L.wf hG]
      refine ⟨_, rfl, a'.x, dx2, _, by rw [ex], x2, catF_no (by simp), _, rfl, c, F2, a', CS.of ms, da, dd, by rw [ex]; rfl, as, fun F3 H3 cl tl fcl ftl h3 hC3 => ?_⟩
      rw [q1] at hC3
      rw [q2]
      have nS2 := hC2.ne_st hS2
      have nM2 := hC2.ne_m hM2
      have L3 : LawSt K F3 H3 st sa m ka c { a' with cl := cl, tl := tl } (doM dd ms).1 (i + 1) :=
        ⟨h3.fh, h3.noTabs nF2, hS2.frameW h3 nS2, hC3, hM2.frameW h3 nM2, do_wf L.wf hG, ((L.sch.mono h1.ff).mono h2.ff).mono h3.ff, lc2.mono h3.ff, h3.ff _ _ (h2.ff _ _ (h1.ff _ _ L.key)), h3.tab tab2⟩
      refine ⟨_, rfl, rfl, _, rfl, rfl, rfl, _, rfl, ?_⟩
      rw [show (!decide (V.bl (decide (oV (doM dd ms).2 = V.non)) = V.bl (decide (oV (doM dd ms).2 = V.non)))) = false by simp]
      refine iteF ⟨_, rfl, _, rfl, scal_oV _, _, rfl, ?_⟩
      rw [show (!decide (oV (doM dd ms).2 = oV (doM dd ms).2)) = false by simp]
      refine iteF ⟨_, rfl, _, rfl, _, rfl, c, F3, { a' with cl := cl, tl := tl }, m, ka, (doM dd ms).1, by rw [← ex]; rfl, L3.same, L3.cat, L3.mod, L3.key, wfit L3.wf (by omega), L3.wf.wp.small, fun F4 H4 h4 => ⟨_, rfl, iteF ?_⟩⟩
      exact ⟨F4, { a' with cl := cl, tl := tl }, (doM dd ms).1, ex, L3.g0 h4, _, _, _, _, rfl⟩
    · rintro σ H' _
      exact k H'
end
end K94
/-! The end. -/
namespace K94
open PySem PySem.Spec PyProof.Rows L2 LamX
theorem law_at {w : World} {K : PySem.W.Frag} {mg : Str → Option Value} {h : Heap} {f : Addr} {n : Nat} (X : K.In h) (G : h.Ns mainGlobals mg) (c : SaysK w h K) (hfa : mg ("law" : Str) = some (.ref f)) : LawAtS PySem.Challenge.rw_surenear_k94_whole_catalogs_by_a_plain_o w K C8.CX0 10 n "_law_script" mg f h := by
  have T : Tx w K mg := tx_of X G c
  obtain ⟨fd, F⟩ := T.d_law
  have e := hfa.symm.trans T.g_law
  cases e
  have b := FunD.bindsA (ps := ["_law_script"]) F fun _ _ _ _ _ _ us hl => match us, hl with | [_], _ => rfl
  have mem : (("put_route", none) : He.Defn) ∈ tf := by simp [tf]
  refine ⟨fd, [He.cT K ("put_route", none)], sp_law K, fun p hp => ?_, fun p hp => ?_, fun p hp => ?_, fun s v => b s [v] rfl, fun H a ns hl _ hT hS => ⟨a, ns, rfl, hS, ?_, fun _ => rfl⟩, fun base _ _ hb => ok_law T (hb _ (List.mem_singleton.mpr rfl)) F⟩
  · rw [List.mem_singleton.mp hp]
    exact c.x.empty _ mem
  · rw [List.mem_singleton.mp hp]
    exact c.x.out _ mem
  · rw [List.mem_singleton.mp hp]
    exact PySem.W.codeHd_of_K X (c.x.hd _ mem)
  · exact TabS.nil (hT _ (List.mem_singleton.mpr rfl))
end K94
open PySem PySem.W PySem.Calls PyProof.Rows
theorem PySem.Challenge.cw_surenear_k94_whole_catalogs_by_a_plain_o_holds : PySem.Challenge.rw_surenear_k94_whole_catalogs_by_a_plain_o.Holds := by
  w_on; o_law
  refine HandSHeadRun.head_any (r := K94.RR) (q := view K94.RR.prog [63]) (H := K94.hk) (ob := K94.ob) (M := 20000) (loose := K94.loose) (d := HandSHeadRun.topDef K94.RR.prog 63) (kwd := []) K94.ob_eq
    (by kernel_rfl) (fun s => by kernel_rfl) K94.run (by kernel_rfl) (by kernel_rfl) (by kernel_rfl) (by rfl) (by first | assumption | decide +kernel) (by decide +kernel) ⟨rfl, rfl, rfl, rfl, rfl, by decide +kernel⟩ ?hw ?hc
  case hw => w_witness2
  case hc =>
    refine LamX.walk_ofTsE (l := PySem.Challenge.rw_surenear_k94_whole_catalogs_by_a_plain_o) (n := 63) (k := 10) (x := "_law_script") (CX := fun _ => C8.CX0) rfl (by decide) (by kernel_rfl) ⟨rfl, by decide, by decide⟩ ?F (fun _ _ _ _ _ z => z)
    intro w mg fa h Y G hmg0
    obtain ⟨K, KX, c⟩ := Y
    have hmg : mg ("law" : PySem.Str) = some (.ref fa) := by
      have e : (HandSHeadRun.topDef K94.RR.prog 63).name = ("law" : PySem.Str) := by kernel_rfl
      rw [← e]
      exact hmg0
    exact ⟨K, KX, K94.law_at KX G c hmg⟩
