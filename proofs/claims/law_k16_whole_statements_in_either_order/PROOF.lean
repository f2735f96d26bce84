import PyProof.Rows.All
import HandS.ForMost
import HandS.ForExc
import HandS.Defaults
import PySem.Challenge.RW_rowhold_k16_whole_statements_in_either_o
import HandS.ExcInit
import HandS.ExcField
import HandS.ExcIs
import HandS.Head0
import HandS.Head1
import HandS.Head2
import HandS.HeadEnd
import HandS.HeadHook1
import HandS.HeadHook2
import HandS.HeadHook3
import HandS.IsInst
import HandS.Flow
import HandS.CallSlots
import HandS.TupAny
import HandS.More
import HandS.Strs
import HandS.Wide
import HandS.ExcValue
import KE.KUnpackStar
import KE.GoesEnum
import KE.GoesMore
import HandS.Codes
import HandS.CallLocal
import HandS.MakeKwOnly
import HandS.Walk
import HandS.DictComp
import KE.KExcIs
import HandS.HotCalls
import HandS.Comp
import KE.KDictPairs
import HandS.Dict
import HandS.ExcOwn
import HandS.Lambda
import HandS.DeepEq
import KE.KEqNest
set_option Elab.async false
set_option linter.all false
set_option maxRecDepth 100000
set_option maxHeartbeats 0
/-! K16Text: the row's text by places, printed by wip/gen_text.py -/
namespace K16
open PySem PySem.Spec PyProof.Rows L2
abbrev rowProg : Program := PySem.Challenge.pw_rowhold_k16_whole_statements_in_either_o
def top (i : Nat) : Stmt := rowProg.main.body.getD i (.Pass ⟨0, 0, 0, 0⟩)
abbrev FnT (K : PySem.W.Frag) (x q : Str) (st : Stmt) (kws : List (Str × V)) (f : Addr) (fd : FuncData) : Prop :=
  FunD K x q (defArgs st) (defBody st) (defScope st) [] kws f fd
abbrev s_NoRow_init : Stmt := inClass (top 8) 0
abbrev n_NoRow_init : List Str := ["self", "table", "key"]
abbrev p_NoRow_init : List Str := ["self", "table", "key"]
abbrev s_Taken_init : Stmt := inClass (top 9) 0
abbrev n_Taken_init : List Str := ["self", "table", "key"]
abbrev p_Taken_init : List Str := ["self", "table", "key"]
abbrev s_Bare_init : Stmt := inClass (top 10) 0
abbrev n_Bare_init : List Str := ["self", "table", "key", "column"]
abbrev p_Bare_init : List Str := ["self", "table", "key", "column"]
abbrev s_Missing_init : Stmt := inClass (top 11) 0
abbrev n_Missing_init : List Str := ["self", "table", "key", "column"]
abbrev p_Missing_init : List Str := ["self", "table", "key", "column"]
abbrev s_Twice_init : Stmt := inClass (top 12) 0
abbrev n_Twice_init : List Str := ["self", "table", "key", "column"]
abbrev p_Twice_init : List Str := ["self", "table", "key", "column"]
abbrev s_Held_init : Stmt := inClass (top 13) 0
abbrev n_Held_init : List Str := ["self", "table", "key", "column"]
abbrev p_Held_init : List Str := ["self", "table", "key", "column"]
abbrev s_is_written : Stmt := top 24
abbrev n_is_written : List Str := ["thing", "signs", "most", "sign"]
abbrev p_is_written : List Str := ["thing", "signs", "most"]
abbrev s_is_word : Stmt := top 25
abbrev n_is_word : List Str := ["thing"]
abbrev p_is_word : List Str := ["thing"]
abbrev s_is_whole : Stmt := top 26
abbrev n_is_whole : List Str := ["thing"]
abbrev p_is_whole : List Str := ["thing"]
abbrev s_is_key : Stmt := top 27
abbrev n_is_key : List Str := ["thing"]
abbrev p_is_key : List Str := ["thing"]
abbrev s_is_text : Stmt := top 28
abbrev n_is_text : List Str := ["thing"]
abbrev p_is_text : List Str := ["thing"]
abbrev s_is_truth : Stmt := top 29
abbrev n_is_truth : List Str := ["thing"]
abbrev p_is_truth : List Str := ["thing"]
abbrev s_is_link : Stmt := top 30
abbrev n_is_link : List Str := ["thing"]
abbrev p_is_link : List Str := ["thing"]
abbrev s_of_kind : Stmt := top 32
abbrev n_of_kind : List Str := ["kind", "worth", "fits"]
abbrev p_of_kind : List Str := ["kind", "worth"]
abbrev s_column_amiss : Stmt := top 33
abbrev n_column_amiss : List Str := ["name", "kind", "empty", "to", "gone"]
abbrev p_column_amiss : List Str := ["name", "kind", "empty", "to", "gone"]
abbrev s_Column_init : Stmt := inClass (top 34) 0
abbrev n_Column_init : List Str := ["self", "name", "kind", "empty", "once", "to", "gone", "what"]
abbrev p_Column_init : List Str := ["self", "name", "kind", "empty", "once", "to", "gone"]
abbrev s_form_amiss : Stmt := top 36
abbrev n_form_amiss : List Str := ["columns", "words", "names", "column"]
abbrev p_form_amiss : List Str := ["columns", "words"]
abbrev s_schema_amiss : Stmt := top 37
abbrev n_schema_amiss : List Str := ["tables", "words", "at", "word", "columns"]
abbrev p_schema_amiss : List Str := ["tables"]
abbrev s_Schema_init : Stmt := inClass (top 39) 0
abbrev n_Schema_init : List Str := ["self", "tables", "amiss", "word", "columns"]
abbrev p_Schema_init : List Str := ["self", "tables"]
abbrev s_Schema_words : Stmt := inClass (top 39) 1
abbrev n_Schema_words : List Str := ["self"]
abbrev p_Schema_words : List Str := ["self"]
abbrev s_Schema_columns : Stmt := inClass (top 39) 2
abbrev n_Schema_columns : List Str := ["self", "table"]
abbrev p_Schema_columns : List Str := ["self", "table"]
abbrev s_Schema_told : Stmt := inClass (top 39) 3
abbrev n_Schema_told : List Str := ["self", "table", "name", "column"]
abbrev p_Schema_told : List Str := ["self", "table", "name"]
abbrev s_copied : Stmt := top 41
abbrev n_copied : List Str := ["tables", "word", "rows", "key", "row"]
abbrev p_copied : List Str := ["tables"]
abbrev s_places : Stmt := top 42
abbrev n_places : List Str := ["schema", "tables", "word", "key"]
abbrev p_places : List Str := ["schema", "tables"]
abbrev s_links_of : Stmt := top 43
abbrev n_links_of : List Str := ["schema", "tables", "table", "key", "row", "column"]
abbrev p_links_of : List Str := ["schema", "tables", "table", "key"]
abbrev s_holders : Stmt := top 44
abbrev n_holders : List Str := ["schema", "tables", "table", "key", "found", "word", "other", "column", "goal"]
abbrev p_holders : List Str := ["schema", "tables", "table", "key"]
abbrev s_is_bare : Stmt := top 45
abbrev n_is_bare : List Str := ["column", "row"]
abbrev p_is_bare : List Str := ["column", "row"]
abbrev s_is_missing : Stmt := top 46
abbrev n_is_missing : List Str := ["column", "tables", "row", "worth"]
abbrev p_is_missing : List Str := ["column", "tables", "row"]
abbrev s_is_twice : Stmt := top 47
abbrev n_is_twice : List Str := ["column", "tables", "table", "key", "worth", "other", "row"]
abbrev p_is_twice : List Str := ["column", "tables", "table", "key"]
abbrev s_pairs_of : Stmt := top 49
abbrev n_pairs_of : List Str := ["statement", "word", "table", "key", "given"]
abbrev p_pairs_of : List Str := ["statement"]
abbrev s_ask_pairs : Stmt := top 50
abbrev n_ask_pairs : List Str := ["schema", "statement", "table", "form", "given", "name", "column", "worth"]
abbrev p_ask_pairs : List Str := ["schema", "statement"]
abbrev s_ask_key : Stmt := top 51
abbrev n_ask_key : List Str := ["tables", "statement", "word", "table", "key", "given"]
abbrev p_ask_key : List Str := ["tables", "statement"]
abbrev s_ask_row : Stmt := top 52
abbrev n_ask_row : List Str := ["schema", "tables", "table", "key", "row", "column"]
abbrev p_ask_row : List Str := ["schema", "tables", "table", "key"]
abbrev s_done : Stmt := top 53
abbrev n_done : List Str := ["schema", "tables", "statement", "word", "table", "key", "given", "found", "other", "place", "name", "had", "worths", "column"]
abbrev p_done : List Str := ["schema", "tables", "statement"]
abbrev s_l_fresh : Stmt := top 55
abbrev n_l_fresh : List Str := ["_law_script"]
abbrev p_l_fresh : List Str := ["_law_script"]
abbrev s_l_fill : Stmt := top 56
abbrev n_l_fill : List Str := ["_law_state", "_law_cells", "_law_nth", "_law_seed", "_law_k", "_law_prime", "_law_far"]
abbrev p_l_fill : List Str := ["_law_state"]
abbrev s_l_take : Stmt := top 57
abbrev n_l_take : List Str := ["_law_state", "_law_many", "_law_turns", "_law_digit"]
abbrev p_l_take : List Str := ["_law_state", "_law_many"]
abbrev s_l_whole : Stmt := top 58
abbrev n_l_whole : List Str := ["_law_thing"]
abbrev p_l_whole : List Str := ["_law_thing"]
abbrev s_l_words : Stmt := top 59
abbrev n_l_words : List Str := ["_law_state", "_law_many", "_law_letters", "_law_own", "_law_words_here", "_law_k", "_law_word", "_law_turn", "_law_one"]
abbrev p_l_words : List Str := ["_law_state", "_law_many"]
abbrev s_l_desc : Stmt := top 60
abbrev n_l_desc : List Str := ["_law_state", "_law_upto", "_law_words_here", "_law_desc_here", "_law_word", "_law_columns", "_law_name", "_law_brand", "_law_bare", "_law_goal", "_law_fate"]
abbrev p_l_desc : List Str := ["_law_state", "_law_upto"]
abbrev s_l_schema : Stmt := top 61
abbrev n_l_schema : List Str := ["_law_desc_here", "_law_made", "_law_word", "_law_columns", "_law_some", "_law_name", "_law_brand", "_law_bare", "_law_lone", "_law_goal", "_law_fate"]
abbrev p_l_schema : List Str := ["_law_desc_here"]
abbrev s_l_fits : Stmt := top 62
abbrev n_l_fits : List Str := ["_law_brand", "_law_worth_here", "_law_signs", "_law_sign"]
abbrev p_l_fits : List Str := ["_law_brand", "_law_worth_here"]
abbrev s_l_worth : Stmt := top 63
abbrev n_l_worth : List Str := ["_law_state", "_law_brand", "_law_way", "_law_few", "_law_signs", "_law_text", "_law_k"]
abbrev p_l_worth : List Str := ["_law_state", "_law_brand"]
abbrev s_l_pairs : Stmt := top 64
abbrev n_l_pairs : List Str := ["_law_state", "_law_columns", "_law_often", "_law_pairs_here", "_law_name", "_law_brand", "_law_bare", "_law_lone", "_law_goal", "_law_fate", "_law_worth_here"]
abbrev p_l_pairs : List Str := ["_law_state", "_law_columns", "_law_often"]
abbrev s_l_key : Stmt := top 65
abbrev n_l_key : List Str := ["_law_state"]
abbrev p_l_key : List Str := ["_law_state"]
abbrev s_l_filled : Stmt := top 66
abbrev n_l_filled : List Str := ["_law_columns", "_law_given", "_law_column"]
abbrev p_l_filled : List Str := ["_law_columns", "_law_given"]
abbrev s_l_nothing : Stmt := top 67
abbrev n_l_nothing : List Str := ["_law_desc_here", "_law_word", "_law_columns"]
abbrev p_l_nothing : List Str := ["_law_desc_here"]
abbrev s_l_copied : Stmt := top 68
abbrev n_l_copied : List Str := ["_law_tables", "_law_found", "_law_table", "_law_key_here"]
abbrev p_l_copied : List Str := ["_law_tables"]
abbrev s_l_linked : Stmt := top 69
abbrev n_l_linked : List Str := ["_law_desc_here", "_law_tables", "_law_table", "_law_key_here", "_law_word", "_law_columns", "_law_other", "_law_name", "_law_brand", "_law_bare", "_law_lone", "_law_goal", "_law_fate", "_law_linked_here"]
abbrev p_l_linked : List Str := ["_law_desc_here", "_law_tables", "_law_table", "_law_key_here"]
abbrev s_l_row_amiss : Stmt := top 70
abbrev n_l_row_amiss : List Str := ["_law_desc_here", "_law_tables", "_law_table", "_law_key_here", "_law_row", "_law_columns", "_law_name", "_law_brand", "_law_bare", "_law_lone", "_law_goal", "_law_fate", "_law_others", "_law_other"]
abbrev p_l_row_amiss : List Str := ["_law_desc_here", "_law_tables", "_law_table", "_law_key_here"]
abbrev s_l_form_amiss : Stmt := top 71
abbrev n_l_form_amiss : List Str := ["_law_desc_here", "_law_tables", "_law_statement_here", "_law_word", "_law_table", "_law_key_here", "_law_columns", "_law_given", "_law_name", "_law_column"]
abbrev p_l_form_amiss : List Str := ["_law_desc_here", "_law_tables", "_law_statement_here"]
abbrev s_l_done : Stmt := top 72
abbrev n_l_done : List Str := ["_law_desc_here", "_law_tables", "_law_statement_here", "_law_amiss", "_law_word", "_law_table", "_law_key_here", "_law_found", "_law_held", "_law_name", "_law_worth_here"]
abbrev p_l_done : List Str := ["_law_desc_here", "_law_tables", "_law_statement_here"]
abbrev s_l_statement : Stmt := top 73
abbrev n_l_statement : List Str := ["_law_state", "_law_desc_here", "_law_table", "_law_columns", "_law_key_here", "_law_way", "_law_pairs_here"]
abbrev p_l_statement : List Str := ["_law_state", "_law_desc_here"]
abbrev s_l_right : Stmt := top 74
abbrev n_l_right : List Str := ["_law_state", "_law_desc_here", "_law_many", "_law_tables", "_law_k", "_law_statement_here"]
abbrev p_l_right : List Str := ["_law_state", "_law_desc_here", "_law_many"]
abbrev s_l_told : Stmt := top 75
abbrev n_l_told : List Str := ["_law_schema_here", "_law_tables", "_law_statement_here", "_law_told_here", "_law_refusal_here", "_law_e"]
abbrev p_l_told : List Str := ["_law_schema_here", "_law_tables", "_law_statement_here"]
abbrev s_l_refusal : Stmt := top 76
abbrev n_l_refusal : List Str := ["_law_e", "_law_rows", "_law_tops", "_law_keys", "_law_lone"]
abbrev p_l_refusal : List Str := ["_law_e"]
abbrev s_l_both : Stmt := top 77
abbrev n_l_both : List Str := ["_law_schema_here", "_law_desc_here", "_law_tables", "_law_statements", "_law_refusals", "_law_told_here", "_law_due", "_law_right_here", "_law_statement_here", "_law_refusal_here", "_law_wanted"]
abbrev p_l_both : List Str := ["_law_schema_here", "_law_desc_here", "_law_tables", "_law_statements"]
abbrev s_law : Stmt := top 78
abbrev n_law : List Str := ["_law_script", "_law_state", "_law_desc_here", "_law_schema_here", "_law_tables", "_law_turn", "_law_one", "_law_other", "_law_first", "_law_told_here", "_law_right_here", "_law_second", "_law_again", "_law_well"]
abbrev p_law : List Str := ["_law_script"]
end K16

/-! K16HeadLib: Bools over the written part for own exception classes; a Hook with a list of such Bools. -/
namespace K16
open PySem PySem.Spec PyProof.Rows L2 He
abbrev Fr := PySem.W.Frag
def sh6 (C : Addr) (cd : ClassData) : List (Option Value) → Bool
  | [_, _, _, _, some (.builtin n), _] => (match cd.mro with
    | .ref C' :: bm => decide (C' = C) && (decide (n = "ValueError.__new__") && (cd.hasDict && (!cd.hasDel && PySem.HandSPX.refsVE bm)))
    | _ => false)
  | _ => false
def oexB (K : Fr) (C : Addr) : Bool := match K.lookup C with
  | some ⟨.type t, _, .cls cd, sl⟩ => decide (t = "type") && sh6 C cd sl.toList
  | _ => false
theorem oexB_ok {K : Fr} {C : Addr} (h : oexB K C = true) : ∃ nm q N bs bm sn sub ab col dd k0 k1 k2 k3 k5,
    K.lookup C = some (excClassObj nm q C N bs bm true sn sub ab col dd k0 k1 k2 k3 k5 "ValueError.__new__") ∧ PySem.HandSPX.refsVE bm = true := by
  unfold oexB at h
  split at h
  · rename_i t dd cd sl ho
    obtain ⟨h1, h2⟩ := ba h
    have e1 := of_decide_eq_true h1
    subst e1
    unfold sh6 at h2
    split at h2
    · rename_i k0 k1 k2 k3 n k5 hs
      split at h2
      · rename_i C' bm hm
        obtain ⟨h3, h4⟩ := ba h2
        obtain ⟨h5, h6⟩ := ba h4
        obtain ⟨h7, h8⟩ := ba h6
        obtain ⟨h9, h10⟩ := ba h8
        have e3 := of_decide_eq_true h3
        have e5 := of_decide_eq_true h5
        subst e3 e5
        obtain ⟨nm, bs, mro, ns, qn, hd, sn, sub, ab, col, del⟩ := cd
        dsimp only at hm h7 h9
        subst hm
        have e7 : hd = true := h7
        have e9 : del = false := by cases del <;> simp_all
        subst e7 e9
        have hsl : sl = #[k0, k1, k2, k3, some (.builtin "ValueError.__new__"), k5] := by
          obtain ⟨l⟩ := sl
          simp only at hs
          rw [hs]
        subst hsl
        exact ⟨nm, qn, ns, bs, bm, sn, sub, ab, col, dd, k0, k1, k2, k3, k5, ho, h10⟩
      · cases h2
    · cases h2
  · cases h
def vB (a : Option (Option Value)) (b : Option (Option Value)) : Bool := decide (a = b)
def oexA (x : Str) (K : Fr) : Bool := oexB K (ga K x) && (eqO (PySem.W.findIn K (.ref (ga K x)) "__setattr__") (some (some (.builtin "object.__setattr__"))) &&
  (decide (PySem.W.subIn K (.ref (ga K x)) (.type "BaseException") = some true) && (decide (PySem.W.typeIn K (.ref (ga K x)) = some (.type "type")) && PySem.W.keepIn K (.ref (ga K x)))))
theorem oexA_ok {x : Str} {K : Fr} (h : oexA x K = true) : OexC K (ga K x) := by
  obtain ⟨h1, h⟩ := ba h
  obtain ⟨h2, h⟩ := ba h
  obtain ⟨h3, h⟩ := ba h
  obtain ⟨h4, h5⟩ := ba h
  exact ⟨oexB_ok h1, eqO_ok h2, of_decide_eq_true h3, of_decide_eq_true h4, h5⟩
def xfA (x : Str) (K : Fr) : Bool := xfB K (ga K x)
theorem xfA_ok {x : Str} {K : Fr} (h : xfA x K = true) : XfC K (ga K x) := xfB_ok h
def excA (x : Str) (K : Fr) : Bool := eqO (PySem.W.findIn K (.ref (ga K x)) "__class__") (some (some (.builtin "object.__class__"))) && (eqO (PySem.W.specialIn K (.builtin "object.__class__") "__get__") (some (some (.builtin "getset_descriptor.__get__"))) &&
  (decide (PySem.W.takesIn K (.builtin "object.__class__") = some true) && decide (PySem.W.mroIn K (ga K x) (.type "object") = some true)))
theorem excA_ok {x : Str} {K : Fr} (h : excA x K = true) (f : XfC K (ga K x)) : ExcC K (ga K x) := by
  obtain ⟨h1, h⟩ := ba h
  obtain ⟨h2, h⟩ := ba h
  obtain ⟨h3, h4⟩ := ba h
  exact ⟨f.ga, f.gg, f.exC, f.hdC, eqO_ok h1, eqO_ok h2, of_decide_eq_true h3, of_decide_eq_true h4⟩
def initA (x : Str) (K : Fr) : Bool := eqO (PySem.W.findIn K (.ref (ga K x)) "__init__") (some (some (.ref (ma K (ga K x) "__init__")))) && decide (PySem.W.typeIn K (.ref (ma K (ga K x) "__init__")) = some (.type "function"))
theorem initA_ok {x : Str} {K : Fr} (h : initA x K = true) : PySem.W.findIn K (.ref (ga K x)) "__init__" = some (some (.ref (ma K (ga K x) "__init__"))) ∧ PySem.W.typeIn K (.ref (ma K (ga K x) "__init__")) = some (.type "function") := by
  obtain ⟨h1, h2⟩ := ba h
  exact ⟨eqO_ok h1, of_decide_eq_true h2⟩
/-- isinstance of an instance of x against each of these own classes; and against ValueError -/
def kitA (x : Str) (ys : List (Str × Bool)) (K : Fr) : Bool := (ys.all fun y => decide (PySem.W.kitOne K (.ref (ga K x)) (.ref (ga K y.1)) = some y.2)) && decide (PySem.W.kitOne K (.ref (ga K x)) (.type "ValueError") = some true)
theorem kitA_ok {x : Str} {ys : List (Str × Bool)} {K : Fr} (h : kitA x ys K = true) : (∀ y ∈ ys, PySem.W.kitOne K (.ref (ga K x)) (.ref (ga K y.1)) = some y.2) ∧ PySem.W.kitOne K (.ref (ga K x)) (.type "ValueError") = some true := by
  obtain ⟨h1, h2⟩ := ba h
  exact ⟨fun y hy => of_decide_eq_true (List.all_eq_true.mp h1 y hy), of_decide_eq_true h2⟩
def tupA (x : Str) (vs : List Dv) (K : Fr) : Bool := tupB K x vs
def valsA (x : Str) (kvs : List (Str × Dv)) (K : Fr) : Bool := valsB K (ga K x) kvs
/-! ### the Hook -/
abbrev AlX : Type := AlT × Bool
def obsX (fa : List Fa) (fn : List DefD) (ts : List Tab) (xs : List (Fr → Bool)) (K : Fr) : AlX := (obsT fa fn ts K, xs.all fun x => x K)
def valX (fn : List DefD) (ts : List Tab) (w : World) : AlX := (valT fn ts w, true)
def obsXG (n : Nat) (fa : List Fa) (fn : List DefD) (ts : List Tab) (xs : List (Fr → Bool)) (g : Addr → Option Obj) : AlX := obsX fa fn ts xs (frG g (asD g n))
def SaysX (fa : List Fa) (fn : List DefD) (ts : List Tab) (xs : List (Fr → Bool)) (w : World) (K : Fr) : Prop := obsX fa fn ts xs K = valX fn ts w
def hookX (n : Nat) (fa : List Fa) (fn : List DefD) (ts : List Tab) (xs : List (Fr → Bool)) : PySem.W.Hook where
  α := AlX
  obs := fun s => obsXG n fa fn ts xs s.heap.get?
  val := fun w => valX fn ts w
  says := fun w h => ∃ K : Fr, K.In h ∧ SaysX fa fn ts xs w K
  of := fun _ _ e => ⟨_, frG_in, e⟩
  keeps := fun _ _ _ ⟨K, hK, c⟩ k => ⟨K, PySem.W.Frag.In.keeps hK k, c⟩
theorem obsXG_eq {n : Nat} {fa : List Fa} {fn : List DefD} {ts : List Tab} {xs : List (Fr → Bool)} {g : Addr → Option Obj} {s : Shared} (h : ∀ a, g a = s.heap.get? a) : obsXG n fa fn ts xs g = (hookX n fa fn ts xs).obs s := by
  have e : g = s.heap.get? := funext h
  rw [e] <;> rfl
section
variable {fa : List Fa} {fn : List DefD} {ts : List Tab} {xs : List (Fr → Bool)} {w : World} {K : Fr}
theorem SaysX.t (c : SaysX fa fn ts xs w K) : SaysT fa fn ts w K := congrArg (fun z : AlX => z.1) c
theorem SaysX.d (c : SaysX fa fn ts xs w K) : SaysD fa fn K := congrArg (fun z : AlT => z.1) c.t
theorem SaysX.fact (c : SaysX fa fn ts xs w K) {f : Fa} (h : f ∈ fa) : f.ok K = true := by
  have c1 := (ba (show ((fa.all fun f => f.ok K) && fn.all fun d => d.ok K) = true from congrArg (fun z : AlD => z.1) c.d)).1
  exact List.all_eq_true.mp c1 f h
theorem SaysX.x (c : SaysX fa fn ts xs w K) (i : Nat) {x : Fr → Bool} (h : xs[i]? = some x) : x K = true := by
  have c1 : (xs.all fun x => x K) = true := congrArg (fun z : AlX => z.2) c
  exact List.all_eq_true.mp c1 x (List.mem_of_getElem? h)
theorem SaysX.def_ (c : SaysX fa fn ts xs w K) (i : Nat) {d : DefD} (h : fn[i]? = some d) : ∃ fd, FunD K d.name d.qual d.params d.body d.scope (d.dvs K) (d.kws K) (fAd K d.at_) fd := c.d.def_ i h
theorem SaysX.tab (c : SaysX fa fn ts xs w K) (i : Nat) {t : Tab} (h : ts[i]? = some t) : ∃ es n, KDict K w (t.1 K) es n := by
  have e : (ts.map fun t => dicW K (t.1 K)) = ts.map fun t => some (keysIn w.params t.2) := congrArg (fun z : AlT => z.2) c.t
  have e2 : (ts.map fun t => dicW K (t.1 K))[i]? = (ts.map fun t => some (keysIn w.params t.2))[i]? := by rw [e]
  rw [List.getElem?_map, List.getElem?_map, h] at e2
  exact dicW_ok (Option.some.inj e2)
end
end K16

/-! K16Facts: what the head looks at, printed by wip/gen_head.py -/
namespace K16
open PySem PySem.Spec PyProof.Rows L2 He
def d_NoRow_init : DefD := ⟨("NoRow", some "__init__"), "__init__", "NoRow.__init__", defArgs s_NoRow_init, defBody s_NoRow_init, defScope s_NoRow_init, [], []⟩
def d_Taken_init : DefD := ⟨("Taken", some "__init__"), "__init__", "Taken.__init__", defArgs s_Taken_init, defBody s_Taken_init, defScope s_Taken_init, [], []⟩
def d_Bare_init : DefD := ⟨("Bare", some "__init__"), "__init__", "Bare.__init__", defArgs s_Bare_init, defBody s_Bare_init, defScope s_Bare_init, [], []⟩
def d_Missing_init : DefD := ⟨("Missing", some "__init__"), "__init__", "Missing.__init__", defArgs s_Missing_init, defBody s_Missing_init, defScope s_Missing_init, [], []⟩
def d_Twice_init : DefD := ⟨("Twice", some "__init__"), "__init__", "Twice.__init__", defArgs s_Twice_init, defBody s_Twice_init, defScope s_Twice_init, [], []⟩
def d_Held_init : DefD := ⟨("Held", some "__init__"), "__init__", "Held.__init__", defArgs s_Held_init, defBody s_Held_init, defScope s_Held_init, [], []⟩
def d_is_written : DefD := ⟨("is_written", none), "is_written", "is_written", defArgs s_is_written, defBody s_is_written, defScope s_is_written, [], []⟩
def d_is_word : DefD := ⟨("is_word", none), "is_word", "is_word", defArgs s_is_word, defBody s_is_word, defScope s_is_word, [], []⟩
def d_is_whole : DefD := ⟨("is_whole", none), "is_whole", "is_whole", defArgs s_is_whole, defBody s_is_whole, defScope s_is_whole, [], []⟩
def d_is_key : DefD := ⟨("is_key", none), "is_key", "is_key", defArgs s_is_key, defBody s_is_key, defScope s_is_key, [], []⟩
def d_is_text : DefD := ⟨("is_text", none), "is_text", "is_text", defArgs s_is_text, defBody s_is_text, defScope s_is_text, [], []⟩
def d_is_truth : DefD := ⟨("is_truth", none), "is_truth", "is_truth", defArgs s_is_truth, defBody s_is_truth, defScope s_is_truth, [], []⟩
def d_is_link : DefD := ⟨("is_link", none), "is_link", "is_link", defArgs s_is_link, defBody s_is_link, defScope s_is_link, [], []⟩
def d_of_kind : DefD := ⟨("of_kind", none), "of_kind", "of_kind", defArgs s_of_kind, defBody s_of_kind, defScope s_of_kind, [], []⟩
def d_column_amiss : DefD := ⟨("column_amiss", none), "column_amiss", "column_amiss", defArgs s_column_amiss, defBody s_column_amiss, defScope s_column_amiss, [], []⟩
def d_Column_init : DefD := ⟨("Column", some "__init__"), "__init__", "Column.__init__", defArgs s_Column_init, defBody s_Column_init, defScope s_Column_init, [], [("kind", .str "whole"), ("empty", .bl false), ("once", .bl false), ("to", .non), ("gone", .str "bar")]⟩
def d_form_amiss : DefD := ⟨("form_amiss", none), "form_amiss", "form_amiss", defArgs s_form_amiss, defBody s_form_amiss, defScope s_form_amiss, [], []⟩
def d_schema_amiss : DefD := ⟨("schema_amiss", none), "schema_amiss", "schema_amiss", defArgs s_schema_amiss, defBody s_schema_amiss, defScope s_schema_amiss, [], []⟩
def d_Schema_init : DefD := ⟨("Schema", some "__init__"), "__init__", "Schema.__init__", defArgs s_Schema_init, defBody s_Schema_init, defScope s_Schema_init, [], []⟩
def d_Schema_words : DefD := ⟨("Schema", some "words"), "words", "Schema.words", defArgs s_Schema_words, defBody s_Schema_words, defScope s_Schema_words, [], []⟩
def d_Schema_columns : DefD := ⟨("Schema", some "columns"), "columns", "Schema.columns", defArgs s_Schema_columns, defBody s_Schema_columns, defScope s_Schema_columns, [], []⟩
def d_Schema_told : DefD := ⟨("Schema", some "told"), "told", "Schema.told", defArgs s_Schema_told, defBody s_Schema_told, defScope s_Schema_told, [], []⟩
def d_copied : DefD := ⟨("copied", none), "copied", "copied", defArgs s_copied, defBody s_copied, defScope s_copied, [], []⟩
def d_places : DefD := ⟨("places", none), "places", "places", defArgs s_places, defBody s_places, defScope s_places, [], []⟩
def d_links_of : DefD := ⟨("links_of", none), "links_of", "links_of", defArgs s_links_of, defBody s_links_of, defScope s_links_of, [], []⟩
def d_holders : DefD := ⟨("holders", none), "holders", "holders", defArgs s_holders, defBody s_holders, defScope s_holders, [], []⟩
def d_is_bare : DefD := ⟨("is_bare", none), "is_bare", "is_bare", defArgs s_is_bare, defBody s_is_bare, defScope s_is_bare, [], []⟩
def d_is_missing : DefD := ⟨("is_missing", none), "is_missing", "is_missing", defArgs s_is_missing, defBody s_is_missing, defScope s_is_missing, [], []⟩
def d_is_twice : DefD := ⟨("is_twice", none), "is_twice", "is_twice", defArgs s_is_twice, defBody s_is_twice, defScope s_is_twice, [], []⟩
def d_pairs_of : DefD := ⟨("pairs_of", none), "pairs_of", "pairs_of", defArgs s_pairs_of, defBody s_pairs_of, defScope s_pairs_of, [], []⟩
def d_ask_pairs : DefD := ⟨("ask_pairs", none), "ask_pairs", "ask_pairs", defArgs s_ask_pairs, defBody s_ask_pairs, defScope s_ask_pairs, [], []⟩
def d_ask_key : DefD := ⟨("ask_key", none), "ask_key", "ask_key", defArgs s_ask_key, defBody s_ask_key, defScope s_ask_key, [], []⟩
def d_ask_row : DefD := ⟨("ask_row", none), "ask_row", "ask_row", defArgs s_ask_row, defBody s_ask_row, defScope s_ask_row, [], []⟩
def d_done : DefD := ⟨("done", none), "done", "done", defArgs s_done, defBody s_done, defScope s_done, [], []⟩
def d_l_fresh : DefD := ⟨("_law_fresh", none), "_law_fresh", "_law_fresh", defArgs s_l_fresh, defBody s_l_fresh, defScope s_l_fresh, [], []⟩
def d_l_fill : DefD := ⟨("_law_fill", none), "_law_fill", "_law_fill", defArgs s_l_fill, defBody s_l_fill, defScope s_l_fill, [], []⟩
def d_l_take : DefD := ⟨("_law_take", none), "_law_take", "_law_take", defArgs s_l_take, defBody s_l_take, defScope s_l_take, [], []⟩
def d_l_whole : DefD := ⟨("_law_whole", none), "_law_whole", "_law_whole", defArgs s_l_whole, defBody s_l_whole, defScope s_l_whole, [], []⟩
def d_l_words : DefD := ⟨("_law_words", none), "_law_words", "_law_words", defArgs s_l_words, defBody s_l_words, defScope s_l_words, [], []⟩
def d_l_desc : DefD := ⟨("_law_desc", none), "_law_desc", "_law_desc", defArgs s_l_desc, defBody s_l_desc, defScope s_l_desc, [], []⟩
def d_l_schema : DefD := ⟨("_law_schema", none), "_law_schema", "_law_schema", defArgs s_l_schema, defBody s_l_schema, defScope s_l_schema, [], []⟩
def d_l_fits : DefD := ⟨("_law_fits", none), "_law_fits", "_law_fits", defArgs s_l_fits, defBody s_l_fits, defScope s_l_fits, [], []⟩
def d_l_worth : DefD := ⟨("_law_worth", none), "_law_worth", "_law_worth", defArgs s_l_worth, defBody s_l_worth, defScope s_l_worth, [], []⟩
def d_l_pairs : DefD := ⟨("_law_pairs", none), "_law_pairs", "_law_pairs", defArgs s_l_pairs, defBody s_l_pairs, defScope s_l_pairs, [], []⟩
def d_l_key : DefD := ⟨("_law_key", none), "_law_key", "_law_key", defArgs s_l_key, defBody s_l_key, defScope s_l_key, [], []⟩
def d_l_filled : DefD := ⟨("_law_filled", none), "_law_filled", "_law_filled", defArgs s_l_filled, defBody s_l_filled, defScope s_l_filled, [], []⟩
def d_l_nothing : DefD := ⟨("_law_nothing", none), "_law_nothing", "_law_nothing", defArgs s_l_nothing, defBody s_l_nothing, defScope s_l_nothing, [], []⟩
def d_l_copied : DefD := ⟨("_law_copied", none), "_law_copied", "_law_copied", defArgs s_l_copied, defBody s_l_copied, defScope s_l_copied, [], []⟩
def d_l_linked : DefD := ⟨("_law_linked", none), "_law_linked", "_law_linked", defArgs s_l_linked, defBody s_l_linked, defScope s_l_linked, [], []⟩
def d_l_row_amiss : DefD := ⟨("_law_row_amiss", none), "_law_row_amiss", "_law_row_amiss", defArgs s_l_row_amiss, defBody s_l_row_amiss, defScope s_l_row_amiss, [], []⟩
def d_l_form_amiss : DefD := ⟨("_law_form_amiss", none), "_law_form_amiss", "_law_form_amiss", defArgs s_l_form_amiss, defBody s_l_form_amiss, defScope s_l_form_amiss, [], []⟩
def d_l_done : DefD := ⟨("_law_done", none), "_law_done", "_law_done", defArgs s_l_done, defBody s_l_done, defScope s_l_done, [], []⟩
def d_l_statement : DefD := ⟨("_law_statement", none), "_law_statement", "_law_statement", defArgs s_l_statement, defBody s_l_statement, defScope s_l_statement, [], []⟩
def d_l_right : DefD := ⟨("_law_right", none), "_law_right", "_law_right", defArgs s_l_right, defBody s_l_right, defScope s_l_right, [], []⟩
def d_l_told : DefD := ⟨("_law_told", none), "_law_told", "_law_told", defArgs s_l_told, defBody s_l_told, defScope s_l_told, [], []⟩
def d_l_refusal : DefD := ⟨("_law_refusal", none), "_law_refusal", "_law_refusal", defArgs s_l_refusal, defBody s_l_refusal, defScope s_l_refusal, [], []⟩
def d_l_both : DefD := ⟨("_law_both", none), "_law_both", "_law_both", defArgs s_l_both, defBody s_l_both, defScope s_l_both, [], []⟩
def d_law : DefD := ⟨("law", none), "law", "law", defArgs s_law, defBody s_law, defScope s_law, [], []⟩
def fn : List DefD := [d_NoRow_init, d_Taken_init, d_Bare_init, d_Missing_init, d_Twice_init, d_Held_init, d_is_written, d_is_word, d_is_whole, d_is_key, d_is_text, d_is_truth, d_is_link, d_of_kind, d_column_amiss, d_Column_init, d_form_amiss, d_schema_amiss, d_Schema_init, d_Schema_words, d_Schema_columns, d_Schema_told, d_copied, d_places, d_links_of, d_holders, d_is_bare, d_is_missing, d_is_twice, d_pairs_of, d_ask_pairs, d_ask_key, d_ask_row, d_done, d_l_fresh, d_l_fill, d_l_take, d_l_whole, d_l_words, d_l_desc, d_l_schema, d_l_fits, d_l_worth, d_l_pairs, d_l_key, d_l_filled, d_l_nothing, d_l_copied, d_l_linked, d_l_row_amiss, d_l_form_amiss, d_l_done, d_l_statement, d_l_right, d_l_told, d_l_refusal, d_l_both, d_law]
def fa : List Fa := [.glo "NoRow",
  .glo "Taken",
  .glo "Bare",
  .glo "Missing",
  .glo "Twice",
  .glo "Held",
  .glo "is_written",
  .glo "is_word",
  .glo "is_whole",
  .glo "is_key",
  .glo "is_text",
  .glo "is_truth",
  .glo "is_link",
  .glo "of_kind",
  .glo "column_amiss",
  .glo "Column",
  .glo "form_amiss",
  .glo "schema_amiss",
  .glo "Schema",
  .glo "copied",
  .glo "places",
  .glo "links_of",
  .glo "holders",
  .glo "is_bare",
  .glo "is_missing",
  .glo "is_twice",
  .glo "pairs_of",
  .glo "ask_pairs",
  .glo "ask_key",
  .glo "ask_row",
  .glo "done",
  .glo "_law_fresh",
  .glo "_law_fill",
  .glo "_law_take",
  .glo "_law_whole",
  .glo "_law_words",
  .glo "_law_desc",
  .glo "_law_schema",
  .glo "_law_fits",
  .glo "_law_worth",
  .glo "_law_pairs",
  .glo "_law_key",
  .glo "_law_filled",
  .glo "_law_nothing",
  .glo "_law_copied",
  .glo "_law_linked",
  .glo "_law_row_amiss",
  .glo "_law_form_amiss",
  .glo "_law_done",
  .glo "_law_statement",
  .glo "_law_right",
  .glo "_law_told",
  .glo "_law_refusal",
  .glo "_law_both",
  .glo "law",
  .glo "HoldError",
  .glo "NoTable",
  .glo "NoColumn",
  .glo "BadWorth",
  .glo "BadKey",
  .glo "KINDS",
  .glo "FITS",
  .free "isinstance",
  .free "len",
  .free "all",
  .free "any",
  .free "set",
  .free "str",
  .free "int",
  .free "bool",
  .free "list",
  .free "dict",
  .free "tuple",
  .free "sorted",
  .free "enumerate",
  .free "range",
  .free "ValueError",
  .str "BAR" "bar",
  .str "EMPTY" "empty",
  .str "ALONG" "along",
  .str "LETTERS" "abcdefghijklmnopqrstuvwxyz",
  .str "SIGNS" "abcdefghijklmnopqrstuvwxyz0123456789-",
  .int "MOST_KEY" 999999,
  .int "MOST_TABLES" 4,
  .int "MOST_COLUMNS" 5,
  .cls "Column",
  .mkr "Column",
  .noat "Column" "name",
  .noat "Column" "kind",
  .noat "Column" "empty",
  .noat "Column" "once",
  .noat "Column" "to",
  .noat "Column" "gone",
  .cls "Schema",
  .mkr "Schema",
  .noat "Schema" "forms",
  .meth "Schema" "words",
  .meth "Schema" "columns",
  .meth "Schema" "told",
  .noat "Bare" "table",
  .noat "Bare" "key",
  .noat "Bare" "column",
  .exm "Bare" "HoldError" true,
  .noat "Missing" "table",
  .noat "Missing" "key",
  .noat "Missing" "column",
  .exm "Missing" "HoldError" true,
  .noat "Twice" "table",
  .noat "Twice" "key",
  .noat "Twice" "column",
  .exm "Twice" "HoldError" true,
  .noat "Held" "table",
  .noat "Held" "key",
  .noat "Held" "column",
  .exm "Held" "HoldError" true,
  .noat "Taken" "table",
  .noat "Taken" "key",
  .exm "Taken" "HoldError" true,
  .noat "NoRow" "table",
  .noat "NoRow" "key",
  .exm "NoRow" "HoldError" true]
def ts : List Tab := [(fun K => ga K "FITS", ["whole", "text", "truth", "link"])]
def xs : List (Fr → Bool) := [tupA "KINDS" [.str "whole", .str "text", .str "truth", .str "link"],
  valsA "FITS" [("whole", .glo "is_whole"), ("text", .glo "is_text"), ("truth", .glo "is_truth"), ("link", .glo "is_link")],
  oexA "Bare",
  xfA "Bare",
  excA "Bare",
  initA "Bare",
  kitA "Bare" [("Bare", true), ("Missing", false), ("Twice", false), ("Held", false), ("NoColumn", false), ("BadWorth", false), ("Taken", false), ("NoRow", false), ("NoTable", false), ("BadKey", false)],
  oexA "Missing",
  xfA "Missing",
  excA "Missing",
  initA "Missing",
  kitA "Missing" [("Bare", false), ("Missing", true), ("Twice", false), ("Held", false), ("NoColumn", false), ("BadWorth", false), ("Taken", false), ("NoRow", false), ("NoTable", false), ("BadKey", false)],
  oexA "Twice",
  xfA "Twice",
  excA "Twice",
  initA "Twice",
  kitA "Twice" [("Bare", false), ("Missing", false), ("Twice", true), ("Held", false), ("NoColumn", false), ("BadWorth", false), ("Taken", false), ("NoRow", false), ("NoTable", false), ("BadKey", false)],
  oexA "Held",
  xfA "Held",
  excA "Held",
  initA "Held",
  kitA "Held" [("Bare", false), ("Missing", false), ("Twice", false), ("Held", true), ("NoColumn", false), ("BadWorth", false), ("Taken", false), ("NoRow", false), ("NoTable", false), ("BadKey", false)],
  oexA "Taken",
  xfA "Taken",
  excA "Taken",
  initA "Taken",
  kitA "Taken" [("Bare", false), ("Missing", false), ("Twice", false), ("Held", false), ("NoColumn", false), ("BadWorth", false), ("Taken", true), ("NoRow", false), ("NoTable", false), ("BadKey", false)],
  oexA "NoRow",
  xfA "NoRow",
  excA "NoRow",
  initA "NoRow",
  kitA "NoRow" [("Bare", false), ("Missing", false), ("Twice", false), ("Held", false), ("NoColumn", false), ("BadWorth", false), ("Taken", false), ("NoRow", true), ("NoTable", false), ("BadKey", false)]]
end K16

/-! K16Head: the top's run, printed by wip/gen_run.py -/
namespace K16
open PySem PySem.Spec PyProof.Rows L2 He
abbrev R : PySem.W.OpenRow := PySem.W.OpenLaw.row PySem.Challenge.rw_rowhold_k16_whole_statements_in_either_o
def names0 : List Str := ["HoldError", "BadColumn", "BadSchema", "NoTable", "NoColumn", "BadWorth", "BadKey", "NoRow", "Taken", "Bare", "Missing", "Twice", "Held", "KINDS", "BAR", "EMPTY", "ALONG", "LETTERS", "SIGNS", "MOST_KEY", "MOST_TABLES", "MOST_COLUMNS", "is_written", "is_word", "is_whole", "is_key", "is_text", "is_truth", "is_link", "FITS"]
def names1 : List Str := ["of_kind", "column_amiss", "Column", "column_words", "form_amiss", "schema_amiss", "table_text", "Schema", "copied", "places", "links_of", "holders", "is_bare", "is_missing", "is_twice", "pairs_of", "ask_pairs", "ask_key", "ask_row", "done", "_law_fresh", "_law_fill", "_law_take", "_law_whole", "_law_words", "_law_desc", "_law_schema", "_law_fits", "_law_worth", "_law_pairs"]
def names2 : List Str := ["_law_key", "_law_filled", "_law_nothing", "_law_copied", "_law_linked", "_law_row_amiss", "_law_form_amiss", "_law_done", "_law_statement", "_law_right", "_law_told", "_law_refusal", "_law_both"]
def names : List Str := names0 ++ names1 ++ names2
abbrev hk : PySem.W.Hook := hookX 5 fa fn ts xs
def ob (s : PySem.W.SharedT) : AlX := obsXG 5 fa fn ts xs (HandSHeadRun.getT s)
theorem ob_eq (s : PySem.W.SharedT) : ob s = hk.obs s.abs := obsXG_eq (HandSHeadRun.getT_eq s)
theorem run0 (w : World) : HandSHeadRun.RunEq R (PySem.W.view R.prog [78]) hk ob 12000 names (w.withFollow "special-get-raises" false) := by
  intro os
  kernel_rfl
theorem run1 (w : World) : HandSHeadRun.RunEq R (PySem.W.view R.prog [78]) hk ob 12000 names (w.withFollow "special-get-raises" true) := by
  intro os
  kernel_rfl
theorem run (w : World) : HandSHeadRun.RunEq R (PySem.W.view R.prog [78]) hk ob 12000 names w :=
  PySem.W.byRow2 "special-get-raises" (P := fun w => HandSHeadRun.RunEq R (PySem.W.view R.prog [78]) hk ob 12000 names w) run0 run1 w
end K16

/-! K16Txt: the facts of the top by name, printed by wip/gen_txt.py -/
namespace K16
open PySem PySem.Spec PyProof.Rows L2 He
structure Txt (K : Fr) (mg : Str → Option Value) (w : World) : Prop where
  g_NoRow : mg "NoRow" = some (.ref (ga K "NoRow"))
  g_Taken : mg "Taken" = some (.ref (ga K "Taken"))
  g_Bare : mg "Bare" = some (.ref (ga K "Bare"))
  g_Missing : mg "Missing" = some (.ref (ga K "Missing"))
  g_Twice : mg "Twice" = some (.ref (ga K "Twice"))
  g_Held : mg "Held" = some (.ref (ga K "Held"))
  g_is_written : mg "is_written" = some (.ref (ga K "is_written"))
  g_is_word : mg "is_word" = some (.ref (ga K "is_word"))
  g_is_whole : mg "is_whole" = some (.ref (ga K "is_whole"))
  g_is_key : mg "is_key" = some (.ref (ga K "is_key"))
  g_is_text : mg "is_text" = some (.ref (ga K "is_text"))
  g_is_truth : mg "is_truth" = some (.ref (ga K "is_truth"))
  g_is_link : mg "is_link" = some (.ref (ga K "is_link"))
  g_of_kind : mg "of_kind" = some (.ref (ga K "of_kind"))
  g_column_amiss : mg "column_amiss" = some (.ref (ga K "column_amiss"))
  g_Column : mg "Column" = some (.ref (ga K "Column"))
  g_form_amiss : mg "form_amiss" = some (.ref (ga K "form_amiss"))
  g_schema_amiss : mg "schema_amiss" = some (.ref (ga K "schema_amiss"))
  g_Schema : mg "Schema" = some (.ref (ga K "Schema"))
  g_copied : mg "copied" = some (.ref (ga K "copied"))
  g_places : mg "places" = some (.ref (ga K "places"))
  g_links_of : mg "links_of" = some (.ref (ga K "links_of"))
  g_holders : mg "holders" = some (.ref (ga K "holders"))
  g_is_bare : mg "is_bare" = some (.ref (ga K "is_bare"))
  g_is_missing : mg "is_missing" = some (.ref (ga K "is_missing"))
  g_is_twice : mg "is_twice" = some (.ref (ga K "is_twice"))
  g_pairs_of : mg "pairs_of" = some (.ref (ga K "pairs_of"))
  g_ask_pairs : mg "ask_pairs" = some (.ref (ga K "ask_pairs"))
  g_ask_key : mg "ask_key" = some (.ref (ga K "ask_key"))
  g_ask_row : mg "ask_row" = some (.ref (ga K "ask_row"))
  g_done : mg "done" = some (.ref (ga K "done"))
  g__law_fresh : mg "_law_fresh" = some (.ref (ga K "_law_fresh"))
  g__law_fill : mg "_law_fill" = some (.ref (ga K "_law_fill"))
  g__law_take : mg "_law_take" = some (.ref (ga K "_law_take"))
  g__law_whole : mg "_law_whole" = some (.ref (ga K "_law_whole"))
  g__law_words : mg "_law_words" = some (.ref (ga K "_law_words"))
  g__law_desc : mg "_law_desc" = some (.ref (ga K "_law_desc"))
  g__law_schema : mg "_law_schema" = some (.ref (ga K "_law_schema"))
  g__law_fits : mg "_law_fits" = some (.ref (ga K "_law_fits"))
  g__law_worth : mg "_law_worth" = some (.ref (ga K "_law_worth"))
  g__law_pairs : mg "_law_pairs" = some (.ref (ga K "_law_pairs"))
  g__law_key : mg "_law_key" = some (.ref (ga K "_law_key"))
  g__law_filled : mg "_law_filled" = some (.ref (ga K "_law_filled"))
  g__law_nothing : mg "_law_nothing" = some (.ref (ga K "_law_nothing"))
  g__law_copied : mg "_law_copied" = some (.ref (ga K "_law_copied"))
  g__law_linked : mg "_law_linked" = some (.ref (ga K "_law_linked"))
  g__law_row_amiss : mg "_law_row_amiss" = some (.ref (ga K "_law_row_amiss"))
  g__law_form_amiss : mg "_law_form_amiss" = some (.ref (ga K "_law_form_amiss"))
  g__law_done : mg "_law_done" = some (.ref (ga K "_law_done"))
  g__law_statement : mg "_law_statement" = some (.ref (ga K "_law_statement"))
  g__law_right : mg "_law_right" = some (.ref (ga K "_law_right"))
  g__law_told : mg "_law_told" = some (.ref (ga K "_law_told"))
  g__law_refusal : mg "_law_refusal" = some (.ref (ga K "_law_refusal"))
  g__law_both : mg "_law_both" = some (.ref (ga K "_law_both"))
  g_law : mg "law" = some (.ref (ga K "law"))
  g_HoldError : mg "HoldError" = some (.ref (ga K "HoldError"))
  g_NoTable : mg "NoTable" = some (.ref (ga K "NoTable"))
  g_NoColumn : mg "NoColumn" = some (.ref (ga K "NoColumn"))
  g_BadWorth : mg "BadWorth" = some (.ref (ga K "BadWorth"))
  g_BadKey : mg "BadKey" = some (.ref (ga K "BadKey"))
  g_KINDS : mg "KINDS" = some (.ref (ga K "KINDS"))
  g_FITS : mg "FITS" = some (.ref (ga K "FITS"))
  z_isinstance : mg "isinstance" = none
  z_len : mg "len" = none
  z_all : mg "all" = none
  z_any : mg "any" = none
  z_set : mg "set" = none
  z_str : mg "str" = none
  z_int : mg "int" = none
  z_bool : mg "bool" = none
  z_list : mg "list" = none
  z_dict : mg "dict" = none
  z_tuple : mg "tuple" = none
  z_sorted : mg "sorted" = none
  z_enumerate : mg "enumerate" = none
  z_range : mg "range" = none
  z_ValueError : mg "ValueError" = none
  s_BAR : ∃ t, mg "BAR" = some (.str "bar" t)
  s_EMPTY : ∃ t, mg "EMPTY" = some (.str "empty" t)
  s_ALONG : ∃ t, mg "ALONG" = some (.str "along" t)
  s_LETTERS : ∃ t, mg "LETTERS" = some (.str "abcdefghijklmnopqrstuvwxyz" t)
  s_SIGNS : ∃ t, mg "SIGNS" = some (.str "abcdefghijklmnopqrstuvwxyz0123456789-" t)
  i_MOST_KEY : ∃ t, mg "MOST_KEY" = some (.int 999999 t)
  i_MOST_TABLES : ∃ t, mg "MOST_TABLES" = some (.int 4 t)
  i_MOST_COLUMNS : ∃ t, mg "MOST_COLUMNS" = some (.int 5 t)
  c_Column : Cls K (ga K "Column")
  m_Column : Mk K (ga K "Column") (ma K (ga K "Column") "__init__")
  n_Column_name : NoAttr K (ga K "Column") "name"
  n_Column_kind : NoAttr K (ga K "Column") "kind"
  n_Column_empty : NoAttr K (ga K "Column") "empty"
  n_Column_once : NoAttr K (ga K "Column") "once"
  n_Column_to : NoAttr K (ga K "Column") "to"
  n_Column_gone : NoAttr K (ga K "Column") "gone"
  c_Schema : Cls K (ga K "Schema")
  m_Schema : Mk K (ga K "Schema") (ma K (ga K "Schema") "__init__")
  n_Schema_forms : NoAttr K (ga K "Schema") "forms"
  h_Schema_words : Meth K (ga K "Schema") "words" (ma K (ga K "Schema") "words")
  h_Schema_columns : Meth K (ga K "Schema") "columns" (ma K (ga K "Schema") "columns")
  h_Schema_told : Meth K (ga K "Schema") "told" (ma K (ga K "Schema") "told")
  n_Bare_table : NoAttr K (ga K "Bare") "table"
  n_Bare_key : NoAttr K (ga K "Bare") "key"
  n_Bare_column : NoAttr K (ga K "Bare") "column"
  e_Bare : PySem.W.exmOne K (.ref (ga K "Bare")) (.ref (ga K "HoldError")) = some true
  n_Missing_table : NoAttr K (ga K "Missing") "table"
  n_Missing_key : NoAttr K (ga K "Missing") "key"
  n_Missing_column : NoAttr K (ga K "Missing") "column"
  e_Missing : PySem.W.exmOne K (.ref (ga K "Missing")) (.ref (ga K "HoldError")) = some true
  n_Twice_table : NoAttr K (ga K "Twice") "table"
  n_Twice_key : NoAttr K (ga K "Twice") "key"
  n_Twice_column : NoAttr K (ga K "Twice") "column"
  e_Twice : PySem.W.exmOne K (.ref (ga K "Twice")) (.ref (ga K "HoldError")) = some true
  n_Held_table : NoAttr K (ga K "Held") "table"
  n_Held_key : NoAttr K (ga K "Held") "key"
  n_Held_column : NoAttr K (ga K "Held") "column"
  e_Held : PySem.W.exmOne K (.ref (ga K "Held")) (.ref (ga K "HoldError")) = some true
  n_Taken_table : NoAttr K (ga K "Taken") "table"
  n_Taken_key : NoAttr K (ga K "Taken") "key"
  e_Taken : PySem.W.exmOne K (.ref (ga K "Taken")) (.ref (ga K "HoldError")) = some true
  n_NoRow_table : NoAttr K (ga K "NoRow") "table"
  n_NoRow_key : NoAttr K (ga K "NoRow") "key"
  e_NoRow : PySem.W.exmOne K (.ref (ga K "NoRow")) (.ref (ga K "HoldError")) = some true
  t_KINDS : ∀ H : Hp, SqT K H (ga K "KINDS") [.str "whole", .str "text", .str "truth", .str "link"]
  f_whole : KDct K w (ga K "FITS") "whole" (.ref (ga K "is_whole"))
  f_text : KDct K w (ga K "FITS") "text" (.ref (ga K "is_text"))
  f_truth : KDct K w (ga K "FITS") "truth" (.ref (ga K "is_truth"))
  f_link : KDct K w (ga K "FITS") "link" (.ref (ga K "is_link"))
  o_Bare : OexC K (ga K "Bare")
  x_Bare : XfC K (ga K "Bare")
  k_Bare : ExcC K (ga K "Bare")
  j_Bare : PySem.W.findIn K (.ref (ga K "Bare")) "__init__" = some (some (.ref (ma K (ga K "Bare") "__init__"))) ∧ PySem.W.typeIn K (.ref (ma K (ga K "Bare") "__init__")) = some (.type "function")
  q_Bare : (∀ y ∈ ([("Bare", true), ("Missing", false), ("Twice", false), ("Held", false), ("NoColumn", false), ("BadWorth", false), ("Taken", false), ("NoRow", false), ("NoTable", false), ("BadKey", false)] : List (Str × Bool)), PySem.W.kitOne K (.ref (ga K "Bare")) (.ref (ga K y.1)) = some y.2) ∧ PySem.W.kitOne K (.ref (ga K "Bare")) (.type "ValueError") = some true
  o_Missing : OexC K (ga K "Missing")
  x_Missing : XfC K (ga K "Missing")
  k_Missing : ExcC K (ga K "Missing")
  j_Missing : PySem.W.findIn K (.ref (ga K "Missing")) "__init__" = some (some (.ref (ma K (ga K "Missing") "__init__"))) ∧ PySem.W.typeIn K (.ref (ma K (ga K "Missing") "__init__")) = some (.type "function")
  q_Missing : (∀ y ∈ ([("Bare", false), ("Missing", true), ("Twice", false), ("Held", false), ("NoColumn", false), ("BadWorth", false), ("Taken", false), ("NoRow", false), ("NoTable", false), ("BadKey", false)] : List (Str × Bool)), PySem.W.kitOne K (.ref (ga K "Missing")) (.ref (ga K y.1)) = some y.2) ∧ PySem.W.kitOne K (.ref (ga K "Missing")) (.type "ValueError") = some true
  o_Twice : OexC K (ga K "Twice")
  x_Twice : XfC K (ga K "Twice")
  k_Twice : ExcC K (ga K "Twice")
  j_Twice : PySem.W.findIn K (.ref (ga K "Twice")) "__init__" = some (some (.ref (ma K (ga K "Twice") "__init__"))) ∧ PySem.W.typeIn K (.ref (ma K (ga K "Twice") "__init__")) = some (.type "function")
  q_Twice : (∀ y ∈ ([("Bare", false), ("Missing", false), ("Twice", true), ("Held", false), ("NoColumn", false), ("BadWorth", false), ("Taken", false), ("NoRow", false), ("NoTable", false), ("BadKey", false)] : List (Str × Bool)), PySem.W.kitOne K (.ref (ga K "Twice")) (.ref (ga K y.1)) = some y.2) ∧ PySem.W.kitOne K (.ref (ga K "Twice")) (.type "ValueError") = some true
  o_Held : OexC K (ga K "Held")
  x_Held : XfC K (ga K "Held")
  k_Held : ExcC K (ga K "Held")
  j_Held : PySem.W.findIn K (.ref (ga K "Held")) "__init__" = some (some (.ref (ma K (ga K "Held") "__init__"))) ∧ PySem.W.typeIn K (.ref (ma K (ga K "Held") "__init__")) = some (.type "function")
  q_Held : (∀ y ∈ ([("Bare", false), ("Missing", false), ("Twice", false), ("Held", true), ("NoColumn", false), ("BadWorth", false), ("Taken", false), ("NoRow", false), ("NoTable", false), ("BadKey", false)] : List (Str × Bool)), PySem.W.kitOne K (.ref (ga K "Held")) (.ref (ga K y.1)) = some y.2) ∧ PySem.W.kitOne K (.ref (ga K "Held")) (.type "ValueError") = some true
  o_Taken : OexC K (ga K "Taken")
  x_Taken : XfC K (ga K "Taken")
  k_Taken : ExcC K (ga K "Taken")
  j_Taken : PySem.W.findIn K (.ref (ga K "Taken")) "__init__" = some (some (.ref (ma K (ga K "Taken") "__init__"))) ∧ PySem.W.typeIn K (.ref (ma K (ga K "Taken") "__init__")) = some (.type "function")
  q_Taken : (∀ y ∈ ([("Bare", false), ("Missing", false), ("Twice", false), ("Held", false), ("NoColumn", false), ("BadWorth", false), ("Taken", true), ("NoRow", false), ("NoTable", false), ("BadKey", false)] : List (Str × Bool)), PySem.W.kitOne K (.ref (ga K "Taken")) (.ref (ga K y.1)) = some y.2) ∧ PySem.W.kitOne K (.ref (ga K "Taken")) (.type "ValueError") = some true
  o_NoRow : OexC K (ga K "NoRow")
  x_NoRow : XfC K (ga K "NoRow")
  k_NoRow : ExcC K (ga K "NoRow")
  j_NoRow : PySem.W.findIn K (.ref (ga K "NoRow")) "__init__" = some (some (.ref (ma K (ga K "NoRow") "__init__"))) ∧ PySem.W.typeIn K (.ref (ma K (ga K "NoRow") "__init__")) = some (.type "function")
  q_NoRow : (∀ y ∈ ([("Bare", false), ("Missing", false), ("Twice", false), ("Held", false), ("NoColumn", false), ("BadWorth", false), ("Taken", false), ("NoRow", true), ("NoTable", false), ("BadKey", false)] : List (Str × Bool)), PySem.W.kitOne K (.ref (ga K "NoRow")) (.ref (ga K y.1)) = some y.2) ∧ PySem.W.kitOne K (.ref (ga K "NoRow")) (.type "ValueError") = some true
theorem kdct_of {K : Fr} {w : World} {a : Addr} {kvs : List (Str × Dv)} (h : ∃ es n, KDict K w a es n) (v : valsB K a kvs = true) {q : Str × Dv} (hq : q ∈ kvs) : KDct K w a q.1 (q.2.v K) := by
  obtain ⟨es, n, D⟩ := h
  obtain ⟨u, e, r⟩ := valsB_ok v hq
  exact ⟨es, n, u, D.at_, D.lit, e, r⟩
section
variable {K : Fr} {mg : Str → Option Value} {w : World} {h : Heap}
theorem txt_of (X : K.In h) (G : h.Ns mainGlobals mg) (c : SaysX fa fn ts xs w K) : Txt K mg w where
  g_NoRow := glo_ok X G (c.fact (List.mem_of_getElem? (i := 0) rfl))
  g_Taken := glo_ok X G (c.fact (List.mem_of_getElem? (i := 1) rfl))
  g_Bare := glo_ok X G (c.fact (List.mem_of_getElem? (i := 2) rfl))
  g_Missing := glo_ok X G (c.fact (List.mem_of_getElem? (i := 3) rfl))
  g_Twice := glo_ok X G (c.fact (List.mem_of_getElem? (i := 4) rfl))
  g_Held := glo_ok X G (c.fact (List.mem_of_getElem? (i := 5) rfl))
  g_is_written := glo_ok X G (c.fact (List.mem_of_getElem? (i := 6) rfl))
  g_is_word := glo_ok X G (c.fact (List.mem_of_getElem? (i := 7) rfl))
  g_is_whole := glo_ok X G (c.fact (List.mem_of_getElem? (i := 8) rfl))
  g_is_key := glo_ok X G (c.fact (List.mem_of_getElem? (i := 9) rfl))
  g_is_text := glo_ok X G (c.fact (List.mem_of_getElem? (i := 10) rfl))
  g_is_truth := glo_ok X G (c.fact (List.mem_of_getElem? (i := 11) rfl))
  g_is_link := glo_ok X G (c.fact (List.mem_of_getElem? (i := 12) rfl))
  g_of_kind := glo_ok X G (c.fact (List.mem_of_getElem? (i := 13) rfl))
  g_column_amiss := glo_ok X G (c.fact (List.mem_of_getElem? (i := 14) rfl))
  g_Column := glo_ok X G (c.fact (List.mem_of_getElem? (i := 15) rfl))
  g_form_amiss := glo_ok X G (c.fact (List.mem_of_getElem? (i := 16) rfl))
  g_schema_amiss := glo_ok X G (c.fact (List.mem_of_getElem? (i := 17) rfl))
  g_Schema := glo_ok X G (c.fact (List.mem_of_getElem? (i := 18) rfl))
  g_copied := glo_ok X G (c.fact (List.mem_of_getElem? (i := 19) rfl))
  g_places := glo_ok X G (c.fact (List.mem_of_getElem? (i := 20) rfl))
  g_links_of := glo_ok X G (c.fact (List.mem_of_getElem? (i := 21) rfl))
  g_holders := glo_ok X G (c.fact (List.mem_of_getElem? (i := 22) rfl))
  g_is_bare := glo_ok X G (c.fact (List.mem_of_getElem? (i := 23) rfl))
  g_is_missing := glo_ok X G (c.fact (List.mem_of_getElem? (i := 24) rfl))
  g_is_twice := glo_ok X G (c.fact (List.mem_of_getElem? (i := 25) rfl))
  g_pairs_of := glo_ok X G (c.fact (List.mem_of_getElem? (i := 26) rfl))
  g_ask_pairs := glo_ok X G (c.fact (List.mem_of_getElem? (i := 27) rfl))
  g_ask_key := glo_ok X G (c.fact (List.mem_of_getElem? (i := 28) rfl))
  g_ask_row := glo_ok X G (c.fact (List.mem_of_getElem? (i := 29) rfl))
  g_done := glo_ok X G (c.fact (List.mem_of_getElem? (i := 30) rfl))
  g__law_fresh := glo_ok X G (c.fact (List.mem_of_getElem? (i := 31) rfl))
  g__law_fill := glo_ok X G (c.fact (List.mem_of_getElem? (i := 32) rfl))
  g__law_take := glo_ok X G (c.fact (List.mem_of_getElem? (i := 33) rfl))
  g__law_whole := glo_ok X G (c.fact (List.mem_of_getElem? (i := 34) rfl))
  g__law_words := glo_ok X G (c.fact (List.mem_of_getElem? (i := 35) rfl))
  g__law_desc := glo_ok X G (c.fact (List.mem_of_getElem? (i := 36) rfl))
  g__law_schema := glo_ok X G (c.fact (List.mem_of_getElem? (i := 37) rfl))
  g__law_fits := glo_ok X G (c.fact (List.mem_of_getElem? (i := 38) rfl))
  g__law_worth := glo_ok X G (c.fact (List.mem_of_getElem? (i := 39) rfl))
  g__law_pairs := glo_ok X G (c.fact (List.mem_of_getElem? (i := 40) rfl))
  g__law_key := glo_ok X G (c.fact (List.mem_of_getElem? (i := 41) rfl))
  g__law_filled := glo_ok X G (c.fact (List.mem_of_getElem? (i := 42) rfl))
  g__law_nothing := glo_ok X G (c.fact (List.mem_of_getElem? (i := 43) rfl))
  g__law_copied := glo_ok X G (c.fact (List.mem_of_getElem? (i := 44) rfl))
  g__law_linked := glo_ok X G (c.fact (List.mem_of_getElem? (i := 45) rfl))
  g__law_row_amiss := glo_ok X G (c.fact (List.mem_of_getElem? (i := 46) rfl))
  g__law_form_amiss := glo_ok X G (c.fact (List.mem_of_getElem? (i := 47) rfl))
  g__law_done := glo_ok X G (c.fact (List.mem_of_getElem? (i := 48) rfl))
  g__law_statement := glo_ok X G (c.fact (List.mem_of_getElem? (i := 49) rfl))
  g__law_right := glo_ok X G (c.fact (List.mem_of_getElem? (i := 50) rfl))
  g__law_told := glo_ok X G (c.fact (List.mem_of_getElem? (i := 51) rfl))
  g__law_refusal := glo_ok X G (c.fact (List.mem_of_getElem? (i := 52) rfl))
  g__law_both := glo_ok X G (c.fact (List.mem_of_getElem? (i := 53) rfl))
  g_law := glo_ok X G (c.fact (List.mem_of_getElem? (i := 54) rfl))
  g_HoldError := glo_ok X G (c.fact (List.mem_of_getElem? (i := 55) rfl))
  g_NoTable := glo_ok X G (c.fact (List.mem_of_getElem? (i := 56) rfl))
  g_NoColumn := glo_ok X G (c.fact (List.mem_of_getElem? (i := 57) rfl))
  g_BadWorth := glo_ok X G (c.fact (List.mem_of_getElem? (i := 58) rfl))
  g_BadKey := glo_ok X G (c.fact (List.mem_of_getElem? (i := 59) rfl))
  g_KINDS := glo_ok X G (c.fact (List.mem_of_getElem? (i := 60) rfl))
  g_FITS := glo_ok X G (c.fact (List.mem_of_getElem? (i := 61) rfl))
  z_isinstance := free_ok X G (c.fact (List.mem_of_getElem? (i := 62) rfl))
  z_len := free_ok X G (c.fact (List.mem_of_getElem? (i := 63) rfl))
  z_all := free_ok X G (c.fact (List.mem_of_getElem? (i := 64) rfl))
  z_any := free_ok X G (c.fact (List.mem_of_getElem? (i := 65) rfl))
  z_set := free_ok X G (c.fact (List.mem_of_getElem? (i := 66) rfl))
  z_str := free_ok X G (c.fact (List.mem_of_getElem? (i := 67) rfl))
  z_int := free_ok X G (c.fact (List.mem_of_getElem? (i := 68) rfl))
  z_bool := free_ok X G (c.fact (List.mem_of_getElem? (i := 69) rfl))
  z_list := free_ok X G (c.fact (List.mem_of_getElem? (i := 70) rfl))
  z_dict := free_ok X G (c.fact (List.mem_of_getElem? (i := 71) rfl))
  z_tuple := free_ok X G (c.fact (List.mem_of_getElem? (i := 72) rfl))
  z_sorted := free_ok X G (c.fact (List.mem_of_getElem? (i := 73) rfl))
  z_enumerate := free_ok X G (c.fact (List.mem_of_getElem? (i := 74) rfl))
  z_range := free_ok X G (c.fact (List.mem_of_getElem? (i := 75) rfl))
  z_ValueError := free_ok X G (c.fact (List.mem_of_getElem? (i := 76) rfl))
  s_BAR := str_ok X G (c.fact (List.mem_of_getElem? (i := 77) rfl))
  s_EMPTY := str_ok X G (c.fact (List.mem_of_getElem? (i := 78) rfl))
  s_ALONG := str_ok X G (c.fact (List.mem_of_getElem? (i := 79) rfl))
  s_LETTERS := str_ok X G (c.fact (List.mem_of_getElem? (i := 80) rfl))
  s_SIGNS := str_ok X G (c.fact (List.mem_of_getElem? (i := 81) rfl))
  i_MOST_KEY := int_ok X G (c.fact (List.mem_of_getElem? (i := 82) rfl))
  i_MOST_TABLES := int_ok X G (c.fact (List.mem_of_getElem? (i := 83) rfl))
  i_MOST_COLUMNS := int_ok X G (c.fact (List.mem_of_getElem? (i := 84) rfl))
  c_Column := cls_ok (c.fact (List.mem_of_getElem? (i := 85) rfl))
  m_Column := mkr_ok (c.fact (List.mem_of_getElem? (i := 86) rfl))
  n_Column_name := noat_ok (c.fact (List.mem_of_getElem? (i := 87) rfl))
  n_Column_kind := noat_ok (c.fact (List.mem_of_getElem? (i := 88) rfl))
  n_Column_empty := noat_ok (c.fact (List.mem_of_getElem? (i := 89) rfl))
  n_Column_once := noat_ok (c.fact (List.mem_of_getElem? (i := 90) rfl))
  n_Column_to := noat_ok (c.fact (List.mem_of_getElem? (i := 91) rfl))
  n_Column_gone := noat_ok (c.fact (List.mem_of_getElem? (i := 92) rfl))
  c_Schema := cls_ok (c.fact (List.mem_of_getElem? (i := 93) rfl))
  m_Schema := mkr_ok (c.fact (List.mem_of_getElem? (i := 94) rfl))
  n_Schema_forms := noat_ok (c.fact (List.mem_of_getElem? (i := 95) rfl))
  h_Schema_words := meth_ok (c.fact (List.mem_of_getElem? (i := 96) rfl))
  h_Schema_columns := meth_ok (c.fact (List.mem_of_getElem? (i := 97) rfl))
  h_Schema_told := meth_ok (c.fact (List.mem_of_getElem? (i := 98) rfl))
  n_Bare_table := noat_ok (c.fact (List.mem_of_getElem? (i := 99) rfl))
  n_Bare_key := noat_ok (c.fact (List.mem_of_getElem? (i := 100) rfl))
  n_Bare_column := noat_ok (c.fact (List.mem_of_getElem? (i := 101) rfl))
  e_Bare := exm_ok (c.fact (List.mem_of_getElem? (i := 102) rfl))
  n_Missing_table := noat_ok (c.fact (List.mem_of_getElem? (i := 103) rfl))
  n_Missing_key := noat_ok (c.fact (List.mem_of_getElem? (i := 104) rfl))
  n_Missing_column := noat_ok (c.fact (List.mem_of_getElem? (i := 105) rfl))
  e_Missing := exm_ok (c.fact (List.mem_of_getElem? (i := 106) rfl))
  n_Twice_table := noat_ok (c.fact (List.mem_of_getElem? (i := 107) rfl))
  n_Twice_key := noat_ok (c.fact (List.mem_of_getElem? (i := 108) rfl))
  n_Twice_column := noat_ok (c.fact (List.mem_of_getElem? (i := 109) rfl))
  e_Twice := exm_ok (c.fact (List.mem_of_getElem? (i := 110) rfl))
  n_Held_table := noat_ok (c.fact (List.mem_of_getElem? (i := 111) rfl))
  n_Held_key := noat_ok (c.fact (List.mem_of_getElem? (i := 112) rfl))
  n_Held_column := noat_ok (c.fact (List.mem_of_getElem? (i := 113) rfl))
  e_Held := exm_ok (c.fact (List.mem_of_getElem? (i := 114) rfl))
  n_Taken_table := noat_ok (c.fact (List.mem_of_getElem? (i := 115) rfl))
  n_Taken_key := noat_ok (c.fact (List.mem_of_getElem? (i := 116) rfl))
  e_Taken := exm_ok (c.fact (List.mem_of_getElem? (i := 117) rfl))
  n_NoRow_table := noat_ok (c.fact (List.mem_of_getElem? (i := 118) rfl))
  n_NoRow_key := noat_ok (c.fact (List.mem_of_getElem? (i := 119) rfl))
  e_NoRow := exm_ok (c.fact (List.mem_of_getElem? (i := 120) rfl))
  t_KINDS := fun H => tupB_ok (c.x 0 rfl) H
  f_whole := kdct_of (c.tab 0 rfl) (c.x 1 rfl) (q := ("whole", .glo "is_whole")) (by simp)
  f_text := kdct_of (c.tab 0 rfl) (c.x 1 rfl) (q := ("text", .glo "is_text")) (by simp)
  f_truth := kdct_of (c.tab 0 rfl) (c.x 1 rfl) (q := ("truth", .glo "is_truth")) (by simp)
  f_link := kdct_of (c.tab 0 rfl) (c.x 1 rfl) (q := ("link", .glo "is_link")) (by simp)
  o_Bare := oexA_ok (c.x 2 rfl)
  x_Bare := xfA_ok (c.x 3 rfl)
  k_Bare := excA_ok (c.x 4 rfl) (xfA_ok (c.x 3 rfl))
  j_Bare := initA_ok (c.x 5 rfl)
  q_Bare := kitA_ok (c.x 6 rfl)
  o_Missing := oexA_ok (c.x 7 rfl)
  x_Missing := xfA_ok (c.x 8 rfl)
  k_Missing := excA_ok (c.x 9 rfl) (xfA_ok (c.x 8 rfl))
  j_Missing := initA_ok (c.x 10 rfl)
  q_Missing := kitA_ok (c.x 11 rfl)
  o_Twice := oexA_ok (c.x 12 rfl)
  x_Twice := xfA_ok (c.x 13 rfl)
  k_Twice := excA_ok (c.x 14 rfl) (xfA_ok (c.x 13 rfl))
  j_Twice := initA_ok (c.x 15 rfl)
  q_Twice := kitA_ok (c.x 16 rfl)
  o_Held := oexA_ok (c.x 17 rfl)
  x_Held := xfA_ok (c.x 18 rfl)
  k_Held := excA_ok (c.x 19 rfl) (xfA_ok (c.x 18 rfl))
  j_Held := initA_ok (c.x 20 rfl)
  q_Held := kitA_ok (c.x 21 rfl)
  o_Taken := oexA_ok (c.x 22 rfl)
  x_Taken := xfA_ok (c.x 23 rfl)
  k_Taken := excA_ok (c.x 24 rfl) (xfA_ok (c.x 23 rfl))
  j_Taken := initA_ok (c.x 25 rfl)
  q_Taken := kitA_ok (c.x 26 rfl)
  o_NoRow := oexA_ok (c.x 27 rfl)
  x_NoRow := xfA_ok (c.x 28 rfl)
  k_NoRow := excA_ok (c.x 29 rfl) (xfA_ok (c.x 28 rfl))
  j_NoRow := initA_ok (c.x 30 rfl)
  q_NoRow := kitA_ok (c.x 31 rfl)
abbrev a_NoRow_init (K : Fr) : Addr := ma K (ga K "NoRow") "__init__"
theorem F_NoRow_init (c : SaysX fa fn ts xs w K) : ∃ fd, FnT K "__init__" "NoRow.__init__" s_NoRow_init [] (a_NoRow_init K) fd := c.def_ 0 (d := d_NoRow_init) rfl
abbrev a_Taken_init (K : Fr) : Addr := ma K (ga K "Taken") "__init__"
theorem F_Taken_init (c : SaysX fa fn ts xs w K) : ∃ fd, FnT K "__init__" "Taken.__init__" s_Taken_init [] (a_Taken_init K) fd := c.def_ 1 (d := d_Taken_init) rfl
abbrev a_Bare_init (K : Fr) : Addr := ma K (ga K "Bare") "__init__"
theorem F_Bare_init (c : SaysX fa fn ts xs w K) : ∃ fd, FnT K "__init__" "Bare.__init__" s_Bare_init [] (a_Bare_init K) fd := c.def_ 2 (d := d_Bare_init) rfl
abbrev a_Missing_init (K : Fr) : Addr := ma K (ga K "Missing") "__init__"
theorem F_Missing_init (c : SaysX fa fn ts xs w K) : ∃ fd, FnT K "__init__" "Missing.__init__" s_Missing_init [] (a_Missing_init K) fd := c.def_ 3 (d := d_Missing_init) rfl
abbrev a_Twice_init (K : Fr) : Addr := ma K (ga K "Twice") "__init__"
theorem F_Twice_init (c : SaysX fa fn ts xs w K) : ∃ fd, FnT K "__init__" "Twice.__init__" s_Twice_init [] (a_Twice_init K) fd := c.def_ 4 (d := d_Twice_init) rfl
abbrev a_Held_init (K : Fr) : Addr := ma K (ga K "Held") "__init__"
theorem F_Held_init (c : SaysX fa fn ts xs w K) : ∃ fd, FnT K "__init__" "Held.__init__" s_Held_init [] (a_Held_init K) fd := c.def_ 5 (d := d_Held_init) rfl
abbrev a_is_written (K : Fr) : Addr := ga K "is_written"
theorem F_is_written (c : SaysX fa fn ts xs w K) : ∃ fd, FnT K "is_written" "is_written" s_is_written [] (a_is_written K) fd := c.def_ 6 (d := d_is_written) rfl
abbrev a_is_word (K : Fr) : Addr := ga K "is_word"
theorem F_is_word (c : SaysX fa fn ts xs w K) : ∃ fd, FnT K "is_word" "is_word" s_is_word [] (a_is_word K) fd := c.def_ 7 (d := d_is_word) rfl
abbrev a_is_whole (K : Fr) : Addr := ga K "is_whole"
theorem F_is_whole (c : SaysX fa fn ts xs w K) : ∃ fd, FnT K "is_whole" "is_whole" s_is_whole [] (a_is_whole K) fd := c.def_ 8 (d := d_is_whole) rfl
abbrev a_is_key (K : Fr) : Addr := ga K "is_key"
theorem F_is_key (c : SaysX fa fn ts xs w K) : ∃ fd, FnT K "is_key" "is_key" s_is_key [] (a_is_key K) fd := c.def_ 9 (d := d_is_key) rfl
abbrev a_is_text (K : Fr) : Addr := ga K "is_text"
theorem F_is_text (c : SaysX fa fn ts xs w K) : ∃ fd, FnT K "is_text" "is_text" s_is_text [] (a_is_text K) fd := c.def_ 10 (d := d_is_text) rfl
abbrev a_is_truth (K : Fr) : Addr := ga K "is_truth"
theorem F_is_truth (c : SaysX fa fn ts xs w K) : ∃ fd, FnT K "is_truth" "is_truth" s_is_truth [] (a_is_truth K) fd := c.def_ 11 (d := d_is_truth) rfl
abbrev a_is_link (K : Fr) : Addr := ga K "is_link"
theorem F_is_link (c : SaysX fa fn ts xs w K) : ∃ fd, FnT K "is_link" "is_link" s_is_link [] (a_is_link K) fd := c.def_ 12 (d := d_is_link) rfl
abbrev a_of_kind (K : Fr) : Addr := ga K "of_kind"
theorem F_of_kind (c : SaysX fa fn ts xs w K) : ∃ fd, FnT K "of_kind" "of_kind" s_of_kind [] (a_of_kind K) fd := c.def_ 13 (d := d_of_kind) rfl
abbrev a_column_amiss (K : Fr) : Addr := ga K "column_amiss"
theorem F_column_amiss (c : SaysX fa fn ts xs w K) : ∃ fd, FnT K "column_amiss" "column_amiss" s_column_amiss [] (a_column_amiss K) fd := c.def_ 14 (d := d_column_amiss) rfl
abbrev a_Column_init (K : Fr) : Addr := ma K (ga K "Column") "__init__"
theorem F_Column_init (c : SaysX fa fn ts xs w K) : ∃ fd, FnT K "__init__" "Column.__init__" s_Column_init [("kind", .str "whole"), ("empty", .bl false), ("once", .bl false), ("to", .non), ("gone", .str "bar")] (a_Column_init K) fd := c.def_ 15 (d := d_Column_init) rfl
abbrev a_form_amiss (K : Fr) : Addr := ga K "form_amiss"
theorem F_form_amiss (c : SaysX fa fn ts xs w K) : ∃ fd, FnT K "form_amiss" "form_amiss" s_form_amiss [] (a_form_amiss K) fd := c.def_ 16 (d := d_form_amiss) rfl
abbrev a_schema_amiss (K : Fr) : Addr := ga K "schema_amiss"
theorem F_schema_amiss (c : SaysX fa fn ts xs w K) : ∃ fd, FnT K "schema_amiss" "schema_amiss" s_schema_amiss [] (a_schema_amiss K) fd := c.def_ 17 (d := d_schema_amiss) rfl
abbrev a_Schema_init (K : Fr) : Addr := ma K (ga K "Schema") "__init__"
theorem F_Schema_init (c : SaysX fa fn ts xs w K) : ∃ fd, FnT K "__init__" "Schema.__init__" s_Schema_init [] (a_Schema_init K) fd := c.def_ 18 (d := d_Schema_init) rfl
abbrev a_Schema_words (K : Fr) : Addr := ma K (ga K "Schema") "words"
theorem F_Schema_words (c : SaysX fa fn ts xs w K) : ∃ fd, FnT K "words" "Schema.words" s_Schema_words [] (a_Schema_words K) fd := c.def_ 19 (d := d_Schema_words) rfl
abbrev a_Schema_columns (K : Fr) : Addr := ma K (ga K "Schema") "columns"
theorem F_Schema_columns (c : SaysX fa fn ts xs w K) : ∃ fd, FnT K "columns" "Schema.columns" s_Schema_columns [] (a_Schema_columns K) fd := c.def_ 20 (d := d_Schema_columns) rfl
abbrev a_Schema_told (K : Fr) : Addr := ma K (ga K "Schema") "told"
theorem F_Schema_told (c : SaysX fa fn ts xs w K) : ∃ fd, FnT K "told" "Schema.told" s_Schema_told [] (a_Schema_told K) fd := c.def_ 21 (d := d_Schema_told) rfl
abbrev a_copied (K : Fr) : Addr := ga K "copied"
theorem F_copied (c : SaysX fa fn ts xs w K) : ∃ fd, FnT K "copied" "copied" s_copied [] (a_copied K) fd := c.def_ 22 (d := d_copied) rfl
abbrev a_places (K : Fr) : Addr := ga K "places"
theorem F_places (c : SaysX fa fn ts xs w K) : ∃ fd, FnT K "places" "places" s_places [] (a_places K) fd := c.def_ 23 (d := d_places) rfl
abbrev a_links_of (K : Fr) : Addr := ga K "links_of"
theorem F_links_of (c : SaysX fa fn ts xs w K) : ∃ fd, FnT K "links_of" "links_of" s_links_of [] (a_links_of K) fd := c.def_ 24 (d := d_links_of) rfl
abbrev a_holders (K : Fr) : Addr := ga K "holders"
theorem F_holders (c : SaysX fa fn ts xs w K) : ∃ fd, FnT K "holders" "holders" s_holders [] (a_holders K) fd := c.def_ 25 (d := d_holders) rfl
abbrev a_is_bare (K : Fr) : Addr := ga K "is_bare"
theorem F_is_bare (c : SaysX fa fn ts xs w K) : ∃ fd, FnT K "is_bare" "is_bare" s_is_bare [] (a_is_bare K) fd := c.def_ 26 (d := d_is_bare) rfl
abbrev a_is_missing (K : Fr) : Addr := ga K "is_missing"
theorem F_is_missing (c : SaysX fa fn ts xs w K) : ∃ fd, FnT K "is_missing" "is_missing" s_is_missing [] (a_is_missing K) fd := c.def_ 27 (d := d_is_missing) rfl
abbrev a_is_twice (K : Fr) : Addr := ga K "is_twice"
theorem F_is_twice (c : SaysX fa fn ts xs w K) : ∃ fd, FnT K "is_twice" "is_twice" s_is_twice [] (a_is_twice K) fd := c.def_ 28 (d := d_is_twice) rfl
abbrev a_pairs_of (K : Fr) : Addr := ga K "pairs_of"
theorem F_pairs_of (c : SaysX fa fn ts xs w K) : ∃ fd, FnT K "pairs_of" "pairs_of" s_pairs_of [] (a_pairs_of K) fd := c.def_ 29 (d := d_pairs_of) rfl
abbrev a_ask_pairs (K : Fr) : Addr := ga K "ask_pairs"
theorem F_ask_pairs (c : SaysX fa fn ts xs w K) : ∃ fd, FnT K "ask_pairs" "ask_pairs" s_ask_pairs [] (a_ask_pairs K) fd := c.def_ 30 (d := d_ask_pairs) rfl
abbrev a_ask_key (K : Fr) : Addr := ga K "ask_key"
theorem F_ask_key (c : SaysX fa fn ts xs w K) : ∃ fd, FnT K "ask_key" "ask_key" s_ask_key [] (a_ask_key K) fd := c.def_ 31 (d := d_ask_key) rfl
abbrev a_ask_row (K : Fr) : Addr := ga K "ask_row"
theorem F_ask_row (c : SaysX fa fn ts xs w K) : ∃ fd, FnT K "ask_row" "ask_row" s_ask_row [] (a_ask_row K) fd := c.def_ 32 (d := d_ask_row) rfl
abbrev a_done (K : Fr) : Addr := ga K "done"
theorem F_done (c : SaysX fa fn ts xs w K) : ∃ fd, FnT K "done" "done" s_done [] (a_done K) fd := c.def_ 33 (d := d_done) rfl
abbrev a_l_fresh (K : Fr) : Addr := ga K "_law_fresh"
theorem F_l_fresh (c : SaysX fa fn ts xs w K) : ∃ fd, FnT K "_law_fresh" "_law_fresh" s_l_fresh [] (a_l_fresh K) fd := c.def_ 34 (d := d_l_fresh) rfl
abbrev a_l_fill (K : Fr) : Addr := ga K "_law_fill"
theorem F_l_fill (c : SaysX fa fn ts xs w K) : ∃ fd, FnT K "_law_fill" "_law_fill" s_l_fill [] (a_l_fill K) fd := c.def_ 35 (d := d_l_fill) rfl
abbrev a_l_take (K : Fr) : Addr := ga K "_law_take"
theorem F_l_take (c : SaysX fa fn ts xs w K) : ∃ fd, FnT K "_law_take" "_law_take" s_l_take [] (a_l_take K) fd := c.def_ 36 (d := d_l_take) rfl
abbrev a_l_whole (K : Fr) : Addr := ga K "_law_whole"
theorem F_l_whole (c : SaysX fa fn ts xs w K) : ∃ fd, FnT K "_law_whole" "_law_whole" s_l_whole [] (a_l_whole K) fd := c.def_ 37 (d := d_l_whole) rfl
abbrev a_l_words (K : Fr) : Addr := ga K "_law_words"
theorem F_l_words (c : SaysX fa fn ts xs w K) : ∃ fd, FnT K "_law_words" "_law_words" s_l_words [] (a_l_words K) fd := c.def_ 38 (d := d_l_words) rfl
abbrev a_l_desc (K : Fr) : Addr := ga K "_law_desc"
theorem F_l_desc (c : SaysX fa fn ts xs w K) : ∃ fd, FnT K "_law_desc" "_law_desc" s_l_desc [] (a_l_desc K) fd := c.def_ 39 (d := d_l_desc) rfl
abbrev a_l_schema (K : Fr) : Addr := ga K "_law_schema"
theorem F_l_schema (c : SaysX fa fn ts xs w K) : ∃ fd, FnT K "_law_schema" "_law_schema" s_l_schema [] (a_l_schema K) fd := c.def_ 40 (d := d_l_schema) rfl
abbrev a_l_fits (K : Fr) : Addr := ga K "_law_fits"
theorem F_l_fits (c : SaysX fa fn ts xs w K) : ∃ fd, FnT K "_law_fits" "_law_fits" s_l_fits [] (a_l_fits K) fd := c.def_ 41 (d := d_l_fits) rfl
abbrev a_l_worth (K : Fr) : Addr := ga K "_law_worth"
theorem F_l_worth (c : SaysX fa fn ts xs w K) : ∃ fd, FnT K "_law_worth" "_law_worth" s_l_worth [] (a_l_worth K) fd := c.def_ 42 (d := d_l_worth) rfl
abbrev a_l_pairs (K : Fr) : Addr := ga K "_law_pairs"
theorem F_l_pairs (c : SaysX fa fn ts xs w K) : ∃ fd, FnT K "_law_pairs" "_law_pairs" s_l_pairs [] (a_l_pairs K) fd := c.def_ 43 (d := d_l_pairs) rfl
abbrev a_l_key (K : Fr) : Addr := ga K "_law_key"
theorem F_l_key (c : SaysX fa fn ts xs w K) : ∃ fd, FnT K "_law_key" "_law_key" s_l_key [] (a_l_key K) fd := c.def_ 44 (d := d_l_key) rfl
abbrev a_l_filled (K : Fr) : Addr := ga K "_law_filled"
theorem F_l_filled (c : SaysX fa fn ts xs w K) : ∃ fd, FnT K "_law_filled" "_law_filled" s_l_filled [] (a_l_filled K) fd := c.def_ 45 (d := d_l_filled) rfl
abbrev a_l_nothing (K : Fr) : Addr := ga K "_law_nothing"
theorem F_l_nothing (c : SaysX fa fn ts xs w K) : ∃ fd, FnT K "_law_nothing" "_law_nothing" s_l_nothing [] (a_l_nothing K) fd := c.def_ 46 (d := d_l_nothing) rfl
abbrev a_l_copied (K : Fr) : Addr := ga K "_law_copied"
theorem F_l_copied (c : SaysX fa fn ts xs w K) : ∃ fd, FnT K "_law_copied" "_law_copied" s_l_copied [] (a_l_copied K) fd := c.def_ 47 (d := d_l_copied) rfl
abbrev a_l_linked (K : Fr) : Addr := ga K "_law_linked"
theorem F_l_linked (c : SaysX fa fn ts xs w K) : ∃ fd, FnT K "_law_linked" "_law_linked" s_l_linked [] (a_l_linked K) fd := c.def_ 48 (d := d_l_linked) rfl
abbrev a_l_row_amiss (K : Fr) : Addr := ga K "_law_row_amiss"
theorem F_l_row_amiss (c : SaysX fa fn ts xs w K) : ∃ fd, FnT K "_law_row_amiss" "_law_row_amiss" s_l_row_amiss [] (a_l_row_amiss K) fd := c.def_ 49 (d := d_l_row_amiss) rfl
abbrev a_l_form_amiss (K : Fr) : Addr := ga K "_law_form_amiss"
theorem F_l_form_amiss (c : SaysX fa fn ts xs w K) : ∃ fd, FnT K "_law_form_amiss" "_law_form_amiss" s_l_form_amiss [] (a_l_form_amiss K) fd := c.def_ 50 (d := d_l_form_amiss) rfl
abbrev a_l_done (K : Fr) : Addr := ga K "_law_done"
theorem F_l_done (c : SaysX fa fn ts xs w K) : ∃ fd, FnT K "_law_done" "_law_done" s_l_done [] (a_l_done K) fd := c.def_ 51 (d := d_l_done) rfl
abbrev a_l_statement (K : Fr) : Addr := ga K "_law_statement"
theorem F_l_statement (c : SaysX fa fn ts xs w K) : ∃ fd, FnT K "_law_statement" "_law_statement" s_l_statement [] (a_l_statement K) fd := c.def_ 52 (d := d_l_statement) rfl
abbrev a_l_right (K : Fr) : Addr := ga K "_law_right"
theorem F_l_right (c : SaysX fa fn ts xs w K) : ∃ fd, FnT K "_law_right" "_law_right" s_l_right [] (a_l_right K) fd := c.def_ 53 (d := d_l_right) rfl
abbrev a_l_told (K : Fr) : Addr := ga K "_law_told"
theorem F_l_told (c : SaysX fa fn ts xs w K) : ∃ fd, FnT K "_law_told" "_law_told" s_l_told [] (a_l_told K) fd := c.def_ 54 (d := d_l_told) rfl
abbrev a_l_refusal (K : Fr) : Addr := ga K "_law_refusal"
theorem F_l_refusal (c : SaysX fa fn ts xs w K) : ∃ fd, FnT K "_law_refusal" "_law_refusal" s_l_refusal [] (a_l_refusal K) fd := c.def_ 55 (d := d_l_refusal) rfl
abbrev a_l_both (K : Fr) : Addr := ga K "_law_both"
theorem F_l_both (c : SaysX fa fn ts xs w K) : ∃ fd, FnT K "_law_both" "_law_both" s_l_both [] (a_l_both K) fd := c.def_ 56 (d := d_l_both) rfl
abbrev a_law (K : Fr) : Addr := ga K "law"
theorem F_law (c : SaysX fa fn ts xs w K) : ∃ fd, FnT K "law" "law" s_law [] (a_law K) fd := c.def_ 57 (d := d_law) rfl
end
end K16

/-! K16Rules: rules of my own over the hand layer -/
namespace K16
open PySem PySem.Spec PyProof.Rows L2
/-! ### a star among targets -/
section
variable {prog : Program} {w : World} {A : Around} {E : Value → Shared → Prop} {s : Shared}
/-- a tuple unpacked, the last target starred: n items, the others in a new list -/
theorem star_items {l : Addr} {its : List Value} {n : Nat} {Q : List Value → Shared → Prop} (tp : IsTup s.heap l its.toArray) (nh : A.handled = none) (le : n ≤ its.length) (sm : its.length ≤ 100)
    (done : ∀ (h2 : Heap) (tk : Nat), (∀ b o, s.heap.get? b = some o → h2.get? b = some o) →
      Q (its.take n ++ [.ref h2.objs.size]) { s with heap := h2.push { cls := .type "list", data := .seq (its.drop n).toArray }, toks := tk }) :
    wpAny (model prog w) A (unpackItems (.ref l) (n + 1) (some n)) Q E s := by
  have sz : its.toArray.size = its.length := by simp
  have apart : l ≠ s.heap.objs.size := Nat.ne_of_lt (by obtain ⟨o, ho, _⟩ := tp; exact Heap.lt_size ho)
  unfold unpackItems
  refine wpAny_bind ?_
  unfold notIterableAtAll
  refine wpAny_bind (wpAny_specialOf tp.typeIs slot_tuple_iter.lookup (wpAny_pure ?_))
  simp only [Bool.false_eq_true, if_false]
  refine wpAny_bind (wpAny_holding (iter_tuple tp ?_))
  refine wpAny_bind (wpAny_holding (draw_tuple apart n 0 _ _ ⟨_, Heap.get?_push_size _ rfl, rfl, rfl⟩ (tp.push _) (by omega) fun g1 it1 sb1 => ?_))
  have tp1 : IsTup g1 l its.toArray := (tp.push _).extBut sb1.extBut apart
  rw [Nat.zero_add] at it1
  have lt1 : s.heap.objs.size < g1.objs.size := by obtain ⟨oi, hoi, _⟩ := it1; exact Heap.lt_size hoi
  have lt2 : l < g1.objs.size := by obtain ⟨ol, hol, _⟩ := tp1; exact Heap.lt_size hol
  have l0 : List.take n (List.drop 0 its.toArray.toList) = its.take n := by simp
  rw [l0, if_neg (by rw [List.length_take]; omega)]
  refine wpAny_bind (wpAny_holding (PySem.W.kun_collect (s := { s with heap := g1 }) (T := "tuple_iterator") (items := its.toArray) (k := n) (.inr (.inr (.inr rfl)))
    (Walks.tuple (A := A.in1) nh s.heap.objs.size l apart its.toArray) (fun j u st => st.1.typeIs) (by omega) ⟨it1, tp1⟩ lt1 lt2 (fun g2 tk kp => ?_) (by rw [sizeLine_eq]; omega)))
  have rest : its.toArray.toList.drop n = its.drop n := by simp
  rw [rest]
  have kall : ∀ b o, s.heap.get? b = some o → g2.get? b = some o := fun b o e => by
    have nb : b ≠ s.heap.objs.size := Nat.ne_of_lt (Heap.lt_size e)
    exact kp b o nb (sb1.extBut b o nb (Heap.get?_push_of_some _ e))
  show wpAny _ _ (if (its.drop n).length < n + 1 - 1 - n then _ else _) _ _ _
  rw [if_neg (by omega)]
  have z0 : n + 1 - 1 - n = 0 := by omega
  show wpAny _ _ (newList ((its.drop n).take ((its.drop n).length - (n + 1 - 1 - n))) >>= fun d => pure (its.take n ++ [d] ++ (its.drop n).drop ((its.drop n).length - (n + 1 - 1 - n)))) _ _ _
  rw [z0, Nat.sub_zero, List.take_length, List.drop_length]
  refine wpAny_bind (wpAny_newList (wpAny_pure ?_) (by rw [List.length_drop, sizeLine_eq]; omega))
  rw [List.append_nil]
  exact done g2 tk kall
end
section
variable {X : Cx} {pos : Pos}
theorem pgs_star {e : Expr} {sp : Pos} {t : TG} (h1 : PG X e t) (hs : (assignEach [.Starred e sp] X.env).map (·.2) = [assign e X.env] := by rfl) : PGs X [.Starred e sp] (gCons t gNil) := by
  refine ⟨fun pins s σ H vs us Q I r h => ?_⟩
  rw [hs]
  obtain ⟨v, vs', rfl, hq⟩ := h
  cases r with
  | @cons _ uu _ us' r1 r2 =>
    show wpAny _ _ (do holding us' (assign e X.env uu); assignInOrder [] us') _ _ _
    refine wpAny_bind (wpAny_holding (thn (h1.run pins s σ H v uu _ I r1 hq) fun _ s1 hh => ?_))
    obtain ⟨σ', H', I', e0, hq'⟩ := hh
    subst e0
    cases r2
    exact wpAny_pure ⟨σ', H', I', hq'⟩
/-- a, b, *c = t: t a tuple of n or more -/
def gStar (K : PySem.W.Frag) (n : Nat) (t : TGs) : TG := fun v σ H Q => ∃ a xs, v = .ref a ∧ SqT K H a xs ∧ n ≤ xs.length ∧ xs.length ≤ 100 ∧ ∀ p, H p = none → t (xs.take n ++ [.ref p]) σ (upd H p (.lst (xs.drop n))) Q
theorem pg_star {es : List Expr} {k : Nat} {t : TGs} {n : Nat} (hc : X.calm = true) (h : PGs X es t)
    (hn : (assignEach es X.env).length = n + 1 := by rfl) (hst : (assignEach es X.env).findIdx? (·.1) = some n := by rfl) : PG X (.Tuple es k pos) (gStar X.K n t) := by
  refine ⟨fun pins s σ H v u Q I r hw => ?_⟩
  obtain ⟨a, xs, e1, hq, hl, h100, hw⟩ := hw
  subst e1
  cases r
  obtain ⟨its, rv, ht, hz⟩ := I.tuple hq
  have hlen := rv.length
  rw [assign_Tuple]
  refine wpAny_bind (wpAny_standAt ?_)
  unfold unpack
  rw [hn, hst]
  refine wpAny_bind (wpAny_holding (star_items ht (I.ok.hd hc) (by omega) (by omega) fun h2 tk kp => ?_))
  have nw : s.heap.get? h2.objs.size = none := by
    cases e : s.heap.get? h2.objs.size with
    | none => rfl
    | some o => exact absurd (Heap.lt_size (kp _ _ e)) (Nat.lt_irrefl _)
  have hn0 : H h2.objs.size = none := I.hok.gone nw
  have J := I.laidN (t' := tk) (h' := h2.push { cls := .type "list", data := .seq (its.drop n).toArray }) (a := h2.objs.size) (o := .lst (xs.drop n)) (fun b o e => Heap.get?_push_of_some _ (kp b o e)) nw hn0
    ⟨by rw [List.length_drop, sizeLine_eq]; omega, its.drop n, 0, rv.drop n, Heap.get?_push_size _ rfl⟩
  exact h.run pins _ σ _ _ _ Q J ((rv.take n).append (.cons (show RelV (.ref h2.objs.size) _ from rfl) .nil)) (hw _ hn0)
end
end K16

/-! K16Enum: for k, x in enumerate(t), t a tuple -/
namespace K16
open PySem PySem.Spec PyProof.Rows L2
open AutoSeq1 (wpAny_loadPart') in
theorem enum_meets {v : Value} {o : Obj} {Hv : Heap → Prop} (B : Begins v o Hv) :
    Meets (Builtin.«enumerate.__new__» ⟨[.type "enumerate", v], []⟩) (fun _ R s => Hv s.heap ∧
      R (.ok (.ret (.ref (s.heap.push o).objs.size))) { s with heap := (s.heap.push o).push { cls := .type "enumerate", data := .fields #[.none, .bool false, .ref s.heap.objs.size, rawInt 0, .none, .none] } }) :=
  .of_wp fun prog w A R s h => by
    obtain ⟨hp, g, d, tk, os⟩ := s
    obtain ⟨hv, h⟩ := h
    have hsub := sub_enumerate
    have begins : ∀ {A' : Around} {E : Value → Shared → Prop} {Q : Value → Shared → Prop}, Q (.ref hp.objs.size) ⟨hp.push o, g, d, tk, os⟩ → wpAny (model prog w) A' (pyIter v) Q E ⟨hp, g, d, tk, os⟩ :=
      fun {A' E Q} z => B.iter prog w A' E ⟨hp, g, d, tk, os⟩ Q hv z
    wp_walk using begins
    refine wpAny_stack_any fun st => wpAny_pure ?_
    split
    case h_1 =>
      rename_i c _ _ _ _ _
      cases (c == Value.type "enumerate") <;> (wp_walk using begins) <;> exact ⟨_, rfl, h⟩
    case h_2 => (wp_walk using begins) <;> exact ⟨_, rfl, h⟩
section
variable {prog : Program} {w : World} {A : Around} {E : Value → Shared → Prop} {s : Shared}
theorem enum_call {v : Value} {o : Obj} {Hv : Heap → Prop} {Q : Value → Shared → Prop} (B : Begins v o Hv) (hv : Hv s.heap)
    (h : ∀ h2 : Heap, IsEnum h2 (s.heap.objs.size + 1) s.heap.objs.size 0 .none → h2.get? s.heap.objs.size = some o → (∀ b u, s.heap.get? b = some u → h2.get? b = some u) → Q (.ref (s.heap.objs.size + 1)) { s with heap := h2 }) :
    wpAny (model prog w) A (call (.type "enumerate") [v]) Q E s := by
  refine callType_new F.called_enumerate (by decide) (F.typeCall_enumerate_1 _) (F.newCall_enumerate_1 _) (fun obj => F.args_object_init_2 obj _) F.entry_enumerate_new (enum_meets B) ⟨hv, ?_⟩
  have sz : (s.heap.push o).objs.size = s.heap.objs.size + 1 := Heap.size_push ..
  show _ ∧ _
  rw [sz]
  have en : IsEnum ((s.heap.push o).push { cls := .type "enumerate", data := .fields #[.none, .bool false, .ref s.heap.objs.size, rawInt 0, .none, .none] }) (s.heap.objs.size + 1) s.heap.objs.size 0 .none := by
    have z := Heap.get?_push_size (s.heap.push o) (o := { cls := .type "enumerate", data := .fields #[.none, .bool false, .ref s.heap.objs.size, rawInt 0, .none, .none] }) rfl
    rw [sz] at z
    exact z
  exact ⟨⟨_, en, rfl⟩, h _ en (Heap.get?_push_of_some _ (Heap.get?_push_size _ B.free)) fun b u x => Heap.get?_push_of_some _ (Heap.get?_push_of_some _ x)⟩
end
/-- the tuple at a, each item in a new pair with its place -/
def IteT (K : PySem.W.Frag) (a : Addr) : It where
  go := fun i H => ∃ (xs : List V) (x : V), SqT K H a xs ∧ xs[i]? = some x
  yld := fun i H v H' => ∃ T x, v = .ref T ∧ H T = none ∧ H' = upd H T (.tup [.int (i : Nat), x]) ∧ ∀ xs, SqT K H a xs → xs[i]? = some x
  stop := fun i H => ∃ xs : List V, SqT K H a xs ∧ xs.length ≤ i
theorem two_mem {e it b : Addr} (hb : b ∈ [e, it]) : b = e ∨ b = it := by simpa using hb
theorem turn_enumT {P : Program} {w : World} {K : PySem.W.Frag} {elts : List Expr} {kk : Nat} {tpos : Pos} (a e it : Addr) :
    Turn P w K (.Tuple elts kk tpos) (IteT K a) [e, it] e (fun i h => (∃ old, IsEnum h e it ((i : Nat) : Int) old) ∧ h.IsTupleIter it a i ∧ e ≠ it ∧ a ≠ it ∧ a ≠ e) where
  mem := by simp
  obj := fun i h st b hb => by
    obtain ⟨⟨old, he⟩, ⟨o, ho, hc, hd⟩, _⟩ := st
    rcases two_mem hb with rfl | rfl
    · exact ⟨_, he, fun v q => nomatch q⟩
    · exact ⟨o, ho, fun v q => by rw [hd] at q; cases q⟩
  keep := fun i h h' st k => by
    obtain ⟨⟨old, he⟩, hi, ne⟩ := st
    exact ⟨⟨old, k e (by simp) _ he⟩, hi.at fun o q => k it (by simp) o q, ne⟩
  item := by
    intro X hP hw hK hc i pins s σ H E I hf st hg
    subst hP hw hK
    obtain ⟨⟨old, he⟩, hit, hne, hai, hae⟩ := st
    obtain ⟨xs, x, hq, hx⟩ := hg
    obtain ⟨its, rv, p, hz⟩ := I.tuple hq
    obtain ⟨u, hu, ru⟩ := rv.get hx
    have lte : e < s.heap.objs.size := Heap.lt_size he
    have lti : it < s.heap.objs.size := by obtain ⟨_, q, _⟩ := hit; exact Heap.lt_size q
    have len := (List.getElem?_eq_some_iff.mp hu).1
    refine wpAny_pyNext_enum_itemD (Draws.tuple (A := X.A.in1) (I.ok.hd hc) it a hai its.toArray) he ⟨hit, p⟩ (by simpa using len) hne (by simp [hne, Ne.symm hae]) fun y h2 tk hy ho hit2 hT hsz hk => ?_
    obtain rfl : y = u := by
      have z : its[i]? = some y := by simpa using hy
      exact Option.some.inj (z.symm.trans hu)
    refine ⟨_, rfl, wpAny_letOwnedTupleGo_enum (s := { s with heap := h2, toks := tk + 1 }) ho fun h3 he3 sb => ?_⟩
    have hT3 : h3.get? s.heap.objs.size = some { cls := .type "tuple", data := .seq #[.int i tk, y] } := (sb.2 _ (Nat.ne_of_gt lte)).trans hT
    have new : ObjOk X.prog X.w (upd H s.heap.objs.size (.tup [.int (i : Nat), x])) h3 s.heap.objs.size (.tup [.int (i : Nat), x]) :=
      ⟨by show 2 ≤ sizeLine; decide, [.int i tk, y], .cons ⟨_, rfl⟩ (.cons ru .nil), ⟨_, hT3, rfl, _, rfl⟩⟩
    have J : Inv X pins σ (upd H s.heap.objs.size (.tup [.int (i : Nat), x])) { s with heap := h3, toks := tk + 1 } := by
      refine I.turnedNew (ch := [e, it]) (fun b ob hb q => ?_) hf (Nat.le_refl _) new
      have n1 : b ≠ e := fun z => hb (by simp [z])
      have n2 : b ≠ it := fun z => hb (by simp [z])
      exact (sb.2 b n1).trans (hk b ob n1 n2 q)
    refine ⟨.ref s.heap.objs.size, _, J, rfl, ⟨_, x, rfl, I.hok.fresh (Nat.le_refl _), rfl, fun ys hy => by rw [I.tuple_inj hy hq]; exact hx⟩, ⟨⟨y, ?_⟩, hit2.1.at fun o q => (sb.2 it (Ne.symm hne)).trans q, hne, hai, hae⟩, fun b hb => ?_⟩
    · have e1 : ((i + 1 : Nat) : Int) = (i : Int) + 1 := by omega
      rw [e1]
      exact he3
    · have ltb : b < s.heap.objs.size := by rcases two_mem hb with rfl | rfl <;> assumption
      rw [upd_ne (Nat.ne_of_lt ltb)]
      exact (hf b hb).1
  done := by
    intro X hP hw hK hc i pins s σ H E I hf st hg
    subst hP hw hK
    obtain ⟨⟨old, he⟩, hit, hne, hai, hae⟩ := st
    obtain ⟨xs, hq, hx⟩ := hg
    obtain ⟨its, rv, p, hz⟩ := I.tuple hq
    obtain ⟨f0, f1, f2, f3, f4, f5⟩ := hf it (by simp)
    have hl := rv.length
    have hh : X.A.in1.handled = none := I.ok.hd hc
    have D0 : Draws X.prog X.w X.A.in1 it [it, a] 0 (fun _ _ => False) (fun _ h => h.IsTupleIter it a i ∧ h.IsTuple a its.toArray) := {
      live := fun _ _ st => by obtain ⟨⟨o, ho, _⟩, _⟩ := st; exact ⟨o, ho⟩
      frame := fun _ _ _ st k => ⟨st.1.at fun o e => k it (by simp) o e, st.2.at fun o e => k a (by simp) o e⟩
      item := fun j _ _ _ lt => absurd lt (Nat.not_lt_zero j)
      done := fun s Q E st hE => wpAny_nextOf_tuple_end hh st.1 st.2 (by simp; omega) hE }
    exact wpAny_pyNext_enum_endD D0 he ⟨hit, p⟩ fun h2 eb => ⟨rfl, I.turned (t' := s.toks) (fun b o hb q => eb b o hb q) f0 f1 f3 f4 f5⟩
  self := fun A i s Q E st h => by
    obtain ⟨⟨_, he⟩, _⟩ := st
    exact wpAny_pyIter_enum he h
def iEnumT (K : PySem.W.Frag) (ta : TA) : TI := fun σ H R => ta σ H fun vs H1 => ∃ a xs, vs = [.ref a] ∧ SqT K H1 a xs ∧ R (IteT K a) H1
theorem pi_enumT {X : Cx} {e : Expr} {ta : TA} {p pos tpos : Pos} {elts : List Expr} {kk : Nat} (hg : Gl X "enumerate") (hm : X.mg "enumerate" = none) (ha : PA X [e] ta) (hs : starEach [e] X.env = [(false, eval e X.env)] := by rfl) :
    PI X (.Tuple elts kk tpos) (.Call (.Name "enumerate" p) [e] [] pos) (iEnumT X.K ta) := by
  refine ⟨fun pins s σ H R I h => Call_ (ld_blt I hg hm boot_enumerate (PyProof.Rows.callWith_type1 (thn (ha.run pos pins s σ H _ I h) fun us s1 hh => ?_) hs rfl))⟩
  obtain ⟨vs, H1, I1, r1, a, xs, ex, hq, q⟩ := hh
  subst ex
  cases r1 with
  | cons r rr =>
    cases rr
    cases r
    obtain ⟨its, rv, tp, hz⟩ := I1.tuple hq
    have lta : a < s1.heap.objs.size := by obtain ⟨o, ho, _⟩ := tp; exact Heap.lt_size ho
    refine enum_call (begins_tuple a its.toArray) tp fun h2 he hit hk => wpAny_pyIter_enum he ?_
    have I2 : Inv X pins σ H1 { s1 with heap := h2 } := I1.kept (t' := s1.toks) hk
    refine ⟨s1.heap.objs.size + 1, [s1.heap.objs.size + 1, s1.heap.objs.size], _, _, H1, rfl, I2, turn_enumT a (s1.heap.objs.size + 1) s1.heap.objs.size, ⟨⟨.none, he⟩, ⟨_, hit, rfl, rfl⟩, Nat.succ_ne_self _, Nat.ne_of_lt lta, Nat.ne_of_lt (Nat.lt_succ_of_lt lta)⟩, fun b hb => ?_, q⟩
    have hle : s1.heap.objs.size ≤ b := by
      rcases two_mem hb with rfl | rfl
      · exact Nat.le_succ _
      · exact Nat.le_refl _
    exact I1.fpOk hle (I1.hok.fresh hle)
/-- the loop over such pairs, the tuple standing still -/
theorem for_enumT {K : PySem.W.Frag} {a : Addr} {xs : List V} {g : TG} {tb : TS} {D : Ends} {σ : L2.St} {H : Hp} (Pv : Nat → L2.St → Hp → Prop) (h0 : Pv 0 σ H) (hl : ∀ i σ H, i ≤ xs.length → Pv i σ H → SqT K H a xs)
    (hs : ∀ i x σ H T, xs[i]? = some x → Pv i σ H → H T = none → g (.ref T) σ (upd H T (.tup [.int (i : Nat), x])) fun σ2 H2 => tb { D with nx := Pv (i + 1), ct := Pv (i + 1), bk := D.nx } σ2 H2) (hd : ∀ σ H, Pv xs.length σ H → D.nx σ H) :
    ∃ W : Nat → Nat → L2.St → Hp → Prop, (∃ m, W 0 m σ H) ∧ ∀ i m σ H, W i m σ H →
      ((IteT K a).stop i H ∧ D.nx σ H) ∨ ((IteT K a).go i H ∧ ∃ N : L2.St → Hp → Prop, (∀ σ' H', N σ' H' → ∃ m', m' < m ∧ W (i + 1) m' σ' H') ∧ ∀ x H', (IteT K a).yld i H x H' → g x σ H' fun σ2 H2 => tb { D with nx := N, ct := N, bk := D.nx } σ2 H2) := by
  refine ⟨fun i m σ H => i ≤ xs.length ∧ m = xs.length - i ∧ Pv i σ H, ⟨_, Nat.zero_le _, rfl, h0⟩, fun i m σ H hW => ?_⟩
  obtain ⟨hi, rfl, hp⟩ := hW
  have hq := hl i σ H hi hp
  rcases Nat.lt_or_ge i xs.length with lt | ge
  · refine .inr ⟨⟨xs, xs[i], hq, by simp [lt]⟩, fun σ' H' => Pv (i + 1) σ' H', fun σ' H' h' => ⟨_, ?_, lt, rfl, h'⟩, fun x H' hy => ?_⟩
    · omega
    · obtain ⟨T, y, rfl, hT, rfl, hy⟩ := hy
      exact hs i y σ H T (hy xs hq) hp hT
  · have e : i = xs.length := Nat.le_antisymm hi ge
    subst e
    exact .inl ⟨⟨xs, hq, Nat.le_refl _⟩, hd σ H hp⟩
end K16

/-! K16Base: calls of own defs, what a def leaves, the state of draws -/
namespace K16
open PySem PySem.Spec PyProof.Rows L2 He
abbrev St := L2.St
theorem gref (a : Addr) : RelV (.ref a) (.ref a) := rfl
/-- a def of the text that keeps a promise -/
structure OkD (P : Program) (w : World) (K : Fr) (mg : Str → Option Value) (base : Heap) (CX : CXT) (k : Nat) (f : Addr) (ps : List Str) (sp : Sp) : Prop where
  ex : ∃ fd, FnOk P w K mg base CX k f fd ps sp ∧ Binds K fd ps []
  kp : PySem.W.keepIn K (.ref f) = true
section
variable {X : Cx} {CX : CXT} {k : Nat} {f : Addr} {ps : List Str} {sp : Sp} {x m : Str} {p pos apos : Pos} {e o : Expr} {es : List Expr} {ta : TE} {t : TA}
theorem pe_own (O : OkD X.prog X.w X.K X.mg X.base CX0 k f ps sp) (hr : Room k X.A) (hm : X.mg x = some (.ref f)) (ha : PA X (e :: es) t) (hg : Gl X x := by rfl)
    (hdb : (x == ("__debug__" : Str)) = false := by decide) (he : starEach (e :: es) X.env = (false, eval e X.env) :: starEach es X.env := by rfl) (hpl : (backTo pos (starEach es X.env)).any (·.1) = false := by rfl) :
    PE X (.Call (.Name x p) (e :: es) [] pos) (tCall sp [] E0 t) := by
  obtain ⟨⟨fd, G, b⟩, kp⟩ := O
  exact pe_call G hr hg hm kp b .nil pass0 ha hdb he hpl
/-- .. of a def that may raise, in a def that may -/
theorem pe_ownX {W : WX} {E : XK} (O : OkD X.prog X.w X.K X.mg X.base (L2.CX X.prog X.w) k f ps sp) (hr : Room k X.A) (hm : X.mg x = some (.ref f)) (tk : Takes X W) (hW : ∀ cls d σ H, E cls d H → W cls d σ H) (ha : PA X (e :: es) t) (hg : Gl X x := by rfl)
    (hdb : (x == ("__debug__" : Str)) = false := by decide) (he : starEach (e :: es) X.env = (false, eval e X.env) :: starEach es X.env := by rfl) (hpl : (backTo pos (starEach es X.env)).any (·.1) = false := by rfl) :
    PE X (.Call (.Name x p) (e :: es) [] pos) (tCall sp [] E t) := by
  obtain ⟨⟨fd, G, b⟩, kp⟩ := O
  exact pe_call G hr hg hm kp b .nil (passes_call tk hW) ha hdb he hpl
theorem pe_ownM {C : Addr} {pl : Sem Bool} (O : OkD X.prog X.w X.K X.mg X.base CX0 k f ps sp) (he : PE X o ta) (c : Cls X.K C) (hm : Meth X.K C m f) (hr : Room k X.A) (ha : PA X (e :: es) t)
    (hst : starEach (e :: es) X.env = (false, eval e X.env) :: starEach es X.env := by rfl) (hpl : (backTo pos (starEach es X.env)).any (·.1) = false := by rfl)
    (ht : eval (.Call (.Attribute o m apos) (e :: es) [] pos) X.env = (do
      let ov ← eval o X.env
      standAt apos.atName
      let (f, first) ← holding [ov] (getMethod ov m pl)
      callWith pos f first (backTo pos (starEach (e :: es) X.env)) (backToKw pos (keywordEach [] X.env))) := by rfl) :
    PE X (.Call (.Attribute o m apos) (e :: es) [] pos) (tMeth C m sp [] E0 ta t) := by
  obtain ⟨⟨fd, G, b⟩, kp⟩ := O
  exact pe_meth he c hm G hr b .nil pass0 ha hst hpl ht
theorem pe_ownM0 {C : Addr} {pl : Sem Bool} (O : OkD X.prog X.w X.K X.mg X.base CX0 k f ps sp) (he : PE X o ta) (c : Cls X.K C) (hm : Meth X.K C m f) (hr : Room k X.A)
    (ht : eval (.Call (.Attribute o m apos) [] [] pos) X.env = (do
      let ov ← eval o X.env
      standAt apos.atName
      let (f, first) ← holding [ov] (getMethod ov m pl)
      callWith pos f first (backTo pos (starEach [] X.env)) (backToKw pos (keywordEach [] X.env))) := by rfl) :
    PE X (.Call (.Attribute o m apos) [] [] pos) (tMeth C m sp [] E0 ta tNil) := by
  obtain ⟨⟨fd, G, b⟩, kp⟩ := O
  exact pe_meth0 he c hm G hr b .nil pass0 ht
/-- a call of a local name that holds the def -/
theorem pe_ownL {i : Nat} (O : OkD X.prog X.w X.K X.mg X.base CX0 k f ps sp) (hr : Room k X.A) (hN : X.N[i]? = some x) (hv : Vis X.env.scope x) (ha : PA X (e :: es) t)
    (hdb : (x == ("__debug__" : Str)) = false := by decide) (hcd : (x == ("__classdict__" : Str)) = false := by decide)
    (he : starEach (e :: es) X.env = (false, eval e X.env) :: starEach es X.env := by rfl) (hpl : (backTo pos (starEach es X.env)).any (·.1) = false := by rfl) :
    PE X (.Call (.Name x p) (e :: es) [] pos) (tCallL i f sp [] E0 t) := by
  obtain ⟨⟨fd, G, b⟩, kp⟩ := O
  exact pe_callL G hr hN hv kp b .nil pass0 ha hdb hcd he hpl
end
section
variable {P : Program} {w : World} {K : Fr} {mg : Str → Option Value} {base : Heap} {x q : Str} {st : Stmt} {f : Addr} {fd : FuncData} {N ps : List Str} {k : Nat} {sp : Sp}
/-- THE RULE for a def that lets no exception out -/
theorem okD (F : ∃ fd, FnT K x q st [] f fd) (S : FnScope N ps (defScope st)) (hb : ∀ (kV doc pm : Value) (an : Option Addr) (cdv ct : Value) (us : List Value), us.length = ps.length → bindArgs (PySem.W.fnOf x q (defArgs st) (defBody st) (defScope st) .none kV doc pm an cdv ct) ⟨us, []⟩ = pure (ps.zip us))
    (len : ∀ vs H Q E, sp vs H Q E → vs.length = ps.length)
    (hbody : ∀ (cdv : Value) (A : Around) (outer : List Env) (s : Shared) (H : Hp) (vs : List V) (Q : VK) (E : XK), Room k (A.deeper (envOfC q (defScope st) s.heap.objs.size f cdv)) → sp vs H Q E →
      ∃ t, PSs (cxOf CX0 P w K mg base N q (defScope st) f cdv A outer s H E).nox (defBody st) t ∧ t { nx := fun _ H' => Q .non H', rt := Q } (start N vs) H) : OkD P w K mg base CX0 (k + 1) f ps sp := by
  obtain ⟨fd, F⟩ := F
  refine ⟨⟨fd, F.ok S len fun cdv A outer s H vs Q E hr hsp => ?_, F.bindsN hb⟩, F.kp⟩
  obtain ⟨t, h, z⟩ := hbody cdv A outer s H vs Q E hr hsp
  exact ⟨t, h.nox, z⟩
/-- .. for one that may raise -/
theorem okX (F : ∃ fd, FnT K x q st [] f fd) (S : FnScope N ps (defScope st)) (hb : ∀ (kV doc pm : Value) (an : Option Addr) (cdv ct : Value) (us : List Value), us.length = ps.length → bindArgs (PySem.W.fnOf x q (defArgs st) (defBody st) (defScope st) .none kV doc pm an cdv ct) ⟨us, []⟩ = pure (ps.zip us))
    (len : ∀ vs H Q E, sp vs H Q E → vs.length = ps.length)
    (hbody : ∀ (cdv : Value) (A : Around) (outer : List Env) (s : Shared) (H : Hp) (vs : List V) (Q : VK) (E : XK), Room k (A.deeper (envOfC q (defScope st) s.heap.objs.size f cdv)) → sp vs H Q E →
      ∃ t, PSs (cxOf (L2.CX P w) P w K mg base N q (defScope st) f cdv A outer s H E) (defBody st) t ∧ t { nx := fun _ H' => Q .non H', rt := Q } (start N vs) H) : OkD P w K mg base (L2.CX P w) (k + 1) f ps sp := by
  obtain ⟨fd, F⟩ := F
  exact ⟨⟨fd, F.ok S len hbody, F.bindsN hb⟩, F.kp⟩
theorem OkD.mono {CX : CXT} {j k : Nat} (O : OkD P w K mg base CX j f ps sp) (h : j ≤ k) : OkD P w K mg base CX k f ps sp := by
  obtain ⟨⟨fd, G, b⟩, kp⟩ := O
  exact ⟨⟨fd, G.mono h, b⟩, kp⟩
end
/-! ### a word behind a test, an expression -/
def tMidT (t : TT) : TT := fun σ H Q => ∃ Mid : Bool → Hp → Prop, t σ H Mid ∧ ∀ b H1, Mid b H1 → Q b H1
theorem pt_mid {X : Cx} {e : Expr} {t : TT} (h : PT X e t) : PT X e (tMidT t) := by
  refine ⟨fun pins s σ H Q I hq => ?_⟩
  obtain ⟨Mid, h1, h2⟩ := hq
  refine thn (h.run pins s σ H Mid I h1) fun b s1 z => ?_
  obtain ⟨H1, I1, q⟩ := z
  exact ⟨H1, I1, h2 b H1 q⟩
def tMidE (t : TE) : TE := fun σ H Q => ∃ Mid : V → Hp → Prop, t σ H Mid ∧ ∀ v H1, Mid v H1 → Q v H1
theorem pe_mid {X : Cx} {e : Expr} {t : TE} (h : PE X e t) : PE X e (tMidE t) := by
  refine ⟨fun pins s σ H Q I hq => ?_⟩
  obtain ⟨Mid, h1, h2⟩ := hq
  refine thn (h.run pins s σ H Mid I h1) fun u s1 z => ?_
  obtain ⟨v, H1, I1, r, q⟩ := z
  exact ⟨v, H1, I1, r, h2 v H1 q⟩
/-! ### what a def leaves: all but states of draws -/
def isSt : HO → Bool
  | .lst [.ref _, .int _, .int _, .bl _] => true
  | _ => false
structure Keep (H H' : Hp) : Prop where
  get : ∀ a o, H a = some o → isSt o = false → H' a = some o
  dom : ∀ a, H' a = none → H a = none
theorem Keep.refl (H : Hp) : Keep H H := ⟨fun _ _ h _ => h, fun _ h => h⟩
theorem Keep.trans {H H1 H2 : Hp} (a : Keep H H1) (b : Keep H1 H2) : Keep H H2 := ⟨fun x o h z => b.get x o (a.get x o h z) z, fun x h => a.dom x (b.dom x h)⟩
theorem Keep.of_same {H H' : Hp} (s : Same H H') : Keep H H' := ⟨fun a o h _ => s a o h, fun _ h => s.free h⟩
theorem Same.new {H : Hp} {a : Addr} {o : HO} (h : H a = none) : Same H (upd H a o) := fun b u e => by
  rw [upd_ne (ne_of_none e h)]
  exact e
theorem Keep.new {H : Hp} {a : Addr} {o : HO} (h : H a = none) : Keep H (upd H a o) := .of_same (Same.new h)
theorem upd_none {H : Hp} {a b : Addr} {o : HO} (h : upd H a o b = none) : b ≠ a ∧ H b = none := by
  by_cases e : b = a
  · rw [e, upd_same] at h
    cases h
  · rw [upd_ne e] at h
    exact ⟨e, h⟩
/-- a write to what was not there at first -/
theorem Keep.wr {H0 H : Hp} {a : Addr} {o : HO} (k : Keep H0 H) (h : H0 a = none) : Keep H0 (upd H a o) where
  get := fun b u e z => by
    rw [upd_ne (ne_of_none e h)]
    exact k.get b u e z
  dom := fun b e => k.dom b (upd_none e).2
theorem sWr {H0 H : Hp} {a : Addr} {o : HO} (k : Same H0 H) (h : H0 a = none) : Same H0 (upd H a o) := fun b u e => by
  rw [upd_ne (ne_of_none e h)]
  exact k b u e
theorem isSt_refs : ∀ as : List Addr, isSt (.lst (as.map V.ref)) = false
  | [] => rfl
  | [_] => rfl
  | [_, _] => rfl
  | _ :: _ :: _ :: _ => rfl
theorem isSt_strs : ∀ as : List Str, isSt (.lst (as.map V.str)) = false
  | [] => rfl
  | _ :: _ => rfl
theorem isSt_ints : ∀ as : List Int, isSt (.lst (as.map V.int)) = false
  | [] => rfl
  | _ :: _ => rfl
theorem isSt_bls : ∀ as : List Bool, isSt (.lst (as.map V.bl)) = false
  | [] => rfl
  | _ :: _ => rfl
/-- the state of draws at st, its cells at c -/
def StAt (H : Hp) (st c : Addr) : Prop := ∃ (n r : Int) (m : Bool) (ns : List Int), H st = some (.lst [.ref c, .int n, .int r, .bl m]) ∧ H c = some (.lst (ns.map V.int)) ∧ ns.length ≤ 63
theorem StAt.same {H H' : Hp} {st c : Addr} (h : StAt H st c) (s : Same H H') : StAt H' st c := by
  obtain ⟨n, r, m, ns, h1, h2, h3⟩ := h
  exact ⟨n, r, m, ns, s _ _ h1, s _ _ h2, h3⟩
theorem StAt.wr {H : Hp} {st c a : Addr} {o : HO} (h : StAt H st c) (n : H a = none) : StAt (upd H a o) st c := h.same (Same.new n)
/-- the state stands where another thing is written: one that was new at an elder time -/
theorem StAt.wrN {H0 H : Hp} {st c a : Addr} {o : HO} (h : StAt H st c) (h0 : StAt H0 st c) (z : H0 a = none) : StAt (upd H a o) st c := by
  obtain ⟨n, r, m, ns, h1, h2, h3⟩ := h
  obtain ⟨n0, r0, m0, ns0, g1, g2, g3⟩ := h0
  exact ⟨n, r, m, ns, by rw [upd_ne (ne_of_none g1 z)]; exact h1, by rw [upd_ne (ne_of_none g2 z)]; exact h2, h3⟩
theorem Keep.st {H H' : Hp} {st : Addr} {o u : HO} (k : Keep H H') (e : H st = some o) (z : isSt o = true) : Keep H (L2.upd H' st u) where
  get := fun b v eb zb => by
    have nb : b ≠ st := fun q => by
      rw [q, e] at eb
      cases eb
      rw [z] at zb
      cases zb
    rw [upd_ne nb]
    exact k.get b v eb zb
  dom := fun b eb => k.dom b (upd_none eb).2
theorem st_put {H : Hp} {st c : Addr} {n r : Int} {m : Bool} (h : H st = some (.lst [.ref c, .int n, .int r, .bl m])) (hs : StAt H st c) (n' r' : Int) (m' : Bool) :
    Keep H (L2.upd H st (.lst [.ref c, .int n', .int r', .bl m'])) ∧ StAt (L2.upd H st (.lst [.ref c, .int n', .int r', .bl m'])) st c := by
  refine ⟨(Keep.refl H).st h rfl, ?_⟩
  obtain ⟨n2, r2, m2, ns, h1, h2, h3⟩ := hs
  refine ⟨n', r', m', ns, upd_same, ?_, h3⟩
  rw [upd_ne]
  · exact h2
  · refine ne_of h2 h fun q => ?_
    have z : isSt (.lst (ns.map V.int)) = isSt (.lst [.ref c, .int n, .int r, .bl m]) := by rw [q]
    rw [isSt_ints] at z
    cases z
/-- a run over H0 where the state at st, of the cells ns at c, stands -/
structure Fi (H0 : Hp) (st c : Addr) (ns : List Int) (H : Hp) : Prop where
  keep : Keep H0 H
  st0 : ∃ o, H0 st = some o ∧ isSt o = true
  at_ : ∃ n r m, H st = some (.lst [.ref c, .int n, .int r, .bl m])
  cs : H c = some (.lst (ns.map V.int))
  few : ns.length ≤ 63
theorem Fi.to {H0 H : Hp} {st c : Addr} {ns : List Int} (f : Fi H0 st c ns H) : StAt H st c := by
  obtain ⟨n, r, m, h⟩ := f.at_
  exact ⟨n, r, m, ns, h, f.cs, f.few⟩
theorem Fi.ne {H0 H : Hp} {st c : Addr} {ns : List Int} (f : Fi H0 st c ns H) : c ≠ st := by
  obtain ⟨n, r, m, h⟩ := f.at_
  refine ne_of f.cs h fun q => ?_
  have z : isSt (.lst (ns.map V.int)) = isSt (.lst [.ref c, .int n, .int r, .bl m]) := by rw [q]
  rw [isSt_ints] at z
  cases z
theorem Fi.set {H0 H : Hp} {st c : Addr} {ns : List Int} (f : Fi H0 st c ns H) (n r : Int) (m : Bool) : Fi H0 st c ns (L2.upd H st (.lst [.ref c, .int n, .int r, .bl m])) := by
  obtain ⟨o, h0, z⟩ := f.st0
  exact ⟨f.keep.st h0 z, ⟨o, h0, z⟩, ⟨n, r, m, upd_same⟩, by rw [upd_ne f.ne]; exact f.cs, f.few⟩
theorem Fi.new {H0 H : Hp} {st c a : Addr} {ns : List Int} {o : HO} (f : Fi H0 st c ns H) (h : H a = none) : Fi H0 st c ns (L2.upd H a o) := by
  obtain ⟨n, r, m, e⟩ := f.at_
  exact ⟨f.keep.trans (.new h), f.st0, ⟨n, r, m, by rw [upd_ne (ne_of_none e h)]; exact e⟩, by rw [upd_ne (ne_of_none f.cs h)]; exact f.cs, f.few⟩
theorem Fi.of {H : Hp} {st c : Addr} (h : StAt H st c) : ∃ ns, Fi H st c ns H := by
  obtain ⟨n, r, m, ns, h1, h2, h3⟩ := h
  exact ⟨ns, .refl H, ⟨_, h1, rfl⟩, ⟨n, r, m, h1⟩, h2, h3⟩
end K16

/-! K16Data: words, columns, tables, statements as plain data; how they stand in the heap -/
namespace K16
open PySem PySem.Spec PyProof.Rows L2 He
def LETTERS : Str := "abcdefghijklmnopqrstuvwxyz"
def SIGNS : Str := "abcdefghijklmnopqrstuvwxyz0123456789-"
def Written (signs : Str) (most : Nat) (s : Str) : Prop := 1 ≤ s.length ∧ s.length ≤ most ∧ ∀ c ∈ s.cps.toList, c ∈ signs.cps.toList
abbrev Word (s : Str) : Prop := Written LETTERS 8 s
structure Col where
  nm : Str
  kd : Str
  bare : Bool
  lone : Bool
  goal : V
  fate : Str
def Col.vs (c : Col) : List V := [.str c.nm, .str c.kd, .bl c.bare, .bl c.lone, c.goal, .str c.fate]
abbrev Cols := List Col
abbrev Desc := List (Str × Cols)
/-- a worth of a kind -/
def WOk (kd : Str) (v : V) : Prop :=
  (kd = "whole" ∧ ∃ i, v = .int i) ∨ (kd = "text" ∧ ∃ s, v = .str s ∧ Written SIGNS 12 s) ∨ (kd = "truth" ∧ ∃ b, v = .bl b) ∨ (kd = "link" ∧ ∃ i, v = .int i ∧ 1 ≤ i)
structure ColOk (ws : List Str) (c : Col) : Prop where
  nm : Word c.nm
  kd : c.kd = "whole" ∨ c.kd = "text" ∨ c.kd = "truth" ∨ c.kd = "link"
  goal : (c.kd = "link" ∧ ∃ w, c.goal = .str w ∧ w ∈ ws) ∨ (c.kd ≠ "link" ∧ c.goal = .non)
  fate : c.fate = "bar" ∨ (c.kd = "link" ∧ c.fate = "along") ∨ (c.kd = "link" ∧ c.bare = true ∧ c.fate = "empty")
structure ColsOk (ws : List Str) (cs : Cols) : Prop where
  few : 1 ≤ cs.length ∧ cs.length ≤ 5
  nd : (cs.map (·.nm)).Nodup
  ok : ∀ c ∈ cs, ColOk ws c
structure DescOk (d : Desc) : Prop where
  few : 1 ≤ d.length ∧ d.length ≤ 3
  nd : (d.map (·.1)).Nodup
  word : ∀ e ∈ d, Word e.1
  ok : ∀ e ∈ d, ColsOk (d.map (·.1)) e.2
abbrev Row := List (Str × V)
abbrev Rows := List (Int × Row)
abbrev Tabs := List (Str × Rows)
/-! ### in the heap -/
theorem pMap {α β : Type} {F G : α → β → Prop} {l₁ : List α} {l₂ : List β} (h : Paired F l₁ l₂) (f : ∀ a b, F a b → G a b) : Paired G l₁ l₂ := Paired.mapP h f
def ColT (H : Hp) (a : Addr) (c : Col) : Prop := H a = some (.tup c.vs)
def ColsL (H : Hp) (p : Addr) (cs : Cols) : Prop := ∃ as, H p = some (.lst (as.map V.ref)) ∧ Paired (ColT H) as cs
def TabT (H : Hp) (a : Addr) (e : Str × Cols) : Prop := ∃ p, H a = some (.tup [.str e.1, .ref p]) ∧ ColsL H p e.2
def DescL (H : Hp) (p : Addr) (d : Desc) : Prop := ∃ as, H p = some (.lst (as.map V.ref)) ∧ Paired (TabT H) as d
theorem ColsL.keep {H H' : Hp} {p : Addr} {cs : Cols} (h : ColsL H p cs) (k : Keep H H') : ColsL H' p cs := by
  obtain ⟨as, h1, h2⟩ := h
  exact ⟨as, k.get _ _ h1 (isSt_refs _), pMap h2 fun a c z => k.get _ _ z rfl⟩
theorem DescL.keep {H H' : Hp} {p : Addr} {d : Desc} (h : DescL H p d) (k : Keep H H') : DescL H' p d := by
  obtain ⟨as, h1, h2⟩ := h
  refine ⟨as, k.get _ _ h1 (isSt_refs _), pMap h2 fun a c z => ?_⟩
  obtain ⟨q, z1, z2⟩ := z
  exact ⟨q, k.get _ _ z1 rfl, z2.keep k⟩
def colF (c : Col) : List (Str × V) := [("name", .str c.nm), ("kind", .str c.kd), ("empty", .bl c.bare), ("once", .bl c.lone), ("to", c.goal), ("gone", .str c.fate)]
abbrev CC (K : Fr) : Addr := ga K "Column"
abbrev CS (K : Fr) : Addr := ga K "Schema"
def ColI (K : Fr) (H : Hp) (a : Addr) (c : Col) : Prop := ∃ dx, H a = some (.ins (CC K) dx (colF c))
def ColsI (K : Fr) (H : Hp) (p : Addr) (cs : Cols) : Prop := ∃ as, H p = some (.lst (as.map V.ref)) ∧ Paired (ColI K H) as cs
def formKV (d : Desc) (ps : List Addr) : List (Key × V) := (d.zip ps).map fun q => (.inr q.1.1, .ref q.2)
def SchI (K : Fr) (H : Hp) (a : Addr) (d : Desc) : Prop := ∃ dx f ps, H a = some (.ins (CS K) dx [("forms", .ref f)]) ∧ H f = some (.dK (formKV d ps)) ∧ Paired (fun p (e : Str × Cols) => ColsI K H p e.2) ps d
theorem ColsI.keep {K : Fr} {H H' : Hp} {p : Addr} {cs : Cols} (h : ColsI K H p cs) (k : Keep H H') : ColsI K H' p cs := by
  obtain ⟨as, h1, h2⟩ := h
  refine ⟨as, k.get _ _ h1 (isSt_refs _), pMap h2 fun a c z => ?_⟩
  obtain ⟨dx, z⟩ := z
  exact ⟨dx, k.get _ _ z rfl⟩
theorem SchI.keep {K : Fr} {H H' : Hp} {p : Addr} {d : Desc} (h : SchI K H p d) (k : Keep H H') : SchI K H' p d := by
  obtain ⟨dx, f, ps, h1, h2, h3⟩ := h
  exact ⟨dx, f, ps, k.get _ _ h1 rfl, k.get _ _ h2 rfl, pMap h3 fun a c z => z.keep k⟩
/-! tables with the places of their dicts -/
abbrev ARow := Int × Addr × Row
abbrev ATab := Str × Addr × List ARow
def rowK (r : Row) : List (Key × V) := r.map fun q => (.inr q.1, q.2)
def rowsK (rs : List ARow) : List (Key × V) := rs.map fun r => (.inl r.1, .ref r.2.1)
def tabsK (A : List ATab) : List (Key × V) := A.map fun t => (.inr t.1, .ref t.2.1)
def RowsD (H : Hp) (q : Addr) (rs : List ARow) : Prop := H q = some (.dK (rowsK rs)) ∧ ∀ r ∈ rs, H r.2.1 = some (.dK (rowK r.2.2))
def TabsD (H : Hp) (p : Addr) (A : List ATab) : Prop := H p = some (.dK (tabsK A)) ∧ ∀ t ∈ A, RowsD H t.2.1 t.2.2
def plR (rs : List ARow) : Rows := rs.map fun r => (r.1, r.2.2)
def plT (A : List ATab) : Tabs := A.map fun t => (t.1, plR t.2.2)
def footR (rs : List ARow) : List Addr := rs.map fun r => r.2.1
def foot (A : List ATab) : List Addr := A.flatMap fun t => t.2.1 :: footR t.2.2
theorem RowsD.keep {H H' : Hp} {q : Addr} {rs : List ARow} (h : RowsD H q rs) (k : Keep H H') : RowsD H' q rs :=
  ⟨k.get _ _ h.1 rfl, fun r hr => k.get _ _ (h.2 r hr) rfl⟩
theorem TabsD.keep {H H' : Hp} {p : Addr} {A : List ATab} (h : TabsD H p A) (k : Keep H H') : TabsD H' p A :=
  ⟨k.get _ _ h.1 rfl, fun t ht => (h.2 t ht).keep k⟩
/-! statements -/
inductive Kd where
  | put | set | drop
  deriving DecidableEq
structure Stm where
  kd : Kd
  tab : Str
  key : Int
  prs : Row
def prT (H : Hp) (a : Addr) (q : Str × V) : Prop := H a = some (.tup [.str q.1, q.2])
def PrsT (H : Hp) (p : Addr) (ps : Row) : Prop := ∃ (ob : Obj) (as : List Addr), ob.dict = none ∧ H p = some (.frz ob (.tup (as.map V.ref))) ∧ Paired (prT H) as ps
def StmT (H : Hp) (a : Addr) (s : Stm) : Prop := match s.kd with
  | .put => ∃ q, H a = some (.tup [.str "put", .str s.tab, .int s.key, .ref q]) ∧ PrsT H q s.prs
  | .set => ∃ q, H a = some (.tup [.str "set", .str s.tab, .int s.key, .ref q]) ∧ PrsT H q s.prs
  | .drop => H a = some (.tup [.str "drop", .str s.tab, .int s.key]) ∧ s.prs = []
theorem PrsT.keep {H H' : Hp} {p : Addr} {ps : Row} (h : PrsT H p ps) (k : Keep H H') : PrsT H' p ps := by
  obtain ⟨ob, as, h0, h1, h2⟩ := h
  exact ⟨ob, as, h0, k.get _ _ h1 rfl, pMap h2 fun a c z => k.get _ _ z rfl⟩
theorem StmT.keep {H H' : Hp} {p : Addr} {s : Stm} (h : StmT H p s) (k : Keep H H') : StmT H' p s := by
  obtain ⟨kd, tab, key, prs⟩ := s
  cases kd with
  | put =>
    obtain ⟨q, h1, h2⟩ := h
    exact ⟨q, k.get _ _ h1 rfl, h2.keep k⟩
  | set =>
    obtain ⟨q, h1, h2⟩ := h
    exact ⟨q, k.get _ _ h1 rfl, h2.keep k⟩
  | drop => exact ⟨k.get _ _ h.1 rfl, h.2⟩
/-! ### lists side by side -/
theorem pAt {α β : Type} {F : α → β → Prop} : ∀ {l₁ : List α} {l₂ : List β} {i : Nat} {a : α}, Paired F l₁ l₂ → l₁[i]? = some a → ∃ b, l₂[i]? = some b ∧ F a b
  | _, _, 0, _, .cons r _, e => by
    cases e
    exact ⟨_, rfl, r⟩
  | _, _, i + 1, _, .cons _ t, e => by
    obtain ⟨b, h1, h2⟩ := pAt (i := i) t (by simpa using e)
    exact ⟨b, by simpa using h1, h2⟩
  | _, _, _, _, .nil, e => by simp at e
theorem pAt2 {α β : Type} {F : α → β → Prop} : ∀ {l₁ : List α} {l₂ : List β} {i : Nat} {b : β}, Paired F l₁ l₂ → l₂[i]? = some b → ∃ a, l₁[i]? = some a ∧ F a b
  | _, _, 0, _, .cons r _, e => by
    cases e
    exact ⟨_, rfl, r⟩
  | _, _, i + 1, _, .cons _ t, e => by
    obtain ⟨b, h1, h2⟩ := pAt2 (i := i) t (by simpa using e)
    exact ⟨b, by simpa using h1, h2⟩
  | _, _, _, _, .nil, e => by simp at e
theorem pSnoc {α β : Type} {F : α → β → Prop} : ∀ {l₁ : List α} {l₂ : List β} {a : α} {b : β}, Paired F l₁ l₂ → F a b → Paired F (l₁ ++ [a]) (l₂ ++ [b])
  | _, _, _, _, .nil, h => .cons h .nil
  | _, _, _, _, .cons r t, h => .cons r (pSnoc t h)
theorem map_at {α β : Type} {f : α → β} {l : List α} {i : Nat} {y : β} (h : (l.map f)[i]? = some y) : ∃ x, l[i]? = some x ∧ y = f x := by
  rw [List.getElem?_map] at h
  cases e : l[i]? with
  | none =>
    rw [e] at h
    cases h
  | some x =>
    rw [e] at h
    exact ⟨x, rfl, (Option.some.inj h).symm⟩
theorem take_snoc {α : Type} {l : List α} {i : Nat} {x : α} (h : l[i]? = some x) : l.take (i + 1) = l.take i ++ [x] := by
  rw [List.take_succ, h]
  rfl
theorem lt_of_at {α : Type} {l : List α} {i : Nat} {x : α} (h : l[i]? = some x) : i < l.length := (List.getElem?_eq_some_iff.mp h).1
theorem at_g {α : Type} {xs : List α} {z : Int} {j : Nat} {v : α} (e : z = (j : Int)) (h : xs[j]? = some v) : atI xs z = some v := by
  rw [e]
  exact atI_nat h
/-- a comprehension over a text's signs -/
theorem lc_text {x : Str} {g : TG} {tt : TT} {te : TE} {vs : List Nat} {σ : St} {H1 : Hp} {D : Addr} {Qd : Hp → Prop} (Pv : Nat → Hp → Prop) (h0 : Pv 0 (upd H1 D (.lst [])))
    (hs : ∀ i c H, x.cps.toList[i]? = some c → Pv i H → g (.str ⟨#[c]⟩) (wipe σ vs) H fun σ2 H2 => wipe σ2 vs = wipe σ vs ∧ tt σ2 H2 fun b H3 =>
      if b = true then te σ2 H3 fun y H4 => ∃ acc, H4 D = some (.lst acc) ∧ acc.length < sizeLine ∧ Pv (i + 1) (upd H4 D (.lst (acc ++ [y]))) else Pv (i + 1) H3) (hd : ∀ H, Pv x.cps.toList.length H → Qd H) :
    ∃ W : Nat → Nat → Hp → Prop, (∃ m, W 0 m (upd H1 D (.lst []))) ∧ ∀ i m H, W i m H →
      ((Its x).stop i H ∧ Qd H) ∨ ((Its x).go i H ∧ ∃ Nx : Hp → Prop, (∀ H', Nx H' → ∃ m', m' < m ∧ W (i + 1) m' H') ∧ ∀ v H', (Its x).yld i H v H' → g v (wipe σ vs) H' fun σ2 H2 => wipe σ2 vs = wipe σ vs ∧ tt σ2 H2 fun b H3 =>
        if b = true then te σ2 H3 fun y H4 => ∃ acc, H4 D = some (.lst acc) ∧ acc.length < sizeLine ∧ Nx (upd H4 D (.lst (acc ++ [y]))) else Nx H3) := by
  have sz : x.cps.toList.length = x.cps.size := by simp
  refine ⟨fun i m H => i ≤ x.cps.size ∧ m = x.cps.size - i ∧ Pv i H, ⟨_, Nat.zero_le _, rfl, h0⟩, fun i m H hW => ?_⟩
  obtain ⟨hi, rfl, hp⟩ := hW
  rcases Nat.lt_or_ge i x.cps.size with lt | ge
  · refine .inr ⟨lt, fun H' => Pv (i + 1) H', fun H' h' => ⟨x.cps.size - (i + 1), by omega, lt, rfl, h'⟩, fun v H' hy => ?_⟩
    obtain ⟨rfl, c, hc, rfl⟩ := hy
    exact hs i c _ (by simpa using hc) hp
  · have e : i = x.cps.toList.length := by omega
    subst e
    exact .inl ⟨ge, hd H hp⟩
/-- a for loop over a text's signs -/
theorem for_text {x : Str} {g : TG} {tb : TS} {D : Ends} {σ : St} {H : Hp} (Pv : Nat → St → Hp → Prop) (h0 : Pv 0 σ H)
    (hs : ∀ i c σ H, x.cps.toList[i]? = some c → Pv i σ H → g (.str ⟨#[c]⟩) σ H fun σ2 H2 => tb { D with nx := Pv (i + 1), ct := Pv (i + 1), bk := D.nx } σ2 H2) (hd : ∀ σ H, Pv x.cps.toList.length σ H → D.nx σ H) :
    ∃ W : Nat → Nat → St → Hp → Prop, (∃ m, W 0 m σ H) ∧ ∀ i m σ H, W i m σ H →
      ((Its x).stop i H ∧ D.nx σ H) ∨ ((Its x).go i H ∧ ∃ N : St → Hp → Prop, (∀ σ' H', N σ' H' → ∃ m', m' < m ∧ W (i + 1) m' σ' H') ∧ ∀ v H', (Its x).yld i H v H' → g v σ H' fun σ2 H2 => tb { D with nx := N, ct := N, bk := D.nx } σ2 H2) := by
  have sz : x.cps.toList.length = x.cps.size := by simp
  refine ⟨fun i m σ H => i ≤ x.cps.size ∧ m = x.cps.size - i ∧ Pv i σ H, ⟨_, Nat.zero_le _, rfl, h0⟩, fun i m σ H hW => ?_⟩
  obtain ⟨hi, rfl, hp⟩ := hW
  rcases Nat.lt_or_ge i x.cps.size with lt | ge
  · refine .inr ⟨lt, fun σ' H' => Pv (i + 1) σ' H', fun σ' H' h' => ⟨x.cps.size - (i + 1), by omega, lt, rfl, h'⟩, fun v H' hy => ?_⟩
    obtain ⟨rfl, c, hc, rfl⟩ := hy
    exact hs i c _ _ (by simpa using hc) hp
  · have e : i = x.cps.toList.length := by omega
    subst e
    exact .inl ⟨ge, hd σ H hp⟩
/-- what stands where another kind of thing is written -/
theorem upd_at {H : Hp} {a b : Addr} {o u v : HO} (h : H a = some o) (e : H b = some u) (d : o ≠ u) : upd H b v a = some o := by
  rw [upd_ne (ne_of h e d)]
  exact h
theorem colsT_wr {H : Hp} {p : Addr} {xs : List V} {v : HO} {as : List Addr} {cs : Cols} (h : Paired (ColT H) as cs) (e : H p = some (.lst xs)) : Paired (ColT (upd H p v)) as cs :=
  pMap h fun a c z => upd_at z e fun q => nomatch q
theorem ColsL.wr {H : Hp} {q p : Addr} {v : HO} {xs : List V} {cs : Cols} (h : ColsL H q cs) (e : H p = some (.lst xs)) (n : q ≠ p) : ColsL (upd H p v) q cs := by
  obtain ⟨as, h1, h2⟩ := h
  exact ⟨as, by rw [upd_ne n]; exact h1, colsT_wr h2 e⟩
/-- a table's pair whose list of columns is not the list at dp -/
def TabN (dp : Addr) (H : Hp) (a : Addr) (e : Str × Cols) : Prop := ∃ p, p ≠ dp ∧ H a = some (.tup [.str e.1, .ref p]) ∧ ColsL H p e.2
theorem TabN.keep {dp : Addr} {H H' : Hp} {a : Addr} {e : Str × Cols} (h : TabN dp H a e) (k : Keep H H') : TabN dp H' a e := by
  obtain ⟨p, n, h1, h2⟩ := h
  exact ⟨p, n, k.get _ _ h1 rfl, h2.keep k⟩
theorem TabN.wr {dp : Addr} {H : Hp} {a : Addr} {e : Str × Cols} {v : HO} {xs : List V} (h : TabN dp H a e) (ed : H dp = some (.lst xs)) : TabN dp (upd H dp v) a e := by
  obtain ⟨p, n, h1, h2⟩ := h
  exact ⟨p, n, upd_at h1 ed (fun q => nomatch q), h2.wr ed n⟩
theorem TabN.to {dp : Addr} {H : Hp} {a : Addr} {e : Str × Cols} (h : TabN dp H a e) : TabT H a e := by
  obtain ⟨p, n, h1, h2⟩ := h
  exact ⟨p, h1, h2⟩
end K16

/-! K16Str: plain laws of texts -/
namespace K16
open PySem PySem.Spec PyProof.Rows L2
abbrev sgn (c : Nat) : Str := ⟨#[c]⟩
theorem e_empty : (Str.ofString "") = (⟨#[]⟩ : Str) := by decide +kernel
theorem str_nil (a : Str) : (⟨#[]⟩ : Str) ++ a = a := by
  show (⟨#[] ++ a.cps⟩ : Str) = a
  simp
theorem str_app (a b : Str) : a ++ b = ⟨a.cps ++ b.cps⟩ := rfl
theorem join_sgn : ∀ cs : List Nat, Str.join (⟨#[]⟩ : Str) (cs.map sgn) = ⟨cs.toArray⟩
  | [] => rfl
  | [c] => rfl
  | c :: d :: r => by
    have ih := join_sgn (d :: r)
    show sgn c ++ (⟨#[]⟩ : Str) ++ Str.join (⟨#[]⟩ : Str) ((d :: r).map sgn) = _
    rw [ih, str_app, str_app]
    simp
theorem join_codes (cs : List Nat) : Txt.join (Str.ofString "") (cs.map sgn) = ⟨cs.toArray⟩ := by
  rw [e_empty, show Txt.join (⟨#[]⟩ : Str) (cs.map sgn) = Str.join ⟨#[]⟩ (cs.map sgn) from PySem.StrLaws.glued_eq_join _ _]
  exact join_sgn cs
theorem sum_ones : ∀ cs : List Nat, ((cs.map sgn).map (·.length)).sum = cs.length
  | [] => rfl
  | c :: r => by
    have ih := sum_ones r
    simp only [List.map_cons, List.sum_cons, List.length_cons]
    rw [ih]
    show 1 + r.length = _
    omega
theorem len_empty : (Str.ofString "").length = 0 := by decide +kernel
theorem len_letters : LETTERS.length = 26 := by decide +kernel
theorem len_signs : SIGNS.length = 37 := by decide +kernel
theorem letters_len : LETTERS.cps.toList.length = 26 := by decide +kernel
theorem signs_len : SIGNS.cps.toList.length = 37 := by decide +kernel
theorem letters_nd : LETTERS.cps.toList.Nodup := by decide +kernel
theorem written_codes {g : Str} {m : Nat} {cs : List Nat} (h1 : 1 ≤ cs.length) (h2 : cs.length ≤ m) (h : ∀ c ∈ cs, c ∈ g.cps.toList) : Written g m ⟨cs.toArray⟩ := by
  refine ⟨?_, ?_, ?_⟩
  · show 1 ≤ cs.toArray.size
    simpa using h1
  · show cs.toArray.size ≤ m
    simpa using h2
  · simpa using h
theorem written_cut {g : Str} {m : Nat} {z : Str} (h : Written g m z) (hm : 1 ≤ m) : Written g m (cutS z none (some 1)) := by
  obtain ⟨h1, h2, h3⟩ := h
  have e : cutS z none (some 1) = ⟨(z.cps.toList.take 1).toArray⟩ := by
    unfold cutS
    have a1 : HT.sIx z.length 0 none = 0 := rfl
    have a2 : HT.sIx z.length z.length (some (1 : Int)) = 1 := by
      have q := HT.sIx_nat z.length z.length 1
      rw [show ((1 : Nat) : Int) = 1 from rfl] at q
      rw [q]
      omega
    rw [a1, a2]
    simp
  rw [e]
  have lz : z.cps.toList.length = z.length := by simp [Str.length]
  refine written_codes ?_ ?_ fun c hc => h3 c (List.mem_of_mem_take hc)
  · rw [List.length_take, lz]
    omega
  · rw [List.length_take]
    omega
/-- of distinct things few are struck out -/
theorem filter_many {α : Type} [DecidableEq α] : ∀ (l ws : List α), l.Nodup → l.length ≤ (l.filter fun x => !decide (x ∈ ws)).length + ws.length := by
  intro l ws
  induction ws with
  | nil =>
    intro _
    have e : (l.filter fun x => !decide (x ∈ ([] : List α))) = l := List.filter_eq_self.mpr (by simp)
    rw [e]
    simp
  | cons a ws ih =>
    intro nd
    have h := ih nd
    have e : (l.filter fun x => !decide (x ∈ a :: ws)) = (l.filter fun x => !decide (x ∈ ws)).filter fun x => !decide (x = a) := by
      rw [List.filter_filter]
      apply List.filter_congr
      intro x _
      simp only [List.mem_cons, Bool.decide_or, Bool.not_or]
    rw [e]
    have nd2 : (l.filter fun x => !decide (x ∈ ws)).Nodup := nd.sublist (List.filter_sublist)
    have one : ∀ m : List α, m.Nodup → m.length ≤ (m.filter fun x => !decide (x = a)).length + 1 := by
      intro m
      induction m with
      | nil => simp
      | cons b m ihm =>
        intro ndm
        obtain ⟨n1, n2⟩ := List.nodup_cons.mp ndm
        by_cases hb : b = a
        · subst hb
          have e2 : (m.filter fun x => !decide (x = b)) = m := List.filter_eq_self.mpr (by
            intro x hx
            have : x ≠ b := fun z => n1 (z ▸ hx)
            simp [this])
          rw [List.filter_cons]
          simp [e2]
        · have := ihm n2
          rw [List.filter_cons]
          simp [hb]
          omega
    have := one _ nd2
    simp only [List.length_cons]
    omega
theorem sgn_inj {a b : Nat} (h : sgn a = sgn b) : a = b := by
  have := congrArg (fun s : Str => s.cps.toList) h
  simpa using this
theorem nd_map {α β : Type} {f : α → β} (hf : ∀ a b, f a = f b → a = b) : ∀ {l : List α}, l.Nodup → (l.map f).Nodup
  | [], _ => List.nodup_nil
  | a :: r, h => by
    obtain ⟨h1, h2⟩ := List.nodup_cons.mp h
    refine List.nodup_cons.mpr ⟨fun m => ?_, nd_map hf h2⟩
    obtain ⟨b, hb, e⟩ := List.mem_map.mp m
    exact h1 ((hf _ _ e) ▸ hb)
/-- the letters that stand in none of these words -/
def others (ws : List Str) : List Str := (LETTERS.cps.toList.map sgn).filter fun x => !decide (x ∈ ws)
theorem others_many {ws : List Str} (h : ws.length ≤ 6) : 20 ≤ (others ws).length := by
  have q := filter_many (LETTERS.cps.toList.map sgn) ws (nd_map (fun _ _ => sgn_inj) letters_nd)
  rw [List.length_map, letters_len] at q
  unfold others
  omega
theorem others_mem {ws : List Str} {s : Str} (h : s ∈ others ws) : Word s ∧ ¬ s ∈ ws := by
  obtain ⟨h1, h2⟩ := List.mem_filter.mp h
  obtain ⟨c, hc, rfl⟩ := List.mem_map.mp h1
  refine ⟨⟨Nat.le_refl 1, (by show 1 ≤ 8; omega), ?_⟩, by simpa using h2⟩
  intro x hx
  have e : x = c := by simpa using hx
  rw [e]
  exact hc
/-- equal flat things -/
theorem inV_strs (s : Str) : ∀ ws : List Str, inV (.str s) (ws.map V.str) = decide (s ∈ ws)
  | [] => rfl
  | x :: r => by
    have ih := inV_strs s r
    unfold inV at ih ⊢
    rw [List.map_cons, List.any_cons, ih]
    have e : eqV (.str x) (.str s) = decide (s = x) := by
      show (x == s) = _
      by_cases h : s = x
      · subst h
        simp
      · have h2 : ¬ x = s := fun z => h z.symm
        simp [h, h2]
    rw [e]
    simp [List.mem_cons, Bool.decide_or]
theorem flat_strs (ws : List Str) : (ws.map V.str).all flatV = true := by
  rw [List.all_eq_true]
  intro x hx
  obtain ⟨s, _, rfl⟩ := List.mem_map.mp hx
  rfl
theorem nd_app {α : Type} {l : List α} {x : α} (h : l.Nodup) (n : ¬ x ∈ l) : (l ++ [x]).Nodup := by
  rw [List.nodup_append]
  refine ⟨h, by simp, fun a ha b hb e => ?_⟩
  have : b = x := by simpa using hb
  rw [e, this] at ha
  exact n ha
def owns : List Str := ["key", "put", "set", "drop", "link", "none", "first", "all", "empty", "x"]
instance (g : Str) (m : Nat) (s : Str) : Decidable (Written g m s) := by
  unfold Written
  exact inferInstance
theorem owns_word : ∀ s ∈ owns, Word s := by decide +kernel
end K16

/-! K16A: the state of draws -/
namespace K16
open PySem PySem.Spec PyProof.Rows L2 He
section
variable {P : Program} {w : World} {K : Fr} {mg : Str → Option Value} {base : Heap}
def spFresh (K : Fr) : Sp := fun vs H Q _ => ∃ (a : Addr) (ns : List Int), vs = [.ref a] ∧ SqL K H a (ns.map V.int) ∧ ns.length ≤ 63 ∧ ∀ st c H', Same H H' → StAt H' st c → Q (.ref st) H'
theorem sc_l_fresh : FnScope n_l_fresh p_l_fresh (defScope s_l_fresh) := ⟨rfl, rfl, rfl, by decide +kernel, rfl, by decide +kernel, by decide +kernel⟩
theorem ok_fresh (T : Txt K mg w) (F : ∃ fd, FnT K "_law_fresh" "_law_fresh" s_l_fresh [] (a_l_fresh K) fd) : OkD P w K mg base CX0 1 (a_l_fresh K) p_l_fresh (spFresh K) := by
  refine okD F sc_l_fresh (fun _ _ _ _ _ _ us hl => match us, hl with | [_], _ => rfl) (fun vs H Q E h => ?_) (fun cdv A outer s H vs Q E hr h => ?_)
  · obtain ⟨a, ns, rfl, _⟩ := h
    rfl
  · obtain ⟨a, ns, rfl, hS, hl, k⟩ := h
    refine ⟨_, (pss_one (ps_ret (pe_lst (pa_cons (pe_slice sl_list (pv 0) po_none (po_some pe_int)) (pa_cons pe_int (pa_cons pe_int (pa_cons pe_bl pa_nil))))))), ?_⟩
    refine ⟨_, rfl, _, rfl, a, _, rfl, hS, fun c hc => ?_⟩
    refine ⟨by show 4 ≤ sizeLine; decide, fun st hst => ?_⟩
    obtain ⟨ne, n0⟩ := upd_none hst
    refine k st c _ ((Same.new hc).trans (Same.new hst)) ⟨0, 0, false, ns, upd_same, ?_, hl⟩
    rw [upd_ne (Ne.symm ne), upd_same]
    have e : cutV (ns.map V.int) none (some 63) = ns.map V.int := by
      show ((ns.map V.int).drop 0).take (HT.sIx (ns.map V.int).length (ns.map V.int).length (some ((63 : Nat) : Int)) - 0) = _
      rw [HT.sIx_nat, List.length_map, List.drop_zero]
      apply List.take_of_length_le
      rw [List.length_map]
      omega
    rw [e]
theorem at_new {H : Hp} {p T : Addr} {o u : HO} (h : H p = some o) (n : H T = none) : upd H T u p = some o := by
  rw [upd_ne (ne_of_none h n)]
  exact h
def primes : List V := [.int 2147483647, .int 2147483629, .int 2147483587, .int 2147483579, .int 2147483563]
theorem prime_at {i : Nat} {x : V} (h : primes[i]? = some x) : ∃ pr : Int, x = .int pr ∧ 0 < pr ∧ pr < 2147483648 ∧ i < 5 := by
  match i, h with
  | 0, h => exact ⟨2147483647, (Option.some.inj h).symm, by decide, by decide, by decide⟩
  | 1, h => exact ⟨2147483629, (Option.some.inj h).symm, by decide, by decide, by decide⟩
  | 2, h => exact ⟨2147483587, (Option.some.inj h).symm, by decide, by decide, by decide⟩
  | 3, h => exact ⟨2147483579, (Option.some.inj h).symm, by decide, by decide, by decide⟩
  | 4, h => exact ⟨2147483563, (Option.some.inj h).symm, by decide, by decide, by decide⟩
  | n + 5, h => cases h
def spFill : Sp := fun vs H Q _ => ∃ st c, vs = [.ref st] ∧ StAt H st c ∧ ∀ H', Keep H H' → StAt H' st c → Q .non H'
theorem sc_l_fill : FnScope n_l_fill p_l_fill (defScope s_l_fill) := ⟨rfl, rfl, rfl, by decide +kernel, rfl, by decide +kernel, by decide +kernel⟩
theorem ok_fill (T : Txt K mg w) (F : ∃ fd, FnT K "_law_fill" "_law_fill" s_l_fill [] (a_l_fill K) fd) : OkD P w K mg base CX0 1 (a_l_fill K) p_l_fill spFill := by
  refine okD F sc_l_fill (fun _ _ _ _ _ _ us hl => match us, hl with | [_], _ => rfl) (fun vs H Q E h => ?_) (fun cdv A outer s H vs Q E hr h => ?_)
  · obtain ⟨st, c, rfl, _⟩ := h
    rfl
  · obtain ⟨st, c, rfl, hst, k⟩ := h
    obtain ⟨ns, f⟩ := Fi.of hst
    obtain ⟨n, r, m, h1⟩ := f.at_
    refine ⟨_, (pss_cons (ps_par (i := 1) (j := 2) (by rfl) sc_l_fill.nd rfl rfl (by decide) rfl rfl (pa_cons (pe_ix ix_list (pv 0) pe_int (fun _ _ => rfl)) (pa_cons (pe_ix ix_list (pv 0) pe_int (fun _ _ => rfl)) pa_nil)) (by rfl))
      (pss_cons (ps_set (i := 3) sc_l_fill.nd rfl (Or.inl rfl) (pe_op op_add (pe_op op_mul pe_int (pv 2)) pe_int))
      (C8.pss_cut (ps_if (pt_cmpR op_gt (pe_callB call_len_seq (by rfl) T.z_len (by decide +kernel) (pa_cons (pv 1) pa_nil)) pe_int (nomark _)) (pss_one (ps_set (i := 3) sc_l_fill.nd rfl (Or.inl rfl) (pe_op op_add (pe_op op_mul pe_int (pe_op op_fdiv (pv 2) (pe_callB call_len_seq (by rfl) T.z_len (by decide +kernel) (pa_cons (pv 1) pa_nil)))) (pe_ix ix_list (pv 1) (pe_op op_mod (pv 2) (pe_callB call_len_seq (by rfl) T.z_len (by decide +kernel) (pa_cons (pv 1) pa_nil))) (fun _ _ => rfl))))) pss_nil)
      (pss_cons (ps_asg (pe_op op_add (pv 2) pe_int) (pg_sub (pv 0) pe_int set_list))
      (C8.pss_cut (ps_asg (pe_or (pe_cmpR op_ge (pv 2) (pe_callB call_len_seq (by rfl) T.z_len (by decide +kernel) (pa_cons (pv 1) pa_nil)) (nomark _)) (pe_one (pe_cmpR op_lt (pv 3) (pe_op op_pow pe_int pe_int) (nomark _)))) (pg_sub (pv 0) pe_int set_list))
      (pss_cons (ps_asg (pe_op op_sub (pv 3) (pe_op op_pow pe_int pe_int)) (pg_sub (pv 0) pe_int set_list))
      (pss_one (ps_if (pt_val (pe_ix ix_list (pv 0) pe_int (fun _ _ => rfl))) (pss_cons (ps_asg pe_int (pg_sub (pv 0) pe_int set_list))
        (pss_one (ps_for PassesOwn.never rfl (pi_enumT (by rfl) T.z_enumerate (pa_cons (pe_tup (pa_cons pe_int (pa_cons pe_int (pa_cons pe_int (pa_cons pe_int (pa_cons pe_int pa_nil)))))) pa_nil)) (pg_tup rfl (pgs_cons (pg_name (i := 4) sc_l_fill.nd rfl (Or.inl rfl)) (pgs_cons (pg_name (i := 5) sc_l_fill.nd rfl (Or.inl rfl)) pgs_nil))) (pss_cons (ps_set (i := 6) sc_l_fill.nd rfl (Or.inl rfl) (pe_op op_mod (pe_op op_mul (pe_op op_add (pe_op op_add (pv 3) (pe_op op_mul (pe_op op_mul pe_int (pv 4)) (pv 4))) (pe_op op_mul pe_int (pv 4))) (pe_op op_add pe_int (pe_op op_mul pe_int (pv 4)))) (pv 5)))
          (pss_one (ps_asg (pe_op op_add (pe_op op_mul (pe_ix ix_list (pv 0) pe_int (fun _ _ => rfl)) (pv 5)) (pe_op op_mod (pe_op op_pow (pv 6) pe_int) (pv 5))) (pg_sub (pv 0) pe_int set_list))))))) pss_nil)))))))), ?_⟩
    refine ⟨_, rfl, st, _, _, _, rfl, rfl, SqL.of h1, rfl, _, rfl, st, _, _, _, rfl, rfl, SqL.of h1, rfl, _, _, rfl, ?_⟩
    -- seed
    refine ⟨_, rfl, _, _, rfl, rfl, .inl ⟨by decide, by decide⟩, _, _, rfl, rfl, ?_⟩
    refine ⟨fun σ' H' => ∃ z, σ' = [some (.ref st), some (.ref c), some (.int n), some (.int z), none, none, none] ∧ H' = H, ?_, ?_⟩
    · refine ⟨_, rfl, c, _, rfl, .inl (SqL.of f.cs), _, _, rfl, rfl, _, rfl, ?_⟩
      refine ite2 (fun c0 => ?_) (fun _ => ⟨_, rfl, rfl⟩)
      have pos : 0 < ns.length := by
        have z := of_decide_eq_true c0
        rw [List.length_map] at z
        omega
      have cd : CDiv n ((ns.map V.int).length : Int) := ⟨by rw [List.length_map]; omega, by rw [List.length_map]; have := f.few; omega⟩
      obtain ⟨x, hx⟩ : ∃ x, ns[(n % ((ns.map V.int).length : Int)).toNat]? = some x := by
        have l0 : 0 ≤ n % ((ns.map V.int).length : Int) := Int.emod_nonneg _ (by rw [List.length_map]; omega)
        have l1 : n % ((ns.map V.int).length : Int) < ((ns.map V.int).length : Int) := Int.emod_lt_of_pos _ (by rw [List.length_map]; omega)
        rw [List.length_map] at l0 l1 ⊢
        exact ⟨_, List.getElem?_eq_getElem (by omega)⟩
      have ha : atI (ns.map V.int) (n % ((ns.map V.int).length : Int)) = some (.int x) := by
        have l0 : 0 ≤ n % ((ns.map V.int).length : Int) := Int.emod_nonneg _ (by rw [List.length_map]; omega)
        refine at_of (j := (n % ((ns.map V.int).length : Int)).toNat) (by omega) ?_
        rw [List.getElem?_map, hx]
        rfl
      refine ⟨_, rfl, _, rfl, c, _, rfl, .inl (SqL.of f.cs), _, _, rfl, rfl, cd, _, _, rfl, rfl, .inl ⟨by decide, by decide⟩, ?_⟩
      refine ⟨_, rfl, _, rfl, _, rfl, c, _, rfl, .inl (SqL.of f.cs), _, _, rfl, rfl, cd.1, c, _, _, _, rfl, rfl, SqL.of f.cs, ha, _, _, rfl, rfl, ?_⟩
      exact ⟨_, rfl, rfl⟩
    · rintro σ' H' ⟨z, rfl, rfl⟩
      refine ⟨_, rfl, _, _, rfl, rfl, _, rfl, st, _, _, 1, rfl, rfl, h1, rfl, ?_⟩
      have f1 : Fi H' st c ns _ := f.set (n + 1) r m
      refine ⟨fun σ2 H2 => σ2 = [some (.ref st), some (.ref c), some (.int n), some (.int z), none, none, none] ∧ Fi H' st c ns H2, ?_, ?_⟩
      · refine ⟨_, rfl, _, rfl, c, _, rfl, .inl (SqL.of f1.cs), _, _, rfl, rfl, _, rfl, ?_⟩
        refine ite2 (fun _ => ?_) (fun _ => ?_)
        · exact ⟨_, rfl, st, _, _, 3, rfl, rfl, upd_same, rfl, rfl, f1.set _ _ _⟩
        · exact ⟨_, rfl, _, _, rfl, rfl, ⟨by decide, by decide, by decide⟩, _, _, rfl, rfl, _, rfl, st, _, _, 3, rfl, rfl, upd_same, rfl, rfl, f1.set _ _ _⟩
      · rintro σ2 H2 ⟨rfl, f2⟩
        obtain ⟨n2, r2, m2, g2⟩ := f2.at_
        refine ⟨_, rfl, _, _, rfl, rfl, ⟨by decide, by decide, by decide⟩, _, _, rfl, rfl, _, rfl, st, _, _, 2, rfl, rfl, g2, rfl, ?_⟩
        have f3 : Fi H' st c ns _ := f2.set n2 (z - 10 ^ (18 : Int).toNat) m2
        refine ⟨_, rfl, st, _, _, _, rfl, rfl, SqL.of upd_same, rfl, m2, rfl, ?_⟩
        cases m2 with
        | false => exact iteF (k _ f3.keep f3.to)
        | true =>
          refine iteT ?_
          refine ⟨_, rfl, st, _, _, 2, rfl, rfl, upd_same, rfl, ?_⟩
          have f4 : Fi H' st c ns _ := f3.set n2 0 true
          refine ⟨by show 5 ≤ sizeLine; decide, fun p hp => ?_⟩
          refine ⟨p, _, rfl, SqT.of upd_same, ?_⟩
          refine for_enumT (K := K) (a := p) (fun i σ H5 => ∃ v4 v5 v6, σ = [some (.ref st), some (.ref c), some (.int n), some (.int z), v4, v5, v6] ∧ Fi H' st c ns H5 ∧ H5 p = some (.tup primes))
            ⟨none, none, none, rfl, f4.new hp, upd_same⟩ (fun i σ H5 _ h => SqT.of h.choose_spec.choose_spec.choose_spec.2.2) ?_ ?_
          · rintro i x σ H5 T hx ⟨v4, v5, v6, rfl, f5, hp5⟩ hT
            obtain ⟨pr, rfl, p0, p1, i5⟩ := prime_at hx
            have f6 : Fi H' st c ns _ := f5.new (o := .tup [.int (i : Nat), .int pr]) hT
            obtain ⟨n6, r6, m6, g6⟩ := f6.at_
            refine ⟨T, _, rfl, SqT.of upd_same, rfl, _, _, rfl, _, _, rfl, rfl, ?_⟩
            have ci : CMul (10007 * (i : Int)) (i : Int) := .inr ⟨by omega, by omega⟩
            refine ⟨_, rfl, _, rfl, _, _, rfl, rfl, .inl ⟨by decide, by decide⟩, _, rfl, _, _, rfl, rfl, ci, _, _, rfl, rfl, ?_⟩
            refine ⟨_, rfl, _, _, rfl, rfl, .inl ⟨by decide, by decide⟩, _, _, rfl, rfl, ?_⟩
            have cj : CMul (z + 10007 * (i : Int) * (i : Int) + 101 * (i : Int)) (48271 + 2 * (i : Int)) := .inr ⟨by omega, by omega⟩
            refine ⟨_, rfl, _, _, rfl, rfl, .inl ⟨by decide, by decide⟩, _, _, rfl, rfl, _, _, rfl, rfl, cj, _, rfl, _, _, rfl, rfl, p0, ?_⟩
            have ck : CMul r6 pr := .inr ⟨by omega, by omega⟩
            have f0 := Int.emod_nonneg ((z + 10007 * (i : Int) * (i : Int) + 101 * (i : Int)) * (48271 + 2 * (i : Int))) (show pr ≠ 0 by omega)
            have f1' := Int.emod_lt_of_pos ((z + 10007 * (i : Int) * (i : Int) + 101 * (i : Int)) * (48271 + 2 * (i : Int))) p0
            have cp : CPow ((z + 10007 * (i : Int) * (i : Int) + 101 * (i : Int)) * (48271 + 2 * (i : Int)) % pr) 5 := ⟨by decide, by decide, by omega⟩
            refine ⟨_, rfl, st, _, _, _, rfl, rfl, SqL.of g6, rfl, _, rfl, r6, pr, rfl, rfl, ck, _, rfl, _, 5, rfl, rfl, cp, _, rfl, _, _, rfl, rfl, p0, _, _, rfl, rfl, _, rfl, st, _, _, 2, rfl, rfl, g6, rfl, ?_⟩
            exact ⟨_, _, _, rfl, f6.set n6 _ m6, by rw [upd_ne (ne_of (at_new hp5 hT) g6 (fun q => nomatch q))]; exact at_new hp5 hT⟩
          · rintro σ H5 ⟨v4, v5, v6, rfl, f5, _⟩
            exact k _ f5.keep f5.to
def spTake : Sp := fun vs H Q _ => ∃ (st c : Addr) (many : Int), vs = [.ref st, .int many] ∧ 0 < many ∧ many ≤ 10 ^ 30 ∧ StAt H st c ∧ ∀ d H', 0 ≤ d → d < many → Keep H H' → StAt H' st c → Q (.int d) H'
theorem sc_l_take : FnScope n_l_take p_l_take (defScope s_l_take) := ⟨rfl, rfl, rfl, by decide +kernel, rfl, by decide +kernel, by decide +kernel⟩
theorem ok_take (T : Txt K mg w) (O_l_fill : OkD P w K mg base CX0 1 (a_l_fill K) p_l_fill spFill) (F : ∃ fd, FnT K "_law_take" "_law_take" s_l_take [] (a_l_take K) fd) : OkD P w K mg base CX0 2 (a_l_take K) p_l_take spTake := by
  refine okD F sc_l_take (fun _ _ _ _ _ _ us hl => match us, hl with | [_, _], _ => rfl) (fun vs H Q E h => ?_) (fun cdv A outer s H vs Q E hr h => ?_)
  · obtain ⟨st, c, many, rfl, _⟩ := h
    rfl
  · obtain ⟨st, c, many, rfl, p0, p1, hst, k⟩ := h
    refine ⟨_, (pss_cons (ps_set (i := 2) sc_l_take.nd rfl (Or.inl rfl) pe_int)
      (pss_cons (ps_while PassesOwn.never (pt_mid (PW.pt (pw_and (pt_cmpR op_lt (pv 2) pe_int (nomark _)) (pw_and1 (PW.pt (pw_or (pt_cmpR op_eq (pe_ix ix_list (pv 0) pe_int (fun _ _ => rfl)) pe_int (nomark _)) (pw_or1 (PW.pt (pw_and (pt_val (pe_ix ix_list (pv 0) pe_int (fun _ _ => rfl))) (pw_and1 (pt_cmpR op_lt (pe_ix ix_list (pv 0) pe_int (fun _ _ => rfl)) (pe_op op_mul (pv 1) pe_int) (nomark _)))))))))))) (pss_cons (ps_expr (pe_own O_l_fill (hr.mono (by decide)) T.g__law_fill (pa_cons (pv 0) pa_nil)))
        (pss_cons (ps_aug (i := 2) sc_l_take.nd rfl (Or.inl rfl) pe_int ip_add)
        (pss_one (ps_if (pt_mid (PW.pt (pw_and (pt_val (pe_ix ix_list (pv 0) pe_int (fun _ _ => rfl))) (pw_and1 (pt_cmpR op_lt (pe_ix ix_list (pv 0) pe_int (fun _ _ => rfl)) (pe_op op_mul (pv 1) pe_int) (nomark _)))))) (pss_one (ps_asg (pe_op op_add (pe_ix ix_list (pv 0) pe_int (fun _ _ => rfl)) (pe_op op_mul (pe_op op_mul (pv 1) pe_int) (pe_op op_add pe_int (pe_op op_mod (pe_ix ix_list (pv 0) pe_int (fun _ _ => rfl)) pe_int)))) (pg_sub (pv 0) pe_int set_list))) pss_nil)))))
      (pss_cons (ps_set (i := 3) sc_l_take.nd rfl (Or.inl rfl) (pe_op op_mod (pe_ix ix_list (pv 0) pe_int (fun _ _ => rfl)) (pv 1)))
      (pss_cons (ps_asg (pe_op op_fdivW (pe_ix ix_list (pv 0) pe_int (fun _ _ => rfl)) (pv 1)) (pg_sub (pv 0) pe_int set_list))
      (pss_one (ps_ret (pv 3))))))), ?_⟩
    have c4 : CMul many 4096 := .inr ⟨by decide, by decide⟩
    refine ⟨fun m σ H1 => ∃ (t : Nat) (v3 : Option V), t + m = 64 ∧ σ = [some (.ref st), some (.int many), some (.int t), v3] ∧ Keep H H1 ∧ StAt H1 st c, ⟨64, 0, none, rfl, rfl, .refl H, hst⟩, ?_⟩
    rintro m σ H1 ⟨t, v3, ht, rfl, kp, hs⟩
    obtain ⟨n, r, b3, ns, h1, h2, h3⟩ := id hs
    refine ⟨fun b H2 => H2 = H1 ∧ (b = true → t < 64), ?_, ?_⟩
    · refine ⟨_, rfl, _, _, rfl, rfl, _, rfl, ite2 (fun lt => ?_) (fun _ => ⟨rfl, fun z => nomatch z⟩)⟩
      have lt' : t < 64 := by
        have z := of_decide_eq_true lt
        omega
      refine ⟨_, rfl, st, _, _, _, rfl, rfl, SqL.of h1, rfl, rfl, _, rfl, ite2 (fun _ => ⟨rfl, fun _ => lt'⟩) (fun _ => ?_)⟩
      refine ⟨_, rfl, st, _, _, _, rfl, rfl, SqL.of h1, rfl, b3, rfl, ite2 (fun _ => ?_) (fun _ => ⟨rfl, fun _ => lt'⟩)⟩
      exact ⟨_, rfl, st, _, _, _, rfl, rfl, SqL.of h1, rfl, _, rfl, _, _, rfl, rfl, c4, _, _, rfl, rfl, _, rfl, rfl, fun _ => lt'⟩
    · rintro b H2 ⟨rfl, hb⟩
      cases b with
      | true =>
        have lt := hb rfl
        refine iteT ⟨fun σ' H' => ∃ v3, σ' = [some (.ref st), some (.int many), some (.int ((t : Int) + 1)), v3] ∧ Keep H H' ∧ StAt H' st c, ?_, ?_⟩
        · rintro σ' H' ⟨v3, rfl, k', s'⟩
          exact ⟨m - 1, by omega, t + 1, v3, by omega, rfl, k', s'⟩
        · refine ⟨_, rfl, st, c, rfl, hs, fun H3 k3 s3 => ?_⟩
          refine ⟨_, rfl, _, _, rfl, rfl, ?_⟩
          obtain ⟨n4, r4, b4, ns4, g1, g2, g3⟩ := id s3
          refine ⟨fun b H4 => H4 = H3, ?_, ?_⟩
          · refine ⟨_, rfl, st, _, _, _, rfl, rfl, SqL.of g1, rfl, b4, rfl, ite2 (fun _ => ?_) (fun _ => rfl)⟩
            exact ⟨_, rfl, st, _, _, _, rfl, rfl, SqL.of g1, rfl, _, rfl, _, _, rfl, rfl, c4, _, _, rfl, rfl, _, rfl, rfl⟩
          · rintro b H4 rfl
            cases b with
            | true =>
              refine iteT ?_
              have cm : CMul (many * 4096) (1 + r4 % 4093) := .inr (by
                have a1 := Int.emod_nonneg r4 (show (4093 : Int) ≠ 0 by decide)
                have a2 := Int.emod_lt_of_pos r4 (show (0 : Int) < 4093 by decide)
                constructor <;> omega)
              refine ⟨_, rfl, st, _, _, _, rfl, rfl, SqL.of g1, rfl, _, rfl, _, _, rfl, rfl, c4, _, rfl, st, _, _, _, rfl, rfl, SqL.of g1, rfl, _, _, rfl, rfl, (by show (0 : Int) < 4093; decide), _, _, rfl, rfl, _, _, rfl, rfl, cm, _, _, rfl, rfl, ?_⟩
              refine ⟨_, rfl, st, _, _, 2, rfl, rfl, g1, rfl, ?_⟩
              obtain ⟨q1, q2⟩ := st_put g1 s3 n4 (r4 + many * 4096 * (1 + r4 % 4093)) b4
              exact ⟨v3, rfl, (kp.trans k3).trans q1, q2⟩
            | false => exact iteF ⟨v3, rfl, kp.trans k3, s3⟩
      | false =>
        refine iteF ?_
        refine ⟨_, rfl, st, _, _, _, rfl, rfl, SqL.of h1, rfl, _, rfl, _, _, rfl, rfl, p0, ?_⟩
        refine ⟨_, rfl, st, _, _, _, rfl, rfl, SqL.of h1, rfl, _, rfl, _, _, rfl, rfl, wide_div p0 (b := 100) (by omega) (by decide) (by decide), _, rfl, st, _, _, 2, rfl, rfl, h1, rfl, ?_⟩
        obtain ⟨q1, q2⟩ := st_put h1 hs n (r / many) b3
        exact ⟨_, rfl, k _ _ (Int.emod_nonneg _ (by omega)) (Int.emod_lt_of_pos _ p0) (kp.trans q1) q2⟩
end
end K16

/-! K16B: words drawn -/
namespace K16
open PySem PySem.Spec PyProof.Rows L2 He
section
variable {P : Program} {w : World} {K : Fr} {mg : Str → Option Value} {base : Heap}
def spWords : Sp := fun vs H Q _ => ∃ (st c : Addr) (many : Int), vs = [.ref st, .int many] ∧ 0 ≤ many ∧ many ≤ 5 ∧ StAt H st c ∧
  ∀ (p : Addr) (ws : List Str) (H' : Hp), Keep H H' → StAt H' st c → H p = none → H' p = some (.lst (ws.map V.str)) → (ws.length : Int) = many → ws.Nodup → (∀ s ∈ ws, Word s) → Q (.ref p) H'
theorem sc_l_words : FnScope n_l_words p_l_words (defScope s_l_words) := ⟨rfl, rfl, rfl, by decide +kernel, rfl, by decide +kernel, by decide +kernel⟩
theorem ok_words (T : Txt K mg w) (O_l_take : OkD P w K mg base CX0 2 (a_l_take K) p_l_take spTake) (F : ∃ fd, FnT K "_law_words" "_law_words" s_l_words [] (a_l_words K) fd) : OkD P w K mg base CX0 3 (a_l_words K) p_l_words spWords := by
  refine okD F sc_l_words (fun _ _ _ _ _ _ us hl => match us, hl with | [_, _], _ => rfl) (fun vs H Q E h => ?_) (fun cdv A outer s H vs Q E hr h => ?_)
  · obtain ⟨st, c, many, rfl, _⟩ := h
    rfl
  · obtain ⟨st, c, many, rfl, p0, p1, hst, k⟩ := h
    refine ⟨_, (pss_cons (ps_set (i := 2) sc_l_words.nd rfl (Or.inr rfl) pe_str)
      (pss_cons (ps_set (i := 3) sc_l_words.nd rfl (Or.inl rfl) (pe_tup (pa_cons pe_str (pa_cons pe_str (pa_cons pe_str (pa_cons pe_str (pa_cons pe_str (pa_cons pe_str (pa_cons pe_str (pa_cons pe_str (pa_cons pe_str (pa_cons pe_str pa_nil))))))))))))
      (pss_cons (ps_set (i := 4) sc_l_words.nd rfl (Or.inr rfl) (pe_lst pa_nil))
      (pss_cons (ps_for PassesOwn.never rfl (pi_range1 (by rfl) T.z_range (pa_cons (pv 1) pa_nil)) (pg_name (i := 5) sc_l_words.nd rfl (Or.inl rfl)) (pss_cons (ps_set (i := 6) sc_l_words.nd rfl (Or.inl rfl) (pe_join pe_str (pe_lc (own := [("_law_turn", 7)]) (g := (gName 7)) (tt := tYes) rfl sc_l_words.nd (pi_range1 (by rfl) T.z_range (pa_cons (pe_op op_add pe_int (pe_own O_l_take (hr.mono (by decide)) T.g__law_take (pa_cons (pv 0) (pa_cons pe_int pa_nil)))) pa_nil)) (blkOk_by (own := [("_law_turn", 7)]) (N := n_l_words) (sc := defScope s_l_words) (by decide +kernel)) (fun _ _ _ _ _ => (pg_name (i := 7) sc_l_words.nd rfl (Or.inl rfl))) (fun _ _ _ _ _ => pts_nil) (fun _ _ _ _ _ => (pe_ix ix_str (pv 2) (pe_own O_l_take (hr.mono (by decide)) T.g__law_take (pa_cons (pv 0) (pa_cons pe_int pa_nil))) (fun _ _ => rfl))))))
        (pss_cons (ps_set (i := 6) sc_l_words.nd rfl (Or.inl rfl) (pe_ix ix_tup (pe_tup (pa_cons (pv 6) (pa_cons (pe_ix ix_tup (pv 3) (pe_own O_l_take (hr.mono (by decide)) T.g__law_take (pa_cons (pv 0) (pa_cons pe_int pa_nil))) (fun _ _ => rfl)) (pa_cons (pe_slice sl_str (pv 6) po_none (po_some pe_int)) pa_nil)))) (pe_own O_l_take (hr.mono (by decide)) T.g__law_take (pa_cons (pv 0) (pa_cons pe_int pa_nil))) (fun _ _ => rfl)))
        (C8.pss_cut (ps_if (pt_cmpR op_in_seq (pv 6) (pv 4) (by rfl)) (pss_one (ps_set (i := 6) sc_l_words.nd rfl (Or.inl rfl) (pe_ix ix_list (pe_lc (own := [("_law_one", 8)]) (g := (gName 8)) rfl sc_l_words.nd (pi_str (pv 2)) (blkOk_by (own := [("_law_one", 8)]) (N := n_l_words) (sc := defScope s_l_words) (by decide +kernel)) (fun _ _ _ _ _ => (pg_name (i := 8) sc_l_words.nd rfl (Or.inl rfl))) (fun _ _ _ _ _ => (pts_one (pt_cmpR (show OpR _ (compareOp .NotIn) (rIn K true) from op_notIn_seq) (pv 8) (pv 4) (by rfl)))) (fun _ _ _ _ _ => (pv 8))) (pe_own O_l_take (hr.mono (by decide)) T.g__law_take (pa_cons (pv 0) (pa_cons pe_int pa_nil))) (fun _ _ => rfl)))) pss_nil)
        (pss_one (ps_expr (pe_bm PySem.F.plainAttrs_list PySem.F.slot_list_append PySem.F.type_list_append mt_append (pv 4) (pa_cons (pv 6) pa_nil))))))))
      (pss_one (ps_ret (pv 4))))))), ?_⟩
    -- letters, own, words_here
    refine ⟨by show 10 ≤ sizeLine; decide, fun ow how => ?_⟩
    refine ⟨Nat.zero_le _, fun p hp => ?_⟩
    have hpH : H p = none := (upd_none hp).2
    have npo : p ≠ ow := (upd_none hp).1
    have k0 : Keep H (upd (upd H ow (.tup (owns.map V.str))) p (.lst [])) := (Keep.new how).trans (.new hp)
    have s0 : StAt (upd (upd H ow (.tup (owns.map V.str))) p (.lst [])) st c := (hst.wr how).wr hp
    refine ⟨_, rfl, many, rfl, by omega, by omega, ?_⟩
    refine for_range (lo := 0) (n := many.toNat) (fun i σ H1 => ∃ (ws : List Str) (v5 v6 : Option V), σ = [some (.ref st), some (.int many), some (.str LETTERS), some (.ref ow), some (.ref p), v5, v6, none, none] ∧
      Keep H H1 ∧ StAt H1 st c ∧ H1 ow = some (.tup (owns.map V.str)) ∧ H1 p = some (.lst (ws.map V.str)) ∧ ws.length = i ∧ ws.Nodup ∧ ∀ s ∈ ws, Word s)
      ⟨[], none, none, rfl, k0, s0, (upd_ne (Ne.symm npo)).trans upd_same, upd_same, rfl, List.nodup_nil, fun s hs => nomatch hs⟩ ?_ ?_
    · rintro i σ H1 hi ⟨ws, v5, v6, rfl, k1, s1, ho1, hp1, hl, nd, wd⟩
      -- the word of letters
      refine ⟨⟨_, rfl⟩, _, rfl, st, c, 8, rfl, by decide, by decide, s1, fun d H2 d0 d8 k2 s2 => ?_⟩
      refine ⟨_, _, rfl, rfl, 1 + d, rfl, by omega, by omega, fun D hD => ?_⟩
      have hD1 : H1 D = none := k2.dom D hD
      have ho2 := k2.get _ _ ho1 rfl
      have hp2 := k2.get _ _ hp1 (isSt_strs _)
      refine lc_range (lo := 0) (n := (1 + d).toNat) (fun j H3 => ∃ cs : List Nat, Keep H1 H3 ∧ StAt H3 st c ∧ H3 D = some (.lst ((cs.map sgn).map V.str)) ∧ cs.length = j ∧ ∀ c ∈ cs, c ∈ LETTERS.cps.toList)
        ⟨[], k2.trans (.new hD), s2.wr hD, upd_same, rfl, fun c hc => nomatch hc⟩ ?_ ?_
      · rintro j H3 hj ⟨cs, k3, s3, hD3, hc3, hcs⟩
        refine ⟨rfl, _, rfl, _, rfl, st, c, 26, rfl, by decide, by decide, s3, fun e H4 e0 e26 k4 s4 => ?_⟩
        have lt : e.toNat < LETTERS.cps.toList.length := by
          rw [letters_len]
          omega
        refine ⟨LETTERS, e, LETTERS.cps.toList[e.toNat], rfl, rfl, (by rw [len_letters]; decide), at_g (j := e.toNat) (Int.toNat_of_nonneg e0).symm (List.getElem?_eq_getElem lt), ?_⟩
        have hD4 := k4.get _ _ hD3 (isSt_strs _)
        refine ⟨_, hD4, (by rw [List.length_map, List.length_map, sizeLine_eq]; omega), cs ++ [LETTERS.cps.toList[e.toNat]], (k3.trans k4).wr hD1, s4.wrN s1 hD1, ?_, by rw [List.length_append, hc3]; rfl, ?_⟩
        · rw [upd_same, List.map_append, List.map_append]
          rfl
        · intro c hc
          rcases List.mem_append.mp hc with h | h
          · exact hcs c h
          · rw [List.mem_singleton.mp h]
            exact List.getElem_mem lt
      · rintro H3 ⟨cs, k3, s3, hD3, hc3, hcs⟩
        refine ⟨_, D, cs.map sgn, rfl, rfl, .inl (SqL.of hD3), (by rw [sum_ones, List.length_map, len_empty]; omega), ?_⟩
        rw [join_codes]
        have wz : Word ⟨cs.toArray⟩ := written_codes (by omega) (by omega) hcs
        generalize (⟨cs.toArray⟩ : Str) = z at wz ⊢
        have ho3 := k3.get _ _ ho1 rfl
        have hp3 := k3.get _ _ hp1 (isSt_strs _)
        -- one of three
        refine ⟨_, rfl, _, rfl, _, rfl, st, c, 10, rfl, by decide, by decide, s3, fun e H4 e0 e10 k4 s4 => ?_⟩
        have ho4 := k4.get _ _ ho3 rfl
        obtain ⟨y, hy⟩ : ∃ y, owns[e.toNat]? = some y := ⟨_, List.getElem?_eq_getElem (by show e.toNat < 10; omega)⟩
        have wy : Word y := owns_word y (List.mem_of_getElem? hy)
        refine ⟨ow, _, e, .str y, rfl, rfl, SqT.of ho4, at_of (j := e.toNat) (by omega) (by rw [List.getElem?_map, hy]; rfl), ?_⟩
        refine ⟨_, rfl, 1, rfl, z, rfl, Nat.le_trans wz.2.1 (by decide), ?_⟩
        have wc : Word (cutS z none (some 1)) := written_cut wz (by decide)
        refine ⟨by show 3 ≤ sizeLine; decide, fun t3 ht3 => ?_⟩
        refine ⟨_, rfl, st, c, 3, rfl, by decide, by decide, s4.wr ht3, fun g H5 g0 g3 k5 s5 => ?_⟩
        have h35 := k5.get t3 _ upd_same rfl
        have k15 : Keep H1 H5 := ((k3.trans k4).trans (.new ht3)).trans k5
        obtain ⟨x, hx, wx⟩ : ∃ x : Str, [V.str z, V.str y, V.str (cutS z none (some 1))][g.toNat]? = some (.str x) ∧ Word x := by
          have c : g.toNat = 0 ∨ g.toNat = 1 ∨ g.toNat = 2 := by omega
          rcases c with c | c | c <;> rw [c]
          · exact ⟨z, rfl, wz⟩
          · exact ⟨y, rfl, wy⟩
          · exact ⟨_, rfl, wc⟩
        refine ⟨t3, _, g, .str x, rfl, rfl, SqT.of h35, at_of (j := g.toNat) (by omega) hx, ?_⟩
        have hp5 := k15.get _ _ hp1 (isSt_strs _)
        have ho5 := k15.get _ _ ho1 rfl
        -- where it stands already: another letter
        refine ⟨fun σ' H' => ∃ x : Str, σ' = [some (.ref st), some (.int many), some (.str LETTERS), some (.ref ow), some (.ref p), some (.int (0 + (i : Int))), some (.str x), none, none] ∧ Keep H1 H' ∧ StAt H' st c ∧ Word x ∧ ¬ x ∈ ws, ?_, ?_⟩
        · refine ⟨_, rfl, _, rfl, p, _, rfl, .inl (SqL.of hp5), rfl, flat_strs ws, _, rfl, ?_⟩
          show if (inV (V.str x) (ws.map V.str)) = true then _ else _
          rw [inV_strs]
          refine ite2 (fun isin => ?_) (fun isin => ?_)
          · refine ⟨_, rfl, LETTERS, rfl, fun D6 hD6 => ?_⟩
            have hD61 : H1 D6 = none := k15.dom D6 hD6
            have npD : p ≠ D6 := ne_of_none hp5 hD6
            refine lc_text (fun j H7 => Keep H1 H7 ∧ StAt H7 st c ∧ H7 D6 = some (.lst ((((LETTERS.cps.toList.take j).map sgn).filter fun x => !decide (x ∈ ws)).map V.str)))
              ⟨k15.trans (.new hD6), s5.wr hD6, upd_same⟩ ?_ ?_
            · rintro j q H7 hj ⟨k7, s7, hD7⟩
              have hp7 := k7.get _ _ hp1 (isSt_strs _)
              refine ⟨rfl, _, rfl, _, rfl, p, _, rfl, .inl (SqL.of hp7), rfl, flat_strs ws, _, rfl, ?_⟩
              have step : (((LETTERS.cps.toList.take (j + 1)).map sgn).filter fun x => !decide (x ∈ ws)) = (((LETTERS.cps.toList.take j).map sgn).filter fun x => !decide (x ∈ ws)) ++ (if decide (sgn q ∈ ws) = true then [] else [sgn q]) := by
                rw [take_snoc hj, List.map_append, List.filter_append]
                congr 1
                by_cases hq : sgn q ∈ ws <;> simp [hq]
              show if (!inV (V.str (sgn q)) (ws.map V.str)) = true then _ else _
              rw [inV_strs, step]
              cases hq : decide (sgn q ∈ ws) with
              | true =>
                refine iteF ⟨k7, s7, ?_⟩
                rw [if_pos rfl, List.append_nil]
                exact hD7
              | false =>
                refine iteT ⟨_, rfl, _, hD7, ?_, k7.wr hD61, s7.wrN s1 hD61, ?_⟩
                · rw [List.length_map]
                  refine Nat.lt_of_le_of_lt (List.length_filter_le _ _) ?_
                  rw [List.length_map]
                  refine Nat.lt_of_le_of_lt (List.length_take_le _ _) ?_
                  have := lt_of_at hj
                  rw [letters_len] at this
                  rw [sizeLine_eq]
                  omega
                · rw [upd_same, if_neg Bool.false_ne_true, List.map_append]
                  rfl
            · rintro H7 ⟨k7, s7, hD7⟩
              rw [List.take_length] at hD7
              refine ⟨_, rfl, st, c, 20, rfl, by decide, by decide, s7, fun u H8 u0 u20 k8 s8 => ?_⟩
              have hD8 : H8 D6 = some (.lst ((others ws).map V.str)) := k8.get _ _ hD7 (isSt_strs _)
              have many' : u.toNat < (others ws).length := Nat.lt_of_lt_of_le (by omega) (others_many (ws := ws) (by omega))
              obtain ⟨y', hy'⟩ : ∃ y', (others ws)[u.toNat]? = some y' := ⟨_, List.getElem?_eq_getElem many'⟩
              obtain ⟨wy', ny'⟩ := others_mem (List.mem_of_getElem? hy')
              refine ⟨D6, _, u, .str y', rfl, rfl, SqL.of hD8, at_of (j := u.toNat) (by omega) (by rw [List.getElem?_map, hy']; rfl), ?_⟩
              exact ⟨y', rfl, k7.trans k8, s8, wy', ny'⟩
          · exact ⟨x, rfl, k15, s5, wx, by simpa using isin⟩
        · rintro σ' H' ⟨x, rfl, k6, s6, wx, nx⟩
          have hp6 := k6.get _ _ hp1 (isSt_strs _)
          have ho6 := k6.get _ _ ho1 rfl
          refine ⟨_, rfl, .inl ⟨rfl, _, SqL.of hp6⟩, _, rfl, p, _, _, rfl, rfl, hp6, (by rw [List.length_map, sizeLine_eq]; omega), ?_⟩
          refine ⟨ws ++ [x], _, _, rfl, (k1.trans k6).wr hpH, s6.wrN hst hpH, ?_, ?_, by rw [List.length_append, hl]; rfl, nd_app nd nx, ?_⟩
          · rw [upd_ne (Ne.symm npo)]
            exact ho6
          · rw [upd_same, List.map_append]
            rfl
          · intro s hs
            rcases List.mem_append.mp hs with h | h
            · exact wd s h
            · rw [List.mem_singleton.mp h]
              exact wx
    · rintro σ H1 ⟨ws, v5, v6, rfl, k1, s1, ho1, hp1, hl, nd, wd⟩
      exact ⟨_, rfl, k p ws H1 k1 s1 hpH hp1 (by omega) nd wd⟩
end
end K16

/-! K16C: a schema's description drawn -/
namespace K16
open PySem PySem.Spec PyProof.Rows L2 He
def kinds6 : List Str := ["whole", "text", "truth", "link", "link", "link"]
theorem kinds6_at {i : Nat} (h : i < 6) : ∃ b : Str, kinds6[i]? = some b ∧ (b = "whole" ∨ b = "text" ∨ b = "truth" ∨ b = "link") := by
  match i, h with
  | 0, _ => exact ⟨_, rfl, .inl rfl⟩
  | 1, _ => exact ⟨_, rfl, .inr (.inl rfl)⟩
  | 2, _ => exact ⟨_, rfl, .inr (.inr (.inl rfl))⟩
  | 3, _ => exact ⟨_, rfl, .inr (.inr (.inr rfl))⟩
  | 4, _ => exact ⟨_, rfl, .inr (.inr (.inr rfl))⟩
  | 5, _ => exact ⟨_, rfl, .inr (.inr (.inr rfl))⟩
  | n + 6, h => omega
def fates3 : List Str := ["bar", "along", "empty"]
theorem fates3_at {i : Nat} {b : Bool} (h : (i : Int) < 2 + (if b = true then 1 else 0)) : ∃ f : Str, fates3[i]? = some f ∧ (f = "bar" ∨ f = "along" ∨ (b = true ∧ f = "empty")) := by
  match i, h with
  | 0, _ => exact ⟨_, rfl, .inl rfl⟩
  | 1, _ => exact ⟨_, rfl, .inr (.inl rfl)⟩
  | 2, h =>
    refine ⟨_, rfl, .inr (.inr ⟨?_, rfl⟩)⟩
    cases b with
    | true => rfl
    | false => exact absurd h (by decide)
  | n + 3, h => cases b <;> simp at h <;> omega
section
variable {P : Program} {w : World} {K : Fr} {mg : Str → Option Value} {base : Heap}
def spDesc : Sp := fun vs H Q _ => ∃ (st c : Addr) (upto : Int), vs = [.ref st, .int upto] ∧ 1 ≤ upto ∧ upto ≤ 3 ∧ StAt H st c ∧
  ∀ (p : Addr) (d : Desc) (H' : Hp), Keep H H' → StAt H' st c → DescL H' p d → DescOk d → Q (.ref p) H'
theorem sc_l_desc : FnScope n_l_desc p_l_desc (defScope s_l_desc) := ⟨rfl, rfl, rfl, by decide +kernel, rfl, by decide +kernel, by decide +kernel⟩
theorem ok_desc (T : Txt K mg w) (O_l_take : OkD P w K mg base CX0 2 (a_l_take K) p_l_take spTake) (O_l_words : OkD P w K mg base CX0 3 (a_l_words K) p_l_words spWords)
    (F : ∃ fd, FnT K "_law_desc" "_law_desc" s_l_desc [] (a_l_desc K) fd) : OkD P w K mg base CX0 4 (a_l_desc K) p_l_desc spDesc := by
  refine okD F sc_l_desc (fun _ _ _ _ _ _ us hl => match us, hl with | [_, _], _ => rfl) (fun vs H Q E h => ?_) (fun cdv A outer s H vs Q E hr h => ?_)
  · obtain ⟨st, c, upto, rfl, _⟩ := h
    rfl
  · obtain ⟨st, c, upto, rfl, u1, u3, hst, k⟩ := h
    refine ⟨_, (pss_cons (ps_set (i := 2) sc_l_desc.nd rfl (Or.inl rfl) (pe_own O_l_words (hr.mono (by decide)) T.g__law_words (pa_cons (pv 0) (pa_cons (pe_op op_add pe_int (pe_own O_l_take (hr.mono (by decide)) T.g__law_take (pa_cons (pv 0) (pa_cons (pv 1) pa_nil)))) pa_nil))))
      (pss_cons (ps_set (i := 3) sc_l_desc.nd rfl (Or.inl rfl) (pe_lst pa_nil))
      (pss_cons (ps_for PassesOwn.never rfl (pi_list (pv 2)) (pg_name (i := 4) sc_l_desc.nd rfl (Or.inl rfl)) (pss_cons (ps_set (i := 5) sc_l_desc.nd rfl (Or.inl rfl) (pe_lst pa_nil))
        (pss_cons (ps_for PassesOwn.never rfl (pi_list (pe_own O_l_words (hr.mono (by decide)) T.g__law_words (pa_cons (pv 0) (pa_cons (pe_op op_add pe_int (pe_own O_l_take (hr.mono (by decide)) T.g__law_take (pa_cons (pv 0) (pa_cons pe_int pa_nil)))) pa_nil)))) (pg_name (i := 6) sc_l_desc.nd rfl (Or.inl rfl)) (pss_cons (ps_set (i := 7) sc_l_desc.nd rfl (Or.inl rfl) (pe_ix ix_tup (pe_tup (pa_cons pe_str (pa_cons pe_str (pa_cons pe_str (pa_cons pe_str (pa_cons pe_str (pa_cons pe_str pa_nil))))))) (pe_own O_l_take (hr.mono (by decide)) T.g__law_take (pa_cons (pv 0) (pa_cons pe_int pa_nil))) (fun _ _ => rfl)))
          (pss_cons (ps_set (i := 8) sc_l_desc.nd rfl (Or.inl rfl) (pe_cmpR op_gt (pe_own O_l_take (hr.mono (by decide)) T.g__law_take (pa_cons (pv 0) (pa_cons pe_int pa_nil))) pe_int (nomark _)))
          (pss_cons (ps_set (i := 9) sc_l_desc.nd rfl (Or.inl rfl) (pe_ix ix_list (pv 2) (pe_own O_l_take (hr.mono (by decide)) T.g__law_take (pa_cons (pv 0) (pa_cons (pe_callB call_len_seq (by rfl) T.z_len (by decide +kernel) (pa_cons (pv 2) pa_nil)) pa_nil))) (fun _ _ => rfl)))
          (pss_cons (ps_set (i := 10) sc_l_desc.nd rfl (Or.inl rfl) (pe_ix ix_tup (pe_tup (pa_cons pe_str (pa_cons pe_str (pa_cons pe_str pa_nil)))) (pe_own O_l_take (hr.mono (by decide)) T.g__law_take (pa_cons (pv 0) (pa_cons (pe_op op_add pe_int (pe_callTy call_int1 (by rfl) T.z_int (by decide +kernel) (pa_cons (pv 8) pa_nil))) pa_nil))) (fun _ _ => rfl)))
          (C8.pss_cut (ps_if (pt_cmpR op_ne (pv 7) pe_str (nomark _)) (pss_one (ps_asg (pe_tup (pa_cons pe_non (pa_cons pe_str pa_nil))) (pg_tup rfl (pgs_cons (pg_name (i := 9) sc_l_desc.nd rfl (Or.inl rfl)) (pgs_cons (pg_name (i := 10) sc_l_desc.nd rfl (Or.inl rfl)) pgs_nil))))) pss_nil)
          (pss_one (ps_expr (pe_bm PySem.F.plainAttrs_list PySem.F.slot_list_append PySem.F.type_list_append mt_append (pv 5) (pa_cons (pe_tup (pa_cons (pv 6) (pa_cons (pv 7) (pa_cons (pv 8) (pa_cons (pe_cmpR op_eq (pe_own O_l_take (hr.mono (by decide)) T.g__law_take (pa_cons (pv 0) (pa_cons pe_int pa_nil))) pe_int (nomark _)) (pa_cons (pv 9) (pa_cons (pv 10) pa_nil))))))) pa_nil))))))))))
        (pss_one (ps_expr (pe_bm PySem.F.plainAttrs_list PySem.F.slot_list_append PySem.F.type_list_append mt_append (pv 3) (pa_cons (pe_tup (pa_cons (pv 4) (pa_cons (pv 5) pa_nil))) pa_nil)))))))
      (pss_one (ps_ret (pv 3)))))), ?_⟩
    -- words_here
    refine ⟨_, rfl, _, rfl, _, rfl, st, c, upto, rfl, by omega, Int.le_trans u3 (by decide), hst, fun d0 Ha d00 d03 ka sa => ?_⟩
    refine ⟨1, d0, rfl, rfl, st, c, 1 + d0, rfl, by omega, by omega, sa, fun wp ws Hb kb sb nwp hwp hlen nd wd => ?_⟩
    have hpos : 0 < ws.length := by omega
    have hle : ws.length ≤ 3 := by omega
    refine ⟨Nat.zero_le _, fun dp hdp => ?_⟩
    have kab : Keep H Hb := ka.trans kb
    have dpH : H dp = none := kab.dom dp hdp
    have nwd : wp ≠ dp := ne_of_none hwp hdp
    refine ⟨_, rfl, wp, rfl, ⟨_, SqL.of ((Same.new hdp) _ _ hwp)⟩, ?_⟩
    refine for_list (K := K) (a := wp) (xs := ws.map V.str) (fun i σ H1 => ∃ (as : List Addr) (d : Desc) (v4 v5 v6 v7 v8 v9 v10 : Option V), σ = [some (.ref st), some (.int upto), some (.ref wp), some (.ref dp), v4, v5, v6, v7, v8, v9, v10] ∧
      Keep H H1 ∧ StAt H1 st c ∧ H1 wp = some (.lst (ws.map V.str)) ∧ H1 dp = some (.lst (as.map V.ref)) ∧ Paired (TabN dp H1) as d ∧ d.map (·.1) = ws.take i ∧ ∀ e ∈ d, ColsOk ws e.2)
      ⟨[], [], none, none, none, none, none, none, none, rfl, kab.trans (.new hdp), sb.wr hdp, (Same.new hdp) _ _ hwp, upd_same, .nil, rfl, fun e he => nomatch he⟩
      (fun i σ H1 _ h => by
        obtain ⟨_, _, _, _, _, _, _, _, _, _, _, _, h, _⟩ := h
        exact SqL.of h) ?_ ?_
    · rintro i y σ H1 hi ⟨as, d, v4, v5, v6, v7, v8, v9, v10, rfl, k1, s1, hw1, hd1, pd, dm, dok⟩
      obtain ⟨wd', hwd', rfl⟩ := map_at hi
      have il : i < ws.length := lt_of_at hwd'
      have asl : as.length < sizeLine := by
        have q := congrArg List.length dm
        rw [List.length_map, List.length_take] at q
        rw [pd.length, sizeLine_eq]
        omega
      -- columns = []
      refine ⟨Nat.zero_le _, fun cp hcp => ?_⟩
      have ncd : cp ≠ dp := fun z => by
        rw [z, hd1] at hcp
        cases hcp
      -- the names
      refine ⟨_, rfl, _, rfl, st, c, 5, rfl, by decide, by decide, s1.wr hcp, fun e0 Hc e00 e05 kc sc => ?_⟩
      refine ⟨1, e0, rfl, rfl, st, c, 1 + e0, rfl, by omega, by omega, sc, fun np ns Hd kd sd nnp hnp nlen nnd nwd' => ?_⟩
      have hcp4 : Hd cp = some (.lst []) := kd.get _ _ (kc.get _ _ upd_same rfl) rfl
      have ncn : np ≠ cp := fun z => by
        rw [z, kc.get _ _ upd_same rfl] at nnp
        cases nnp
      have k1d : Keep H1 Hd := ((Keep.new hcp).trans kc).trans kd
      refine ⟨np, rfl, ⟨_, SqL.of hnp⟩, ?_⟩
      refine for_list (K := K) (a := np) (xs := ns.map V.str) (fun j σ H3 => ∃ (bs : List Addr) (cs : Cols) (v6 v7 v8 v9 v10 : Option V), σ = [some (.ref st), some (.int upto), some (.ref wp), some (.ref dp), some (.str wd'), some (.ref cp), v6, v7, v8, v9, v10] ∧
        Keep H1 H3 ∧ StAt H3 st c ∧ H3 np = some (.lst (ns.map V.str)) ∧ H3 cp = some (.lst (bs.map V.ref)) ∧ Paired (ColT H3) bs cs ∧ cs.map (·.nm) = ns.take j ∧ ∀ q ∈ cs, ColOk ws q)
        ⟨[], [], v6, v7, v8, v9, v10, rfl, k1d, sd, hnp, hcp4, .nil, rfl, fun e he => nomatch he⟩
        (fun i σ H1 _ h => by
          obtain ⟨_, _, _, _, _, _, _, _, _, _, h, _⟩ := h
          exact SqL.of h) ?_ ?_
      · rintro j z σ H3 hj ⟨bs, cs, v6, v7, v8, v9, v10, rfl, k3, s3, hn3, hc3, pc, cm, cok⟩
        obtain ⟨nm, hnm, rfl⟩ := map_at hj
        have jl : j < ns.length := lt_of_at hnm
        have wnm : Word nm := nwd' nm (List.mem_of_getElem? hnm)
        have bsl : bs.length < sizeLine := by
          have q := congrArg List.length cm
          rw [List.length_map, List.length_take] at q
          rw [pc.length, sizeLine_eq]
          omega
        -- brand
        refine ⟨by show 6 ≤ sizeLine; decide, fun t1 ht1 => ⟨_, rfl, st, c, 6, rfl, by decide, by decide, s3.wr ht1, fun e1 H4 e10 e16 k4 s4 => ?_⟩⟩
        obtain ⟨kd', hkd, kdo⟩ := kinds6_at (i := e1.toNat) (by omega)
        refine ⟨t1, kinds6.map V.str, e1, .str kd', rfl, rfl, SqT.of (k4.get t1 _ upd_same rfl), at_of (j := e1.toNat) (by omega) (by rw [List.getElem?_map, hkd]; rfl), ?_⟩
        have k34 : Keep H3 H4 := (Keep.new ht1).trans k4
        -- bare
        refine ⟨_, rfl, st, c, 3, rfl, by decide, by decide, s4, fun e2 H5 e20 e23 k5 s5 => ⟨_, _, rfl, rfl, ?_⟩⟩
        dsimp only
        generalize decide (0 < e2) = bare
        have k35 := k34.trans k5
        -- goal
        have hw5 := k35.get _ _ (k3.get _ _ hw1 (isSt_strs _)) (isSt_strs _)
        refine ⟨_, rfl, _, rfl, _, rfl, wp, _, rfl, .inl (SqL.of hw5), st, c, ((ws.map V.str).length : Int), rfl, by rw [List.length_map]; omega, by rw [List.length_map]; omega, s5, fun e3 H6 e30 e33 k6 s6 => ?_⟩
        rw [List.length_map] at e33
        obtain ⟨gw, hgw⟩ : ∃ gw, ws[e3.toNat]? = some gw := ⟨_, List.getElem?_eq_getElem (by omega)⟩
        have k36 := k35.trans k6
        have hw6 := k6.get _ _ hw5 (isSt_strs _)
        refine ⟨wp, _, e3, .str gw, rfl, rfl, SqL.of hw6, at_of (j := e3.toNat) (by omega) (by rw [List.getElem?_map, hgw]; rfl), ?_⟩
        -- fate
        refine ⟨by show 3 ≤ sizeLine; decide, fun t2 ht2 => ⟨_, rfl, _, rfl, .inr ⟨bare, rfl, _, _, rfl, rfl, st, c, 2 + (if bare = true then 1 else 0), rfl, by cases bare <;> decide, by cases bare <;> decide, s6.wr ht2, fun e4 H7 e40 e4n k7 s7 => ?_⟩⟩⟩
        obtain ⟨ft, hft, fto⟩ := fates3_at (i := e4.toNat) (b := bare) (by omega)
        refine ⟨t2, fates3.map V.str, e4, .str ft, rfl, rfl, SqT.of (k7.get t2 _ upd_same rfl), at_of (j := e4.toNat) (by omega) (by rw [List.getElem?_map, hft]; rfl), ?_⟩
        have k37 : Keep H3 H7 := (k36.trans (.new ht2)).trans k7
        -- no link: no goal
        refine ⟨fun σ' H' => ∃ (gl : V) (f2 : Str), σ' = [some (.ref st), some (.int upto), some (.ref wp), some (.ref dp), some (.str wd'), some (.ref cp), some (.str nm), some (.str kd'), some (.bl bare), some gl, some (.str f2)] ∧
          Keep H3 H' ∧ StAt H' st c ∧ ∀ lone, ColOk ws ⟨nm, kd', bare, lone, gl, f2⟩, ?_, ?_⟩
        · refine ⟨_, rfl, rfl, _, rfl, ite2 (fun nl => ?_) (fun nl => ?_)⟩
          · have nk : kd' ≠ "link" := fun z => by
              rw [z] at nl
              exact absurd nl (by decide +kernel)
            refine ⟨by show 2 ≤ sizeLine; decide, fun t3 ht3 => ⟨t3, _, rfl, SqT.of upd_same, rfl, _, _, rfl, _, _, rfl, rfl, .non, "bar", rfl, k37.trans (.new ht3), s7.wr ht3, fun lone => ?_⟩⟩
            exact ⟨wnm, kdo, .inr ⟨nk, rfl⟩, .inl rfl⟩
          · have nk : kd' = "link" := by
              apply Classical.byContradiction
              intro z
              apply nl
              rw [decide_eq_false (fun q : V.str kd' = V.str "link" => z (V.str.inj q))]
              rfl
            refine ⟨.str gw, ft, rfl, k37, s7, fun lone => ⟨wnm, kdo, .inl ⟨nk, gw, rfl, List.mem_of_getElem? hgw⟩, ?_⟩⟩
            rcases fto with h | h | ⟨h1, h2⟩
            · exact .inl h
            · exact .inr (.inl ⟨nk, h⟩)
            · exact .inr (.inr ⟨nk, h1, h2⟩)
        · rintro σ' H8 ⟨gl, f2, rfl, k8, s8, ok8⟩
          have hc8 := k8.get _ _ hc3 (isSt_refs _)
          refine ⟨_, rfl, .inl ⟨rfl, _, SqL.of hc8⟩, _, rfl, _, rfl, _, rfl, _, rfl, st, c, 3, rfl, by decide, by decide, s8, fun e5 H9 e50 e53 k9 s9 => ⟨rfl, ?_⟩⟩
          dsimp only
          generalize decide (V.int e5 = V.int 0) = lone
          refine ⟨_, rfl, _, rfl, by show 6 ≤ sizeLine; decide, fun t4 ht4 => ?_⟩
          have hc9 := k9.get _ _ hc8 (isSt_refs _)
          have hcA := at_new (u := .tup [.str nm, .str kd', .bl bare, .bl lone, gl, .str f2]) hc9 ht4
          refine ⟨cp, _, _, rfl, rfl, hcA, by rw [List.length_map]; exact bsl, ?_⟩
          have k39 : Keep H3 (upd H9 t4 (.tup [.str nm, .str kd', .bl bare, .bl lone, gl, .str f2])) := (k8.trans k9).trans (.new ht4)
          have hnA := k39.get _ _ hn3 (isSt_strs _)
          refine ⟨bs ++ [t4], cs ++ [⟨nm, kd', bare, lone, gl, f2⟩], _, _, _, _, _, rfl, (k3.trans k39).wr hcp, (s9.wr ht4).wrN s1 hcp, ?_, ?_, ?_, ?_, ?_⟩
          · rw [upd_ne ncn]
            exact hnA
          · rw [upd_same, List.map_append]
            rfl
          · exact pSnoc (colsT_wr (pMap pc fun a q z => k39.get _ _ z rfl) hcA) (upd_at upd_same hcA fun q => nomatch q)
          · rw [List.map_append, cm, take_snoc hnm]
            rfl
          · intro q hq
            rcases List.mem_append.mp hq with h | h
            · exact cok q h
            · rw [List.mem_singleton.mp h]
              exact ok8 lone
      · rintro σ H3 ⟨bs, cs, v6, v7, v8, v9, v10, rfl, k3, s3, hn3, hc3, pc, cm, cok⟩
        rw [List.length_map, List.take_length] at cm
        have hd3 := k3.get _ _ hd1 (isSt_refs _)
        refine ⟨_, rfl, .inl ⟨rfl, _, SqL.of hd3⟩, _, rfl, _, rfl, by show 2 ≤ sizeLine; decide, fun t5 ht5 => ?_⟩
        have hd5 := at_new (u := .tup [.str wd', .ref cp]) hd3 ht5
        refine ⟨dp, _, _, rfl, rfl, hd5, by rw [List.length_map]; exact asl, ?_⟩
        have k35 : Keep H1 (upd H3 t5 (.tup [.str wd', .ref cp])) := k3.trans (.new ht5)
        have cl : ColsL (upd H3 t5 (.tup [.str wd', .ref cp])) cp cs := ColsL.keep ⟨bs, hc3, pc⟩ (.new ht5)
        have ccs : ColsOk ws cs := by
          refine ⟨?_, by rw [cm]; exact nnd, cok⟩
          have q := congrArg List.length cm
          rw [List.length_map] at q
          omega
        refine ⟨as ++ [t5], d ++ [(wd', cs)], _, _, _, _, _, _, _, rfl, (k1.trans k35).wr dpH, (s3.wr ht5).wrN hst dpH, ?_, ?_, ?_, ?_, ?_⟩
        · rw [upd_ne nwd]
          exact k35.get _ _ hw1 (isSt_strs _)
        · rw [upd_same, List.map_append]
          rfl
        · exact pSnoc (pMap pd fun a q z => (z.keep k35).wr hd5) ⟨cp, ncd, upd_at upd_same hd5 (fun q => nomatch q), cl.wr hd5 ncd⟩
        · rw [List.map_append, dm, take_snoc hwd']
          rfl
        · intro q hq
          rcases List.mem_append.mp hq with h | h
          · exact dok q h
          · rw [List.mem_singleton.mp h]
            exact ccs
    · rintro σ H1 ⟨as, d, v4, v5, v6, v7, v8, v9, v10, rfl, k1, s1, hw1, hd1, pd, dm, dok⟩
      rw [List.length_map, List.take_length] at dm
      have dl : d.length = ws.length := by
        have q := congrArg List.length dm
        rw [List.length_map] at q
        exact q
      refine ⟨_, rfl, k dp d H1 k1 s1 ⟨as, hd1, pMap pd fun a q z => z.to⟩ ⟨by omega, by rw [dm]; exact nd, fun e he => wd _ ?_, fun e he => ?_⟩⟩
      · rw [← dm]
        exact List.mem_map.mpr ⟨e, he, rfl⟩
      · rw [dm]
        exact dok e he
end
end K16

/-! K16D: what a word, a worth, a column is -/
namespace K16
open PySem PySem.Spec PyProof.Rows L2 He
section
variable {P : Program} {w : World} {K : Fr} {mg : Str → Option Value} {base : Heap}
theorem gstr (x : Str) (t : Tok) : RelV (.str x) (.str x t) := ⟨t, rfl⟩
theorem gint (i : Int) (t : Tok) : RelV (.int i) (.int i t) := ⟨t, rfl⟩
theorem kt_ss : PySem.W.kitOne K (.type "str") (.type "str") = some true := kit_ty (by decide +kernel)
theorem kt_ii : PySem.W.kitOne K (.type "int") (.type "int") = some true := kit_ty (by decide +kernel)
theorem kt_ib : PySem.W.kitOne K (.type "int") (.type "bool") = some false := kit_ty (by decide +kernel)
theorem kt_bb : PySem.W.kitOne K (.type "bool") (.type "bool") = some true := kit_ty (by decide +kernel)
def spWritten : Sp := fun vs H Q _ => ∃ (s g : Str) (m : Nat), vs = [.str s, .str g, .int m] ∧ Written g m s ∧ m ≤ 100 ∧ ∀ H', Same H H' → Q (.bl true) H'
theorem sc_is_written : FnScope n_is_written p_is_written (defScope s_is_written) := ⟨rfl, rfl, rfl, by decide +kernel, rfl, by decide +kernel, by decide +kernel⟩
theorem ok_is_written (T : Txt K mg w) (F : ∃ fd, FnT K "is_written" "is_written" s_is_written [] (a_is_written K) fd) : OkD P w K mg base CX0 1 (a_is_written K) p_is_written spWritten := by
  refine okD F sc_is_written (fun _ _ _ _ _ _ us hl => match us, hl with | [_, _, _], _ => rfl) (fun vs H Q E h => ?_) (fun cdv A outer s H vs Q E hr h => ?_)
  · obtain ⟨s, g, m, rfl, _⟩ := h
    rfl
  · obtain ⟨z, g, m, rfl, ⟨w1, w2, w3⟩, m100, k⟩ := h
    refine ⟨_, (pss_one (ps_ret (pe_and (pe_callB call_isi (by rfl) T.z_isinstance (by decide +kernel) (pa_cons (pv 0) (pa_cons (pe_bltn (v := .ty "str") (by rfl) T.z_str (by decide +kernel) rfl) pa_nil))) (pe_and (pe_chain op_le op_le pe_int (pe_callB call_len_str (by rfl) T.z_len (by decide +kernel) (pa_cons (pv 0) pa_nil)) (pv 2)) (pe_one (pe_callB (cr_all rfl) (by rfl) T.z_all (by decide +kernel) (pa_cons (pe_lc (own := [("sign", 3)]) (g := (gName 3)) (tt := tYes) rfl sc_is_written.nd (pi_str (pv 0)) (blkOk_by (own := [("sign", 3)]) (N := n_is_written) (sc := defScope s_is_written) (by decide +kernel)) (fun _ _ _ _ _ => (pg_name (i := 3) sc_is_written.nd rfl (Or.inl rfl))) (fun _ _ _ _ _ => pts_nil) (fun _ _ _ _ _ => (pe_cmpR op_in_sign (pv 3) (pv 1) (by rfl)))) pa_nil))))))), ?_⟩
    refine ⟨_, rfl, _, _, _, _, true, rfl, .ty "str", .base (.str z), kt_ss, true, rfl, iteT ?_⟩
    refine ⟨_, rfl, z, rfl, Nat.le_trans w2 (Nat.le_trans m100 (by decide)), _, _, rfl, rfl, _, rfl, ?_⟩
    rw [decide_eq_true (show (1 : Int) ≤ (z.length : Int) by omega)]
    refine iteT ⟨_, rfl, _, _, rfl, rfl, _, rfl, ?_⟩
    rw [decide_eq_true (show (z.length : Int) ≤ (m : Int) by omega)]
    refine iteT ?_
    refine ⟨_, rfl, z, rfl, fun D hD => ?_⟩
    refine lc_text (fun i H1 => Same H H1 ∧ H1 D = some (.lst ((List.replicate i true).map V.bl))) ⟨Same.new hD, upd_same⟩ ?_ ?_
    · rintro i c H1 hi ⟨s1, h1⟩
      refine ⟨rfl, _, rfl, _, rfl, c, g, rfl, rfl, _, h1, ?_, sWr s1 hD, ?_⟩
      · have := lt_of_at hi
        rw [List.length_map, List.length_replicate, sizeLine_eq]
        have e : z.cps.toList.length = z.length := by simp [Str.length]
        omega
      · rw [decide_eq_true (w3 c (List.mem_of_getElem? hi)), upd_same, List.replicate_succ', List.map_append]
        rfl
    · rintro H1 ⟨s1, h1⟩
      refine ⟨D, _, rfl, SqL.of h1, ?_⟩
      rw [show (List.replicate z.cps.toList.length true).all id = true by simp]
      exact k _ s1
def spWord : Sp := fun vs H Q _ => ∃ s : Str, vs = [.str s] ∧ Word s ∧ ∀ H', Same H H' → Q (.bl true) H'
theorem sc_is_word : FnScope n_is_word p_is_word (defScope s_is_word) := ⟨rfl, rfl, rfl, by decide +kernel, rfl, by decide +kernel, by decide +kernel⟩
theorem ok_is_word (T : Txt K mg w) (O_is_written : OkD P w K mg base CX0 1 (a_is_written K) p_is_written spWritten) (F : ∃ fd, FnT K "is_word" "is_word" s_is_word [] (a_is_word K) fd) : OkD P w K mg base CX0 2 (a_is_word K) p_is_word spWord := by
  refine okD F sc_is_word (fun _ _ _ _ _ _ us hl => match us, hl with | [_], _ => rfl) (fun vs H Q E h => ?_) (fun cdv A outer s H vs Q E hr h => ?_)
  · obtain ⟨s, rfl, _⟩ := h
    rfl
  · obtain ⟨z, rfl, wz, k⟩ := h
    obtain ⟨tL, hLETTERS⟩ := T.s_LETTERS
    refine ⟨_, (pss_one (ps_ret (pe_own O_is_written (hr.mono (by decide)) T.g_is_written (pa_cons (pv 0) (pa_cons (pe_glob rfl hLETTERS (gstr _ _)) (pa_cons pe_int pa_nil)))))), ?_⟩
    exact ⟨_, rfl, z, LETTERS, 8, rfl, wz, by decide, k⟩
def spWhole : Sp := fun vs H Q _ => ∃ i : Int, vs = [.int i] ∧ Q (.bl true) H
theorem sc_is_whole : FnScope n_is_whole p_is_whole (defScope s_is_whole) := ⟨rfl, rfl, rfl, by decide +kernel, rfl, by decide +kernel, by decide +kernel⟩
theorem ok_is_whole (T : Txt K mg w) (F : ∃ fd, FnT K "is_whole" "is_whole" s_is_whole [] (a_is_whole K) fd) : OkD P w K mg base CX0 1 (a_is_whole K) p_is_whole spWhole := by
  refine okD F sc_is_whole (fun _ _ _ _ _ _ us hl => match us, hl with | [_], _ => rfl) (fun vs H Q E h => ?_) (fun cdv A outer s H vs Q E hr h => ?_)
  · obtain ⟨s, rfl, _⟩ := h
    rfl
  · obtain ⟨i, rfl, k⟩ := h
    refine ⟨_, (pss_one (ps_ret (pe_and (pe_callB call_isi (by rfl) T.z_isinstance (by decide +kernel) (pa_cons (pv 0) (pa_cons (pe_bltn (v := .ty "int") (by rfl) T.z_int (by decide +kernel) rfl) pa_nil))) (pe_one (pe_not (pe_callB call_isi (by rfl) T.z_isinstance (by decide +kernel) (pa_cons (pv 0) (pa_cons (pe_bltn (v := .ty "bool") (by rfl) T.z_bool (by decide +kernel) rfl) pa_nil)))))))), ?_⟩
    exact ⟨_, rfl, _, _, _, _, true, rfl, .ty "int", .base (.int i), kt_ii, true, rfl, iteT ⟨_, rfl, _, _, _, _, false, rfl, .ty "bool", .base (.int i), kt_ib, false, rfl, k⟩⟩
theorem sc_l_whole : FnScope n_l_whole p_l_whole (defScope s_l_whole) := ⟨rfl, rfl, rfl, by decide +kernel, rfl, by decide +kernel, by decide +kernel⟩
theorem ok_l_whole (T : Txt K mg w) (F : ∃ fd, FnT K "_law_whole" "_law_whole" s_l_whole [] (a_l_whole K) fd) : OkD P w K mg base CX0 1 (a_l_whole K) p_l_whole spWhole := by
  refine okD F sc_l_whole (fun _ _ _ _ _ _ us hl => match us, hl with | [_], _ => rfl) (fun vs H Q E h => ?_) (fun cdv A outer s H vs Q E hr h => ?_)
  · obtain ⟨s, rfl, _⟩ := h
    rfl
  · obtain ⟨i, rfl, k⟩ := h
    refine ⟨_, (pss_one (ps_ret (pe_and (pe_callB call_isi (by rfl) T.z_isinstance (by decide +kernel) (pa_cons (pv 0) (pa_cons (pe_bltn (v := .ty "int") (by rfl) T.z_int (by decide +kernel) rfl) pa_nil))) (pe_one (pe_not (pe_callB call_isi (by rfl) T.z_isinstance (by decide +kernel) (pa_cons (pv 0) (pa_cons (pe_bltn (v := .ty "bool") (by rfl) T.z_bool (by decide +kernel) rfl) pa_nil)))))))), ?_⟩
    exact ⟨_, rfl, _, _, _, _, true, rfl, .ty "int", .base (.int i), kt_ii, true, rfl, iteT ⟨_, rfl, _, _, _, _, false, rfl, .ty "bool", .base (.int i), kt_ib, false, rfl, k⟩⟩
def spKey : Sp := fun vs H Q _ => ∃ i : Int, vs = [.int i] ∧ 1 ≤ i ∧ i ≤ 999999 ∧ Q (.bl true) H
theorem sc_is_key : FnScope n_is_key p_is_key (defScope s_is_key) := ⟨rfl, rfl, rfl, by decide +kernel, rfl, by decide +kernel, by decide +kernel⟩
theorem ok_is_key (T : Txt K mg w) (O_is_whole : OkD P w K mg base CX0 1 (a_is_whole K) p_is_whole spWhole) (F : ∃ fd, FnT K "is_key" "is_key" s_is_key [] (a_is_key K) fd) : OkD P w K mg base CX0 2 (a_is_key K) p_is_key spKey := by
  refine okD F sc_is_key (fun _ _ _ _ _ _ us hl => match us, hl with | [_], _ => rfl) (fun vs H Q E h => ?_) (fun cdv A outer s H vs Q E hr h => ?_)
  · obtain ⟨s, rfl, _⟩ := h
    rfl
  · obtain ⟨i, rfl, i1, i2, k⟩ := h
    obtain ⟨tL, hMOST_KEY⟩ := T.i_MOST_KEY
    refine ⟨_, (pss_one (ps_ret (pe_and (pe_own O_is_whole (hr.mono (by decide)) T.g_is_whole (pa_cons (pv 0) pa_nil)) (pe_one (pe_chain op_le op_le pe_int (pv 0) (pe_glob rfl hMOST_KEY (gint _ _))))))), ?_⟩
    refine ⟨_, rfl, i, rfl, true, rfl, iteT ⟨_, rfl, _, _, rfl, rfl, _, rfl, ?_⟩⟩
    rw [decide_eq_true i1]
    refine iteT ⟨_, _, rfl, rfl, ?_⟩
    show Q (.bl (decide (i ≤ 999999))) H
    rw [decide_eq_true i2]
    exact k
def spText : Sp := fun vs H Q _ => ∃ s : Str, vs = [.str s] ∧ Written SIGNS 12 s ∧ ∀ H', Same H H' → Q (.bl true) H'
theorem sc_is_text : FnScope n_is_text p_is_text (defScope s_is_text) := ⟨rfl, rfl, rfl, by decide +kernel, rfl, by decide +kernel, by decide +kernel⟩
theorem ok_is_text (T : Txt K mg w) (O_is_written : OkD P w K mg base CX0 1 (a_is_written K) p_is_written spWritten) (F : ∃ fd, FnT K "is_text" "is_text" s_is_text [] (a_is_text K) fd) : OkD P w K mg base CX0 2 (a_is_text K) p_is_text spText := by
  refine okD F sc_is_text (fun _ _ _ _ _ _ us hl => match us, hl with | [_], _ => rfl) (fun vs H Q E h => ?_) (fun cdv A outer s H vs Q E hr h => ?_)
  · obtain ⟨s, rfl, _⟩ := h
    rfl
  · obtain ⟨z, rfl, wz, k⟩ := h
    obtain ⟨tL, hSIGNS⟩ := T.s_SIGNS
    refine ⟨_, (pss_one (ps_ret (pe_own O_is_written (hr.mono (by decide)) T.g_is_written (pa_cons (pv 0) (pa_cons (pe_glob rfl hSIGNS (gstr _ _)) (pa_cons pe_int pa_nil)))))), ?_⟩
    exact ⟨_, rfl, z, SIGNS, 12, rfl, wz, by decide, k⟩
def spTruth : Sp := fun vs H Q _ => ∃ b : Bool, vs = [.bl b] ∧ Q (.bl true) H
theorem sc_is_truth : FnScope n_is_truth p_is_truth (defScope s_is_truth) := ⟨rfl, rfl, rfl, by decide +kernel, rfl, by decide +kernel, by decide +kernel⟩
theorem ok_is_truth (T : Txt K mg w) (F : ∃ fd, FnT K "is_truth" "is_truth" s_is_truth [] (a_is_truth K) fd) : OkD P w K mg base CX0 1 (a_is_truth K) p_is_truth spTruth := by
  refine okD F sc_is_truth (fun _ _ _ _ _ _ us hl => match us, hl with | [_], _ => rfl) (fun vs H Q E h => ?_) (fun cdv A outer s H vs Q E hr h => ?_)
  · obtain ⟨s, rfl, _⟩ := h
    rfl
  · obtain ⟨b, rfl, k⟩ := h
    refine ⟨_, (pss_one (ps_ret (pe_callB call_isi (by rfl) T.z_isinstance (by decide +kernel) (pa_cons (pv 0) (pa_cons (pe_bltn (v := .ty "bool") (by rfl) T.z_bool (by decide +kernel) rfl) pa_nil))))), ?_⟩
    exact ⟨_, rfl, _, _, _, _, true, rfl, .ty "bool", .base (.bl b), kt_bb, k⟩
def spLink : Sp := fun vs H Q _ => ∃ i : Int, vs = [.int i] ∧ 1 ≤ i ∧ Q (.bl true) H
theorem sc_is_link : FnScope n_is_link p_is_link (defScope s_is_link) := ⟨rfl, rfl, rfl, by decide +kernel, rfl, by decide +kernel, by decide +kernel⟩
theorem ok_is_link (T : Txt K mg w) (O_is_whole : OkD P w K mg base CX0 1 (a_is_whole K) p_is_whole spWhole) (F : ∃ fd, FnT K "is_link" "is_link" s_is_link [] (a_is_link K) fd) : OkD P w K mg base CX0 2 (a_is_link K) p_is_link spLink := by
  refine okD F sc_is_link (fun _ _ _ _ _ _ us hl => match us, hl with | [_], _ => rfl) (fun vs H Q E h => ?_) (fun cdv A outer s H vs Q E hr h => ?_)
  · obtain ⟨s, rfl, _⟩ := h
    rfl
  · obtain ⟨i, rfl, i1, k⟩ := h
    refine ⟨_, (pss_one (ps_ret (pe_and (pe_own O_is_whole (hr.mono (by decide)) T.g_is_whole (pa_cons (pv 0) pa_nil)) (pe_one (pe_cmpR op_ge (pv 0) pe_int (nomark _)))))), ?_⟩
    refine ⟨_, rfl, i, rfl, true, rfl, iteT ⟨_, rfl, _, _, rfl, rfl, ?_⟩⟩
    show Q (.bl (decide (1 ≤ i))) H
    rw [decide_eq_true i1]
    exact k
end
end K16

/-! K16E: of_kind, column_amiss, Column -/
namespace K16
open PySem PySem.Spec PyProof.Rows L2 He
section
variable {P : Program} {w : World} {K : Fr} {mg : Str → Option Value} {base : Heap}
def spOfKind : Sp := fun vs H Q _ => ∃ (kd : Str) (v : V), vs = [.str kd, v] ∧ WOk kd v ∧ ∀ H', Same H H' → Q (.bl true) H'
theorem sc_of_kind : FnScope n_of_kind p_of_kind (defScope s_of_kind) := ⟨rfl, rfl, rfl, by decide +kernel, rfl, by decide +kernel, by decide +kernel⟩
theorem ok_of_kind (T : Txt K mg w) (O1 : OkD P w K mg base CX0 1 (a_is_whole K) p_is_whole spWhole) (O2 : OkD P w K mg base CX0 2 (a_is_text K) p_is_text spText) (O3 : OkD P w K mg base CX0 1 (a_is_truth K) p_is_truth spTruth) (O4 : OkD P w K mg base CX0 2 (a_is_link K) p_is_link spLink)
    (F : ∃ fd, FnT K "of_kind" "of_kind" s_of_kind [] (a_of_kind K) fd) : OkD P w K mg base CX0 3 (a_of_kind K) p_of_kind spOfKind := by
  refine okD F sc_of_kind (fun _ _ _ _ _ _ us hl => match us, hl with | [_, _], _ => rfl) (fun vs H Q E h => ?_) (fun cdv A outer s H vs Q E hr h => ?_)
  · obtain ⟨s, v, rfl, _⟩ := h
    rfl
  · obtain ⟨kd, v, rfl, wk, k⟩ := h
    rcases wk with ⟨rfl, i, rfl⟩ | ⟨rfl, z, rfl, wz⟩ | ⟨rfl, b, rfl⟩ | ⟨rfl, i, rfl, i1⟩
    · have O := O1
      refine ⟨_, (pss_cons (ps_set (i := 2) sc_of_kind.nd rfl (Or.inl rfl) (pe_ix ix_kdict (pe_glob rfl T.g_FITS (gref _)) (pv 0) (fun _ _ => rfl)))
      (pss_one (ps_ret (pe_ownL (i := 2) O (hr.mono (by decide)) rfl (.inl rfl) (pa_cons (pv 1) pa_nil))))), ?_⟩
      exact ⟨_, rfl, _, _, _, rfl, rfl, T.f_whole, rfl, _, rfl, i, rfl, k _ (Same.refl _)⟩
    · have O := O2
      refine ⟨_, (pss_cons (ps_set (i := 2) sc_of_kind.nd rfl (Or.inl rfl) (pe_ix ix_kdict (pe_glob rfl T.g_FITS (gref _)) (pv 0) (fun _ _ => rfl)))
      (pss_one (ps_ret (pe_ownL (i := 2) O (hr.mono (by decide)) rfl (.inl rfl) (pa_cons (pv 1) pa_nil))))), ?_⟩
      exact ⟨_, rfl, _, _, _, rfl, rfl, T.f_text, rfl, _, rfl, z, rfl, wz, k⟩
    · have O := O3
      refine ⟨_, (pss_cons (ps_set (i := 2) sc_of_kind.nd rfl (Or.inl rfl) (pe_ix ix_kdict (pe_glob rfl T.g_FITS (gref _)) (pv 0) (fun _ _ => rfl)))
      (pss_one (ps_ret (pe_ownL (i := 2) O (hr.mono (by decide)) rfl (.inl rfl) (pa_cons (pv 1) pa_nil))))), ?_⟩
      exact ⟨_, rfl, _, _, _, rfl, rfl, T.f_truth, rfl, _, rfl, b, rfl, k _ (Same.refl _)⟩
    · have O := O4
      refine ⟨_, (pss_cons (ps_set (i := 2) sc_of_kind.nd rfl (Or.inl rfl) (pe_ix ix_kdict (pe_glob rfl T.g_FITS (gref _)) (pv 0) (fun _ _ => rfl)))
      (pss_one (ps_ret (pe_ownL (i := 2) O (hr.mono (by decide)) rfl (.inl rfl) (pa_cons (pv 1) pa_nil))))), ?_⟩
      exact ⟨_, rfl, _, _, _, rfl, rfl, T.f_link, rfl, _, rfl, i, rfl, i1, k _ (Same.refl _)⟩
theorem ifT {c : Bool} {A B : Prop} (h : c = true) (a : A) : if c = true then A else B := by
  rw [if_pos h]
  exact a
theorem ifF {c : Bool} {A B : Prop} (h : c = false) (b : B) : if c = true then A else B := by
  rw [h]
  exact iteF b
theorem eqS_t {a b : Str} (h : a = b) : decide (V.str a = V.str b) = true := decide_eq_true (by rw [h])
theorem eqS_f {a b : Str} (h : a ≠ b) : decide (V.str a = V.str b) = false := decide_eq_false fun q => h (V.str.inj q)
theorem neS_f {a b : Str} (h : a = b) : (!decide (V.str a = V.str b)) = false := by rw [eqS_t h]; rfl
theorem neS_t {a b : Str} (h : a ≠ b) : (!decide (V.str a = V.str b)) = true := by rw [eqS_f h]; rfl
theorem kinds_in {kd : Str} (h : kd = "whole" ∨ kd = "text" ∨ kd = "truth" ∨ kd = "link") : (!inV (.str kd) [.str "whole", .str "text", .str "truth", .str "link"]) = false := by
  rcases h with rfl | rfl | rfl | rfl <;> decide +kernel
theorem fates_in {f : Str} (h : f = "bar" ∨ f = "along" ∨ f = "empty") : (!inV (.str f) [.str "bar", .str "empty", .str "along"]) = false := by
  rcases h with rfl | rfl | rfl <;> decide +kernel
theorem n_be : ("bar" : Str) ≠ "empty" := by decide +kernel
theorem n_ae : ("along" : Str) ≠ "empty" := by decide +kernel
theorem n_ab : ("along" : Str) ≠ "bar" := by decide +kernel
theorem n_eb : ("empty" : Str) ≠ "bar" := by decide +kernel
def spColAmiss : Sp := fun vs H Q _ => ∃ (ws : List Str) (c : Col), vs = [.str c.nm, .str c.kd, .bl c.bare, c.goal, .str c.fate] ∧ ColOk ws c ∧ (∀ s ∈ ws, Word s) ∧ ∀ H', Same H H' → Q (.str "") H'
theorem sc_column_amiss : FnScope n_column_amiss p_column_amiss (defScope s_column_amiss) := ⟨rfl, rfl, rfl, by decide +kernel, rfl, by decide +kernel, by decide +kernel⟩
theorem ok_column_amiss (T : Txt K mg w) (O_is_word : OkD P w K mg base CX0 2 (a_is_word K) p_is_word spWord) (F : ∃ fd, FnT K "column_amiss" "column_amiss" s_column_amiss [] (a_column_amiss K) fd) : OkD P w K mg base CX0 3 (a_column_amiss K) p_column_amiss spColAmiss := by
  refine okD F sc_column_amiss (fun _ _ _ _ _ _ us hl => match us, hl with | [_, _, _, _, _], _ => rfl) (fun vs H Q E h => ?_) (fun cdv A outer s H vs Q E hr h => ?_)
  · obtain ⟨ws, c, rfl, _⟩ := h
    rfl
  · obtain ⟨ws, ⟨nm, kd, bare, lone, goal, fate⟩, rfl, ⟨wn, kdo, go, fo⟩, ww, k⟩ := h
    dsimp only at wn kdo go fo
    obtain ⟨t1, hBAR⟩ := T.s_BAR
    obtain ⟨t2, hEMPTY⟩ := T.s_EMPTY
    obtain ⟨t3, hALONG⟩ := T.s_ALONG
    refine ⟨_, (pss_cons (ps_if (pt_not (pt_val (pe_own O_is_word (hr.mono (by decide)) T.g_is_word (pa_cons (pv 0) pa_nil)))) (pss_one (ps_ret pe_str)) pss_nil)
      (pss_cons (ps_if (pt_cmpR op_notIn_seq (pv 1) (pe_glob rfl T.g_KINDS (gref _)) (by rfl)) (pss_one (ps_ret pe_str)) pss_nil)
      (pss_cons (ps_if (pt_mid (PW.pt (pw_or (PW.pt (pw_and (pt_cmpR op_eq (pv 1) pe_str (nomark _)) (pw_and1 (pt_not (pt_val (pe_own O_is_word (hr.mono (by decide)) T.g_is_word (pa_cons (pv 3) pa_nil))))))) (pw_or1 (PW.pt (pw_and (pt_cmpR op_ne (pv 1) pe_str (nomark _)) (pw_and1 (pt_cmpR op_notN (pv 3) pe_non (nomark _))))))))) (pss_one (ps_ret pe_str)) pss_nil)
      (pss_cons (ps_if (pt_mid (PW.pt (pw_or (pt_cmpR op_notIn_seq (pv 4) (pe_tup (pa_cons (pe_glob rfl hBAR (gstr _ _)) (pa_cons (pe_glob rfl hEMPTY (gstr _ _)) (pa_cons (pe_glob rfl hALONG (gstr _ _)) pa_nil)))) (by rfl)) (pw_or (PW.pt (pw_and (pt_cmpR op_eq (pv 4) (pe_glob rfl hEMPTY (gstr _ _)) (nomark _)) (pw_and1 (pt_not (pt_val (pv 2)))))) (pw_or1 (PW.pt (pw_and (pt_cmpR op_ne (pv 4) (pe_glob rfl hBAR (gstr _ _)) (nomark _)) (pw_and1 (pt_cmpR op_ne (pv 1) pe_str (nomark _)))))))))) (pss_one (ps_ret pe_str)) pss_nil)
      (pss_one (ps_ret pe_str)))))), ?_⟩
    refine ⟨_, rfl, nm, rfl, wn, fun H1 s1 => ⟨true, rfl, iteF ?_⟩⟩
    refine ⟨_, rfl, _, _, rfl, .inr (T.t_KINDS _), rfl, rfl, _, rfl, ifF (kinds_in kdo) ?_⟩
    refine ⟨fun b H2 => b = false ∧ Same H H2, ?_, ?_⟩
    · rcases go with ⟨rfl, g, rfl, hg⟩ | ⟨nl, rfl⟩
      · refine ⟨_, rfl, rfl, _, rfl, ifT (eqS_t rfl) ⟨_, rfl, g, rfl, ww g hg, fun H2 s2 => ⟨true, rfl, iteF ?_⟩⟩⟩
        exact ⟨_, rfl, rfl, _, rfl, ifF (neS_f rfl) ⟨rfl, s1.trans s2⟩⟩
      · refine ⟨_, rfl, rfl, _, rfl, ifF (eqS_f nl) (iteF ?_)⟩
        exact ⟨_, rfl, rfl, _, rfl, ifT (neS_t nl) ⟨_, rfl, rfl, _, rfl, rfl, s1⟩⟩
    · rintro b H2 ⟨rfl, s2⟩
      refine iteF ⟨fun b H3 => b = false ∧ Same H H3, ?_, ?_⟩
      · refine ⟨_, rfl, by show 3 ≤ sizeLine; decide, fun t ht => ?_⟩
        have f3 : fate = "bar" ∨ fate = "along" ∨ fate = "empty" := by
          rcases fo with h | ⟨_, h⟩ | ⟨_, _, h⟩
          · exact .inl h
          · exact .inr (.inl h)
          · exact .inr (.inr h)
        refine ⟨t, _, rfl, .inr (SqT.of upd_same), rfl, rfl, _, rfl, ifF (fates_in f3) ?_⟩
        have s3 := s2.trans (Same.new (o := .tup [.str "bar", .str "empty", .str "along"]) ht)
        rcases fo with rfl | ⟨rfl, rfl⟩ | ⟨rfl, rfl, rfl⟩
        · exact ⟨_, rfl, rfl, _, rfl, ifF (eqS_f n_be) (iteF ⟨_, rfl, rfl, _, rfl, ifF (neS_f rfl) ⟨rfl, s3⟩⟩)⟩
        · exact ⟨_, rfl, rfl, _, rfl, ifF (eqS_f n_ae) (iteF ⟨_, rfl, rfl, _, rfl, ifT (neS_t n_ab) ⟨_, rfl, rfl, _, rfl, neS_f rfl, s3⟩⟩)⟩
        · exact ⟨_, rfl, rfl, _, rfl, ifT (eqS_t rfl) ⟨_, rfl, true, rfl, iteF ⟨_, rfl, rfl, _, rfl, ifT (neS_t n_eb) ⟨_, rfl, rfl, _, rfl, neS_f rfl, s3⟩⟩⟩⟩
      · rintro b H3 ⟨rfl, s3⟩
        exact iteF (k _ s3)
def CIkw : List (Str × V) := [("kind", .str "whole"), ("empty", .bl false), ("once", .bl false), ("to", .non), ("gone", .str "bar")]
theorem putF_new {f : Str} {v : V} : ∀ {fs : List (Str × V)}, ¬ f ∈ fs.map (·.1) → putF f v fs = fs ++ [(f, v)]
  | [], _ => rfl
  | (g, x) :: r, h => by
    have h1 : ¬ g = f := fun e => h (by simp [e])
    have h2 : ¬ f ∈ r.map (·.1) := fun e => h (by
      rw [List.map_cons]
      exact List.mem_cons_of_mem _ e)
    show (if g = f then (g, v) :: r else (g, x) :: putF f v r) = _
    rw [if_neg h1, putF_new h2]
    rfl
theorem plus1 {f : Str} {v : V} {fs : List (Str × V)} {n : Nat} (h : fs.length ≤ n) : (putF f v fs).length ≤ n + 1 := Nat.le_trans (length_putF f v fs) (Nat.succ_le_succ h)
theorem lt1000 {a n : Nat} (h : n < 900) (z : a ≤ n) : a < 1000 := by omega
theorem col_put (c : Col) : putF "gone" (.str c.fate) (putF "to" c.goal (putF "once" (.bl c.lone) (putF "empty" (.bl c.bare) (putF "kind" (.str c.kd) (putF "name" (.str c.nm) []))))) = colF c := by
  have e0 : putF "name" (.str c.nm) [] = [(("name" : Str), V.str c.nm)] := rfl
  have e1 := putF_new (f := "kind") (v := .str c.kd) (fs := [(("name" : Str), (.str c.nm : V))]) (show ¬ ("kind" : Str) ∈ [("name" : Str)] by decide +kernel)
  have e2 := putF_new (f := "empty") (v := .bl c.bare) (fs := [(("name" : Str), (.str c.nm : V)), (("kind" : Str), (.str c.kd : V))]) (show ¬ ("empty" : Str) ∈ [("name" : Str), ("kind" : Str)] by decide +kernel)
  have e3 := putF_new (f := "once") (v := .bl c.lone) (fs := [(("name" : Str), (.str c.nm : V)), (("kind" : Str), (.str c.kd : V)), (("empty" : Str), (.bl c.bare : V))]) (show ¬ ("once" : Str) ∈ [("name" : Str), ("kind" : Str), ("empty" : Str)] by decide +kernel)
  have e4 := putF_new (f := "to") (v := c.goal) (fs := [(("name" : Str), (.str c.nm : V)), (("kind" : Str), (.str c.kd : V)), (("empty" : Str), (.bl c.bare : V)), (("once" : Str), (.bl c.lone : V))]) (show ¬ ("to" : Str) ∈ [("name" : Str), ("kind" : Str), ("empty" : Str), ("once" : Str)] by decide +kernel)
  have e5 := putF_new (f := "gone") (v := .str c.fate) (fs := [(("name" : Str), (.str c.nm : V)), (("kind" : Str), (.str c.kd : V)), (("empty" : Str), (.bl c.bare : V)), (("once" : Str), (.bl c.lone : V)), (("to" : Str), (c.goal : V))]) (show ¬ ("gone" : Str) ∈ [("name" : Str), ("kind" : Str), ("empty" : Str), ("once" : Str), ("to" : Str)] by decide +kernel)
  rw [e0, e1]
  show putF "gone" _ (putF "to" _ (putF "once" _ (putF "empty" _ _))) = _
  exact (congrArg (fun z => putF "gone" (.str c.fate) (putF "to" c.goal (putF "once" (.bl c.lone) z))) e2).trans ((congrArg (fun z => putF "gone" (.str c.fate) (putF "to" c.goal z)) e3).trans ((congrArg (fun z => putF "gone" (.str c.fate) z) e4).trans e5))
def spColInit (K : Fr) : Sp := fun vs H Q _ => ∃ (x dx : Addr) (ws : List Str) (c : Col), vs = [.ref x, .str c.nm, .str c.kd, .bl c.bare, .bl c.lone, c.goal, .str c.fate] ∧ H x = some (.ins (CC K) dx []) ∧ ColOk ws c ∧ (∀ s ∈ ws, Word s) ∧
  ∀ H1, Same H H1 → Q .non (upd H1 x (.ins (CC K) dx (colF c)))
theorem sc_Column_init : FnScope n_Column_init p_Column_init (defScope s_Column_init) := ⟨rfl, rfl, rfl, by decide +kernel, rfl, by decide +kernel, by decide +kernel⟩
theorem ok_Column_init (T : Txt K mg w) (O_column_amiss : OkD P w K mg base CX0 3 (a_column_amiss K) p_column_amiss spColAmiss) {fd : FuncData} (F : FnT K "__init__" "Column.__init__" s_Column_init CIkw (a_Column_init K) fd) :
    FnOk P w K mg base CX0 4 (a_Column_init K) fd p_Column_init (spColInit K) := by
  refine F.ok sc_Column_init (fun vs H Q E h => ?_) fun cdv A outer s H vs Q E hr h => ?_
  · obtain ⟨x, dx, ws, c, rfl, _⟩ := h
    rfl
  · obtain ⟨x, dx, ws, ⟨nm, kd, bare, lone, goal, fate⟩, rfl, hx, co, ww, k⟩ := h
    suffices z : ∃ t, PSs (cxOf CX0 P w K mg base n_Column_init "Column.__init__" (defScope s_Column_init) (a_Column_init K) cdv A outer s H E).nox (defBody s_Column_init) t ∧ t { nx := fun _ H' => Q .non H', rt := Q } (L2.start n_Column_init _) H by
      obtain ⟨t, z1, z2⟩ := z
      exact ⟨t, z1.nox, z2⟩
    refine ⟨_, (pss_cons (ps_set (i := 7) sc_Column_init.nd rfl (Or.inl rfl) (pe_own O_column_amiss (hr.mono (by decide)) T.g_column_amiss (pa_cons (pv 1) (pa_cons (pv 2) (pa_cons (pv 3) (pa_cons (pv 5) (pa_cons (pv 6) pa_nil)))))))
      (pss_cons (ps_if (pt_cmpR op_ne (pv 7) pe_str (nomark _)) (pss_one ps_never) pss_nil)
      (pss_cons (ps_fld (pv 0) (pv 1) rfl)
      (pss_cons (ps_fld (pv 0) (pv 2) rfl)
      (pss_cons (ps_fld (pv 0) (pv 3) rfl)
      (pss_cons (ps_fld (pv 0) (pv 4) rfl)
      (pss_cons (ps_fld (pv 0) (pv 5) rfl)
      (pss_one (ps_fld (pv 0) (pv 6) rfl))))))))), ?_⟩
    refine ⟨_, rfl, _, rfl, _, rfl, _, rfl, _, rfl, ws, ⟨nm, kd, bare, lone, goal, fate⟩, rfl, co, ww, fun H1 s1 => ?_⟩
    refine ⟨_, rfl, rfl, _, rfl, ifF (neS_f rfl) ?_⟩
    refine ⟨_, rfl, _, rfl, x, _, dx, _, rfl, s1 _ _ hx, T.c_Column, T.n_Column_name, by show 0 < 1000; decide, ?_⟩
    refine ⟨_, rfl, _, rfl, x, _, dx, _, rfl, upd_same, T.c_Column, T.n_Column_kind, Nat.lt_of_le_of_lt (length_putF _ _ _) (by show 0 + 1 < 1000; decide), ?_⟩
    refine ⟨_, rfl, _, rfl, x, _, dx, _, rfl, upd_same, T.c_Column, T.n_Column_empty, lt1000 (by decide : 2 < 900) (plus1 (plus1 (Nat.le_refl 0))), ?_⟩
    refine ⟨_, rfl, _, rfl, x, _, dx, _, rfl, upd_same, T.c_Column, T.n_Column_once, lt1000 (by decide : 3 < 900) (plus1 (plus1 (plus1 (Nat.le_refl 0)))), ?_⟩
    refine ⟨_, rfl, _, rfl, x, _, dx, _, rfl, upd_same, T.c_Column, T.n_Column_to, lt1000 (by decide : 4 < 900) (plus1 (plus1 (plus1 (plus1 (Nat.le_refl 0))))), ?_⟩
    refine ⟨_, rfl, _, rfl, x, _, dx, _, rfl, upd_same, T.c_Column, T.n_Column_gone, lt1000 (by decide : 5 < 900) (plus1 (plus1 (plus1 (plus1 (plus1 (Nat.le_refl 0)))))), ?_⟩
    have z := k H1 s1
    rw [← col_put] at z
    rw [upd_upd, upd_upd, upd_upd, upd_upd, upd_upd]
    exact z
/-- how Column(..) binds -/
theorem kb_Column {fd : FuncData} (F : FnT K "__init__" "Column.__init__" s_Column_init CIkw (a_Column_init K) fd) : KBn K fd p_Column_init 2 ["kind", "empty", "once", "to", "gone"] (fun us ws => us ++ ws) (fun vs zs => vs ++ zs) := by
  obtain ⟨mv, h⟩ := F.kbinds0 (ps := p_Column_init) 2 ["kind", "empty", "once", "to", "gone"] [] (fun us mv ws => us ++ ws) (by simp [CIkw]) (fun q hq => nomatch hq) (fun r1 r2 r3 => r1.append r3)
    (fun D doc pm an cdv ct us mv ws h1 h2 h3 => match us, mv, ws, h1, h2, h3 with | [_, _], [], [_, _, _, _, _], _, _, _ => rfl)
  exact h
end
end K16

/-! K16Set: how many things a set of unlike texts holds -/
namespace K16
open PySem PySem.Spec PyProof.Rows L2 He
section
variable {P : Program} {w : World} {A : Around} {D : Addr}
abbrev TxSet (P : Program) (w : World) (h : Heap) (D : Addr) (ts : List Str) : Prop := h.SetOf (PySem.strKind P w) D (fun x => decide (x ∈ ts)) ts.length
theorem TxSet.at {h g : Heap} {ts : List Str} (z : TxSet P w h D ts) (k : ∀ o, h.get? D = some o → g.get? D = some o) : TxSet P w g D ts := by
  obtain ⟨o, es, ep, t, ho, r⟩ := z
  exact ⟨o, es, ep, t, k o ho, r⟩
/-- a text that is not there is put in -/
theorem tx_add {s : Shared} {E : Value → Shared → Prop} {ts : List Str} {x : Str} {t : Tok} {Q : Bool → Shared → Prop} (z : TxSet P w s.heap D ts) (nx : ¬ x ∈ ts) (few : ts.length < 1000)
    (q : ∀ g, Heap.SameBut D s.heap g → TxSet P w g D (ts ++ [x]) → Q true { s with heap := g, toks := s.toks + 1 }) : wpAny (model P w) A (setAdd D (.str x t)) Q E s := by
  unfold setAdd
  refine wpAny_holding (wpAny_bind ((PySem.strKind P w).pyHash (k := x) (strKind_is _ _ _ _) ?_))
  refine wpAny_setAddHashed_of (knd := PySem.strKind P w) (s := { s with toks := s.toks + 1 }) (strKind_is _ _ _ _) rfl z (by unfold scanBound; omega) fun g sb z2 => ?_
  have e : (!decide (x ∈ ts)) = true := by simp [nx]
  rw [e]
  refine q g sb (SetOf_congr z2 (fun y => ?_) ?_)
  · simp [List.mem_append]
  · simp [nx]
/-- the rest of the walk -/
theorem tx_loop {R : Result → Shared → Prop} {I : Addr} {fp wr : List Addr} {G : Array GenState → Array GenState → Prop} {Pv : Nat → Value → Prop} {Sv : Nat → Shared → Prop} {ts : List Str}
    (W : WalksS P w A.in1 I fp wr G ts.length Pv Sv) (nf : ¬ D ∈ fp) (nd : ts.Nodup) (few : ts.length < 1000) (pv : ∀ i v, Pv i v → ∃ x t, ts[i]? = some x ∧ v = .str x t) :
    ∀ (m i : Nat) (s : Shared), i + m = ts.length → Sv i s → TxSet P w s.heap D (ts.take i) →
      (∀ g, Moved (D :: wr) G s g → TxSet P w g.heap D ts → R (.ok (.ret .none)) g) → codeAny (model P w) A (.builtin "set.update.loop" ⟨[.ref D, .ref I], []⟩) R s
  | m, i, s, hm, hs, z, q => by
    have nw : ¬ D ∈ wr := fun h => nf (W.sub _ h)
    have up : ∀ b ∈ wr, b ∈ D :: wr := fun b hb => List.mem_cons_of_mem _ hb
    refine codeAny_builtin F.entry_set_update_loop ?_; rw [Around.under_plainId F.plain_set_update_loop _]
    match m, hm with
    | 0, hm =>
      have e : i = ts.length := by omega
      rw [e] at hs z
      refine wpAny_bind (m := pyNext (.ref I)) (W.done s _ _ hs fun g mv => ?_)
      rw [List.take_length] at z
      exact wpAny_pure (q g (mv.mono up) (z.at fun o ho => mv.heap D o nw ho))
    | m + 1, hm =>
      refine wpAny_bind (m := pyNext (.ref I)) (W.item i s _ _ (by omega) hs fun v g hv hs2 mv => ?_)
      obtain ⟨x, t, hx, rfl⟩ := pv i v hv
      have z1 : TxSet P w g.heap D (ts.take i) := z.at fun o ho => mv.heap D o nw ho
      have nx : ¬ x ∈ ts.take i := fun h => by
        obtain ⟨j, hj, ej⟩ := List.getElem_of_mem h
        rw [List.length_take] at hj
        rw [List.getElem_take] at ej
        have q1 : ts[j]? = some x := by rw [← ej]; exact List.getElem?_eq_getElem (by omega)
        have q2 : j = i := (List.getElem?_inj (by omega) nd).mp (q1.trans hx.symm)
        omega
      refine wpAny_bind (m := holding [Value.str x t] (setAdd D (.str x t))) (wpAny_holding (tx_add z1 nx (by rw [List.length_take]; omega) fun h sb z2 => ?_))
      rw [← take_snoc hx] at z2
      refine wpAny_pure ⟨plainId_quiet F.plain_set_update_loop _, tx_loop W nf nd few pv m (i + 1) _ (by omega) (W.frame _ g _ _ hs2 (Nat.le_succ _) fun b hb o e => ?_) z2 fun g2 mv2 z3 => ?_⟩
      · rw [sb.2 b fun h => nf (h ▸ hb)]
        exact e
      · refine q g2 (Moved.trans W.gtrans ((mv.mono up).then_heap (Nat.le_succ _) fun b o hb e => ?_) mv2) z3
        rw [sb.2 b fun h => hb (h ▸ List.mem_cons_self)]
        exact e
theorem strs_all {us : List Value} {xs : List Str} (h : StrsAre us xs) : ∀ (i : Nat) (v : Value), us[i]? = some v → ∃ x t, xs[i]? = some x ∧ v = Value.str x t := by
  induction h with
  | nil => intro i v h; simp at h
  | cons n t hr ih =>
    intro i v h
    cases i with
    | zero =>
      simp at h
      exact ⟨n, t, by simp, h.symm⟩
    | succ i =>
      rw [List.getElem?_cons_succ] at h ⊢
      exact ih i v h
/-- what set.__init__ leaves of a list of unlike texts -/
theorem tx_init {s : Shared} {l : Addr} {us : Array Value} {ts : List Str} {lf : Bool} {E : Value → Shared → Prop} (hh : A.handled = none) (hl : s.heap.IsList l us) (hu : StrsAre us.toList ts) (nd : ts.Nodup) (few : ts.length < 1000)
    (hD : s.heap.get? D = some { cls := .type "set", dict := none, data := .set #[] 0 (.fresh 0 0 lf) }) {Q : PySem.Fin → Shared → Prop}
    (q : ∀ g k, TxSet P w g D ts → (∀ b o, b ≠ D → s.heap.get? b = some o → g.get? b = some o) → Q (.done (.ret .none)) { s with heap := g, toks := k }) :
    wpAny (model P w) A (Builtin.«set.__init__» ⟨[.ref D, .ref l], []⟩) Q E s := by
  have n1 := F.sub_list_set
  have n2 := F.sub_list_frozenset
  have n3 : (Value.type "list" == Value.type "dict") = false := by decide
  obtain ⟨⟨c1, c2, c3, c4⟩, ho, e1, nl, e2⟩ := id hl
  simp only at e1 e2
  subst e1 e2
  unfold Builtin.«set.__init__» noKeywords Builtin.Frozenset.updateFrom; generalize hPI : pyIter = PI
  wp_walk
  subst hPI
  have ll : l < s.heap.objs.size := Heap.lt_size ho
  have ld : D < s.heap.objs.size := Heap.lt_size hD
  have ne : D ≠ l := fun z => by
    rw [z, ho] at hD
    have y := congrArg Obj.cls (Option.some.inj hD)
    exact absurd (show (Value.type "list") = Value.type "set" from y) (by decide)
  refine wpAny_pyIter_list hl (wpAny_bind (wpAny_runValue ?_))
  have ue : us.toList.length = ts.length := StrsAre.len_eq hu
  have us_n : us.size = ts.length := by simpa using ue
  refine tx_loop (us_n ▸ (Walks.list (by simp [hh]) _ l (Nat.ne_of_lt ll) us).toS) ?_ nd few (fun i v hv => strs_all hu i v (by rw [Array.getElem?_toList]; exact hv)) ts.length 0 _ (by omega) ⟨⟨_, Heap.get?_push_size _ rfl, rfl, rfl⟩, hl.push _⟩ ?_ fun g mv z => ?_
  · intro z
    rcases List.mem_cons.mp z with z | z
    · exact Nat.ne_of_lt ld z
    · exact ne (List.mem_singleton.mp z)
  · exact SetOf_congr ((setObjOf_fresh (knd := PySem.strKind P w) lf).setOf (Heap.get?_push_of_some _ hD) (by unfold scanBound; omega)) (fun _ => rfl) rfl
  · obtain ⟨hp, gn, dw, tk, os⟩ := g
    have e1 : gn = s.gens := mv.gens
    have e2 : dw = s.drawn := mv.drawn
    have e3 : os = s.os := mv.os
    subst e1 e2 e3
    refine wpAny_pure (wpAny_pure (q hp tk z fun b o nb e => mv.heap b o (fun y => ?_) (Heap.get?_push_of_some _ e)))
    rcases List.mem_cons.mp y with y | y
    · exact nb y
    · exact Nat.ne_of_lt (Heap.lt_size e) (List.mem_singleton.mp y)
/-- set(a list of unlike texts) -/
theorem tx_call {s : Shared} {l : Addr} {us : Array Value} {ts : List Str} {E : Value → Shared → Prop} (hh : A.handled = none) (hl : s.heap.IsList l us) (hu : StrsAre us.toList ts) (nd : ts.Nodup) (few : ts.length < 1000) {Q : Value → Shared → Prop}
    (q : ∀ g k, TxSet P w g s.heap.objs.size ts → (∀ b o, s.heap.get? b = some o → g.get? b = some o) → Q (.ref s.heap.objs.size) { s with heap := g, toks := k }) :
    wpAny (model P w) A (call (.type "set") [.ref l]) Q E s := by
  obtain ⟨c, tl, hmro⟩ := F.called_set.mro
  have z1 := F.called_set.made
  have z2 := F.called_set.sub
  have z3 := F.called_set.notType
  have z4 := F.called_set.canCreate
  have z5 := F.typeCall_set_1 (.ref l)
  have z6 := F.called_set.init.lookup
  refine wpAny_call (codeAny_of_tree (wpAny_pure ⟨Code.quiet_builtin _ (by decide +kernel), codeAny_builtin F.entry_type_call ?_⟩)); rw [Around.under_plain (weight_type_call_type "set" [.ref l] []) rfl]
  repeat (any_goals first | assumption | wp_step)
  refine codeAny_mono (code_set_new_1 (.ref l) (E := E) (Q₁ := fun v g => ∃ b : Bool, v = .ref s.heap.objs.size ∧ g = { s with heap := s.heap.push { cls := .type "set", dict := none, data := .set #[] 0 (.fresh 0 0 b) } }) fun b => ⟨b, rfl, rfl⟩) fun r g hr => ?_
  match r, hr with
  | .ok (.ret v), hr =>
    obtain ⟨lf, rfl, rfl⟩ := hr
    have hD := Heap.get?_push_size s.heap (o := { cls := .type "set", dict := none, data := .set #[] 0 (.fresh 0 0 lf) }) rfl
    have hT : Shared.TypeIs { s with heap := s.heap.push { cls := .type "set", dict := none, data := .set #[] 0 (.fresh 0 0 lf) } } (.ref s.heap.objs.size) "set" := ⟨_, hD, rfl⟩
    have z7 := F.called_set.init.bind (.ref s.heap.objs.size)
    repeat (any_goals first | assumption | wp_step)
    refine codeAny_call_builtin F.called_set.init.plain F.entry_set_init (check_set_init_1 hT ?_)
    have hs : s.heap.objs.size ≠ l := Nat.ne_of_gt (by obtain ⟨o, ho, _⟩ := hl; exact Heap.lt_size ho)
    refine tx_init (lf := lf) (by simp [hh]) (hl.push _) hu nd few hD fun g k z kp => ?_
    refine wpAny_pure (wpAny_pure (q g k z fun b o e => kp b o (Nat.ne_of_lt (Heap.lt_size e)) (Heap.get?_push_of_some _ e)))
  | .error e, hr => exact hr
end
def tLenSetN (K : Fr) (ta : TE) : TE := fun σ H Q => ta σ H fun x H1 => ∃ (l : Addr) (ts : List Str), x = .ref l ∧ SqL K H1 l (ts.map V.str) ∧ ts.Nodup ∧ ts.length < 1000 ∧ Q (.int ts.length) H1
/-- len(set(names)) where the names are unlike -/
theorem pe_lenSetN {X : Cx} {a : Expr} {ta : TE} {p p2 q pos : Pos} (hc : X.calm = true) (hg : Gl X "len") (hm : X.mg "len" = none) (hg2 : Gl X "set") (hm2 : X.mg "set" = none) (ha : PE X a ta)
    (na : starEach [a] X.env = (false, eval a X.env) :: starEach [] X.env := by rfl) : PE X (.Call (.Name "len" p) [.Call (.Name "set" p2) [a] [] q] [] pos) (tLenSetN X.K ta) := by
  refine ⟨fun pins s σ H Q I h => Call_ (ld_blt I hg hm boot_len ?_)⟩
  refine callWith_builtin1 (args_cons (Call_ (ld_blt I hg2 hm2 boot_set ?_)) rfl) rfl rfl
  refine callWith_type1 (args_cons (thn (ha.run pins s σ H _ I h) fun v s1 z => args_nil ?_) na) na rfl
  obtain ⟨x, H1, I1, r1, l, ts, rfl, hq, nd, few, q1⟩ := z
  cases r1
  obtain ⟨its, r, pl, hz⟩ := I1.list hq
  refine tx_call (I1.ok.hd hc) pl.isList (by simpa using strsAre_of r) nd few fun g k z kp => args_nil ?_
  obtain ⟨o, es, ep, t, ho, hex, hd, _, _, _, hf, hn⟩ := z
  have I2 : Inv X pins σ H1 { s1 with heap := g, toks := k } := I1.kept fun b o e => kp b o e
  exact call_len_set ho hex hd hf (by rw [hn]; omega) ⟨.int ts.length, H1, I2.tok _, ⟨_, by rw [hn]⟩, q1⟩
end K16

/-! K16Comp: comprehensions that leave all that stood -/
namespace K16
open PySem PySem.Spec PyProof.Rows L2 He
theorem unlockS {H H' : Hp} {d : Addr} {od : Obj} {u : HO} (s : Same (upd H d (.frz od u)) H') (h : H d = some u) : H' d = some (.frz od u) ∧ Same H (upd H' d u) := by
  refine ⟨s d _ upd_same, fun a o e => ?_⟩
  by_cases q : a = d
  · subst q
    rw [h] at e
    cases e
    exact upd_same
  · rw [upd_ne q]
    refine s a o ?_
    rw [upd_ne q]
    exact e
/-- what stands where another thing is locked -/
theorem lockO {H : Hp} {a d : Addr} {o u : HO} {od : Obj} (h : H a = some o) (hd : H d = some u) (ne : o ≠ u) : upd H d (.frz od u) a = some o := by
  rw [upd_ne (ne_of h hd ne)]
  exact h
theorem rdO {H : Hp} {a : Addr} {u : HO} (h : H a = some u) : Rd H a u := .inl h
theorem rdF {H : Hp} {a : Addr} {o : Obj} {u : HO} (h : H a = some (.frz o u)) : Rd H a u := .inr ⟨o, h⟩
theorem Rd.sameK {H H' : Hp} {a : Addr} {u : HO} (h : Rd H a u) (s : Same H H') : Rd H' a u := by
  rcases h with h | ⟨o, h⟩
  · exact .inl (s _ _ h)
  · exact .inr ⟨o, s _ _ h⟩
/-- what is read of a thing when some thing is locked -/
theorem rdLock {H : Hp} {a d : Addr} {u : HO} {kvs : List (Key × V)} {od : Obj} (h : Rd H a u) (hd : H d = some (.dK kvs)) : Rd (upd H d (.frz od (.dK kvs))) a u := by
  by_cases q : a = d
  · subst q
    rcases h with h | ⟨o, h⟩
    · rw [hd] at h
      cases h
      exact .inr ⟨od, upd_same⟩
    · rw [hd] at h
      cases h
  · rcases h with h | ⟨o, h⟩
    · exact .inl (by rw [upd_ne q]; exact h)
    · exact .inr ⟨o, by rw [upd_ne q]; exact h⟩
theorem notin_take {α : Type} {l : List α} {i : Nat} {x : α} (nd : l.Nodup) (h : l[i]? = some x) : ¬ x ∈ l.take i := fun hm => by
  obtain ⟨j, hj, ej⟩ := List.getElem_of_mem hm
  rw [List.length_take] at hj
  rw [List.getElem_take] at ej
  have e1 : l[j]? = some x := by
    rw [← ej]
    exact List.getElem?_eq_getElem (by omega)
  have e3 : j = i := (List.getElem?_inj (by omega) nd).mp (e1.trans h.symm)
  omega
theorem map_get {α β : Type} {f : α → β} {l : List α} {i : Nat} {x : α} (h : l[i]? = some x) : (l.map f)[i]? = some (f x) := by
  rw [List.getElem?_map, h]
  rfl
def rListOf (K : Fr) : List V → Hp → VK → Prop := fun xs H Q => ∃ (p : Addr) (ys : List V), xs = [.ref p] ∧ (SqL K H p ys ∨ SqT K H p ys) ∧ ∀ l, H l = none → Q (.ref l) (upd H l (.lst ys))
section
variable {J : It} {n : Nat} {G : Hp → Prop} {Y : Nat → Hp → V → Hp → Prop} {g : TG} {tt : TT} {te tk tv : TE} {vs : List Nat} {σ : St} {H1 : Hp} {D : Addr} {Qd : Hp → Prop}
theorem fm_len {os : List (Option V)} (i : Nat) : ((os.take i).filterMap id).length ≤ os.length := Nat.le_trans (List.length_filterMap_le _ _) (by rw [List.length_take]; omega)
/-- a list made of what each turn gives -/
theorem lc_keep (w : Walk J n G Y) (os : List (Option V)) (hn : os.length = n) (few : n < 1000) (hD : H1 D = none) (hG : ∀ H, Same H1 H → G H)
    (hs : ∀ i o x H H' (Nx : Hp → Prop) (Ad : V → Hp → Prop), os[i]? = some o → Same H1 H → Y i H x H' → (o = none → ∀ H4, Same H H4 → Nx H4) → (∀ y, o = some y → ∀ H4, Same H H4 → Ad y H4) →
      g x (wipe σ vs) H' fun σ2 H2 => wipe σ2 vs = wipe σ vs ∧ tt σ2 H2 fun b H3 => if b = true then te σ2 H3 Ad else Nx H3)
    (hd : ∀ H, Same H1 H → H D = some (.lst (os.filterMap id)) → Qd H) :
    ∃ W : Nat → Nat → Hp → Prop, (∃ m, W 0 m (upd H1 D (.lst []))) ∧ ∀ i m H, W i m H →
      (J.stop i H ∧ Qd H) ∨ (J.go i H ∧ ∃ Nx : Hp → Prop, (∀ H', Nx H' → ∃ m', m' < m ∧ W (i + 1) m' H') ∧ ∀ x H', J.yld i H x H' → g x (wipe σ vs) H' fun σ2 H2 => wipe σ2 vs = wipe σ vs ∧ tt σ2 H2 fun b H3 =>
        if b = true then te σ2 H3 fun y H4 => ∃ acc, H4 D = some (.lst acc) ∧ acc.length < sizeLine ∧ Nx (upd H4 D (.lst (acc ++ [y]))) else Nx H3) := by
  refine lc_it w (fun i H => Same H1 H ∧ H D = some (.lst ((os.take i).filterMap id))) ⟨Same.new hD, upd_same⟩ (fun i H _ p => hG H p.1) (fun i x H H' hi p y => ?_) (fun H p => hd H p.1 (by have q := p.2; rw [← hn, List.take_length] at q; exact q))
  obtain ⟨p1, p2⟩ := p
  have ho : os[i]? = some os[i] := List.getElem?_eq_getElem (by omega)
  have st : (os.take (i + 1)).filterMap id = (os.take i).filterMap id ++ (os[i]'(by omega)).toList := by
    rw [take_snoc ho, List.filterMap_append]
    cases os[i] <;> rfl
  have few2 : ((os.take i).filterMap id).length < sizeLine := Nat.lt_of_le_of_lt (fm_len i) (by rw [sizeLine_eq]; omega)
  refine hs i _ x H H' _ _ ho p1 y (fun e H4 s4 => ?_) fun y e H4 s4 => ?_
  · refine ⟨p1.trans s4, ?_⟩
    rw [st, e]
    rw [show (none : Option V).toList = [] from rfl, List.append_nil]
    exact s4 _ _ p2
  · refine ⟨_, s4 _ _ p2, few2, sWr (p1.trans s4) hD, ?_⟩
    rw [upd_same, st, e]
    rfl
/-- .. a thing at each turn -/
theorem lc_map (w : Walk J n G Y) (ys : List V) (hn : ys.length = n) (few : n < 1000) (hD : H1 D = none) (hG : ∀ H, Same H1 H → G H)
    (hs : ∀ i z x H H' (Nx : Hp → Prop) (Ad : V → Hp → Prop), ys[i]? = some z → Same H1 H → Y i H x H' → (∀ H4, Same H H4 → Ad z H4) →
      g x (wipe σ vs) H' fun σ2 H2 => wipe σ2 vs = wipe σ vs ∧ tt σ2 H2 fun b H3 => if b = true then te σ2 H3 Ad else Nx H3)
    (hd : ∀ H, Same H1 H → H D = some (.lst ys) → Qd H) :
    ∃ W : Nat → Nat → Hp → Prop, (∃ m, W 0 m (upd H1 D (.lst []))) ∧ ∀ i m H, W i m H →
      (J.stop i H ∧ Qd H) ∨ (J.go i H ∧ ∃ Nx : Hp → Prop, (∀ H', Nx H' → ∃ m', m' < m ∧ W (i + 1) m' H') ∧ ∀ x H', J.yld i H x H' → g x (wipe σ vs) H' fun σ2 H2 => wipe σ2 vs = wipe σ vs ∧ tt σ2 H2 fun b H3 =>
        if b = true then te σ2 H3 fun y H4 => ∃ acc, H4 D = some (.lst acc) ∧ acc.length < sizeLine ∧ Nx (upd H4 D (.lst (acc ++ [y]))) else Nx H3) := by
  have e : ∀ l : List V, (l.map some).filterMap id = l := fun l => by simp
  refine lc_keep w (ys.map some) (by rw [List.length_map]; exact hn) few hD hG (fun i o x H H' Nx Ad ho s y n1 n2 => ?_) fun H s q => hd H s (by rw [e] at q; exact q)
  obtain ⟨z, hz, rfl⟩ := map_at ho
  exact hs i z x H H' Nx Ad hz s y (n2 z rfl)
/-- a dict comprehension by an invariant -/
theorem dc_it (w : Walk J n G Y) (Pv : Nat → Hp → Prop) (h0 : Pv 0 (upd H1 D (.dK []))) (hG : ∀ i H, i ≤ n → Pv i H → G H)
    (hs : ∀ i x H H', i < n → Pv i H → Y i H x H' → g x (wipe σ vs) H' fun σ2 H2 => wipe σ2 vs = wipe σ vs ∧ tt σ2 H2 fun b H3 =>
      if b = true then tk σ2 H3 fun y H4 => tv σ2 H4 fun z H5 => ∃ kvs k, y = kV k ∧ H5 D = some (.dK kvs) ∧ kvs.length < sizeLine ∧ Pv (i + 1) (upd H5 D (.dK (putK kvs k z))) else Pv (i + 1) H3) (hd : ∀ H, Pv n H → Qd H) :
    ∃ W : Nat → Nat → Hp → Prop, (∃ m, W 0 m (upd H1 D (.dK []))) ∧ ∀ i m H, W i m H →
      (J.stop i H ∧ Qd H) ∨ (J.go i H ∧ ∃ Nx : Hp → Prop, (∀ H', Nx H' → ∃ m', m' < m ∧ W (i + 1) m' H') ∧ ∀ x H', J.yld i H x H' → g x (wipe σ vs) H' fun σ2 H2 => wipe σ2 vs = wipe σ vs ∧ tt σ2 H2 fun b H3 =>
        if b = true then tk σ2 H3 fun y H4 => tv σ2 H4 fun z H5 => ∃ kvs k, y = kV k ∧ H5 D = some (.dK kvs) ∧ kvs.length < sizeLine ∧ Nx (upd H5 D (.dK (putK kvs k z))) else Nx H3) := by
  refine ⟨fun i m H => m = n - i ∧ i ≤ n ∧ Pv i H, ⟨n, by simp, Nat.zero_le _, h0⟩, ?_⟩
  rintro i m H ⟨rfl, hi, p⟩
  have q := hG i H hi p
  by_cases hlt : i < n
  · exact .inr ⟨w.goes i H hlt q, Pv (i + 1), fun H' p' => ⟨n - (i + 1), by omega, rfl, hlt, p'⟩, fun x H' y => hs i x H H' hlt p (w.yields i H x H' hlt q y)⟩
  · have e : i = n := by omega
    subst e
    exact .inl ⟨w.stops H q, hd H p⟩
theorem putK_snoc {kvs : List (Key × V)} {k : Key} {v : V} (h : ¬ k ∈ kvs.map (·.1)) : putK kvs k v = kvs ++ [(k, v)] := by
  apply putK_new
  unfold valV
  rw [List.find?_eq_none.mpr]
  · rfl
  · intro p hp q
    exact h (List.mem_map.mpr ⟨p, hp, of_decide_eq_true q⟩)
/-- a dict of what each turn gives; the keys are unlike -/
theorem dc_keep (w : Walk J n G Y) (kvs : List (Key × V)) (hn : kvs.length = n) (few : n < 1000) (nd : (kvs.map (·.1)).Nodup) (hD : H1 D = none) (hG : ∀ H, Same H1 H → G H)
    (hs : ∀ i k z x H H' (Nx : Hp → Prop) (Ad : V → V → Hp → Prop), kvs[i]? = some (k, z) → Same H1 H → Y i H x H' → (∀ H4, Same H H4 → Ad (kV k) z H4) →
      g x (wipe σ vs) H' fun σ2 H2 => wipe σ2 vs = wipe σ vs ∧ tt σ2 H2 fun b H3 => if b = true then tk σ2 H3 fun y H4 => tv σ2 H4 (Ad y) else Nx H3)
    (hd : ∀ H, Same H1 H → H D = some (.dK kvs) → Qd H) :
    ∃ W : Nat → Nat → Hp → Prop, (∃ m, W 0 m (upd H1 D (.dK []))) ∧ ∀ i m H, W i m H →
      (J.stop i H ∧ Qd H) ∨ (J.go i H ∧ ∃ Nx : Hp → Prop, (∀ H', Nx H' → ∃ m', m' < m ∧ W (i + 1) m' H') ∧ ∀ x H', J.yld i H x H' → g x (wipe σ vs) H' fun σ2 H2 => wipe σ2 vs = wipe σ vs ∧ tt σ2 H2 fun b H3 =>
        if b = true then tk σ2 H3 fun y H4 => tv σ2 H4 fun z H5 => ∃ kvs k, y = kV k ∧ H5 D = some (.dK kvs) ∧ kvs.length < sizeLine ∧ Nx (upd H5 D (.dK (putK kvs k z))) else Nx H3) := by
  refine ⟨fun i m H => m = n - i ∧ i ≤ n ∧ Same H1 H ∧ H D = some (.dK (kvs.take i)), ⟨n, by simp, Nat.zero_le _, Same.new hD, upd_same⟩, ?_⟩
  rintro i m H ⟨rfl, hi, p1, p2⟩
  have q := hG H p1
  by_cases hlt : i < n
  · refine .inr ⟨w.goes i H hlt q, fun H' => Same H1 H' ∧ H' D = some (.dK (kvs.take (i + 1))), fun H' p' => ⟨n - (i + 1), by omega, rfl, hlt, p'⟩, fun x H' y => ?_⟩
    have ho : kvs[i]? = some kvs[i] := List.getElem?_eq_getElem (by omega)
    refine hs i _ _ x H H' _ _ ho p1 (w.yields i H x H' hlt q y) fun H4 s4 => ?_
    refine ⟨_, _, rfl, s4 _ _ p2, by rw [List.length_take, sizeLine_eq]; omega, sWr (p1.trans s4) hD, ?_⟩
    have nk : ¬ (kvs[i]'(by omega)).1 ∈ (kvs.take i).map (·.1) := fun m => by
      obtain ⟨z, hz, ez⟩ := List.mem_map.mp m
      obtain ⟨j, hj, ej⟩ := List.getElem_of_mem hz
      rw [List.length_take] at hj
      rw [List.getElem_take] at ej
      have e1 : (kvs.map (·.1))[j]? = some (kvs[i]'(by omega)).1 := by
        rw [List.getElem?_map, List.getElem?_eq_getElem (show j < kvs.length by omega), ej]
        exact congrArg some ez
      have e2 : (kvs.map (·.1))[i]? = some (kvs[i]'(by omega)).1 := by
        rw [List.getElem?_map, ho]
        rfl
      have e3 : j = i := (List.getElem?_inj (by rw [List.length_map]; omega) nd).mp (e1.trans e2.symm)
      omega
    rw [upd_same, take_snoc ho]
    exact congrArg (fun z => some (HO.dK z)) (putK_snoc nk)
  · have e : i = n := by omega
    subst e
    rw [← hn, List.take_length] at p2
    exact .inl ⟨w.stops H q, hd H p1 p2⟩
end
end K16

/-! K16M: the plain mirror of a statement, the plain law -/
namespace K16
open PySem PySem.Spec PyProof.Rows L2
section
variable {κ β : Type} [DecidableEq κ]
def get (l : List (κ × β)) (k : κ) : Option β := (l.find? fun p => decide (p.1 = k)).map (·.2)
def put (l : List (κ × β)) (k : κ) (v : β) : List (κ × β) := if (l.any fun p => decide (p.1 = k)) = true then l.map (fun p => if p.1 = k then (p.1, v) else p) else l ++ [(k, v)]
def cut (l : List (κ × β)) (k : κ) : List (κ × β) := l.filter fun p => decide (p.1 ≠ k)
theorem get_pos {p : κ × β} {r : List (κ × β)} {k : κ} (e : p.1 = k) : get (p :: r) k = some p.2 := by simp [get, List.find?_cons, e]
theorem get_neg {p : κ × β} {r : List (κ × β)} {k : κ} (e : ¬ p.1 = k) : get (p :: r) k = get r k := by simp [get, List.find?_cons, e]
theorem get_any (k : κ) : ∀ l : List (κ × β), (l.any fun p => decide (p.1 = k)) = (get l k).isSome
  | [] => rfl
  | p :: r => by
    have ih := get_any k r
    by_cases h : p.1 = k
    · rw [get_pos h, List.any_cons, decide_eq_true h]
      rfl
    · rw [get_neg h, List.any_cons, decide_eq_false h, ih]
      rfl
theorem get_none {l : List (κ × β)} {k : κ} : get l k = none ↔ ¬ k ∈ l.map (·.1) := by
  induction l with
  | nil => simp [get]
  | cons p r ih =>
    by_cases h : p.1 = k
    · rw [get_pos h]
      simp [h]
    · rw [get_neg h, ih]
      simp [Ne.symm h, eq_comm (a := k)]
theorem get_mem {l : List (κ × β)} {k : κ} {v : β} (h : get l k = some v) : (k, v) ∈ l := by
  induction l with
  | nil => cases h
  | cons p r ih =>
    by_cases e : p.1 = k
    · rw [get_pos e] at h
      cases h
      rw [← e]
      exact List.mem_cons_self
    · rw [get_neg e] at h
      exact List.mem_cons_of_mem _ (ih h)
theorem mem_get {l : List (κ × β)} {k : κ} {v : β} (nd : (l.map (·.1)).Nodup) (h : (k, v) ∈ l) : get l k = some v := by
  induction l with
  | nil => cases h
  | cons p r ih =>
    rw [List.map_cons] at nd
    obtain ⟨n1, n2⟩ := List.nodup_cons.mp nd
    rcases List.mem_cons.mp h with e | e
    · rw [← e]
      exact get_pos rfl
    · rw [get_neg, ih n2 e]
      intro z
      exact n1 (List.mem_map.mpr ⟨(k, v), e, z.symm⟩)
theorem put_new {l : List (κ × β)} {k : κ} {v : β} (h : get l k = none) : put l k v = l ++ [(k, v)] := by
  unfold put
  rw [get_any, h]
  rfl
theorem put_old {l : List (κ × β)} {k : κ} {v u : β} (h : get l k = some u) : put l k v = l.map fun p => if p.1 = k then (p.1, v) else p := by
  unfold put
  rw [get_any, h]
  rfl
theorem put_keys {l : List (κ × β)} {k : κ} {v u : β} (h : get l k = some u) : (put l k v).map (·.1) = l.map (·.1) := by
  rw [put_old h, List.map_map]
  apply List.map_congr_left
  intro p _
  show (if p.1 = k then (p.1, v) else p).1 = p.1
  split <;> rfl
theorem get_map_other {l : List (κ × β)} {k j : κ} {v : β} (h : ¬ j = k) : get (l.map fun p => if p.1 = k then (p.1, v) else p) j = get l j := by
  induction l with
  | nil => rfl
  | cons p r ih =>
    rw [List.map_cons]
    have e1 : (if p.1 = k then (p.1, v) else p).1 = p.1 := by split <;> rfl
    by_cases e : p.1 = j
    · have nk : ¬ p.1 = k := fun z => h (e.symm.trans z)
      rw [if_neg nk, get_pos e, get_pos e]
    · rw [get_neg (by rw [e1]; exact e), get_neg e, ih]
theorem get_map_same {l : List (κ × β)} {k : κ} {v u : β} (h : get l k = some u) : get (l.map fun p => if p.1 = k then (p.1, v) else p) k = some v := by
  induction l with
  | nil => cases h
  | cons p r ih =>
    rw [List.map_cons]
    by_cases e : p.1 = k
    · rw [if_pos e]
      exact get_pos (p := (p.1, v)) e
    · rw [get_neg e] at h
      rw [if_neg e, get_neg e, ih h]
theorem get_app {l : List (κ × β)} {k j : κ} {v : β} : get (l ++ [(k, v)]) j = (get l j).or (if j = k then some v else none) := by
  induction l with
  | nil =>
    by_cases e : k = j
    · rw [List.nil_append, get_pos e, if_pos e.symm]
      rfl
    · rw [List.nil_append, get_neg e, if_neg (fun z => e z.symm)]
      rfl
  | cons p r ih =>
    rw [List.cons_append]
    by_cases e : p.1 = j
    · rw [get_pos e, get_pos e]
      rfl
    · rw [get_neg e, get_neg e, ih]
theorem get_put (l : List (κ × β)) (k j : κ) (v : β) : get (put l k v) j = if j = k then some v else get l j := by
  cases h : get l k with
  | none =>
    rw [put_new h, get_app]
    by_cases e : j = k
    · rw [if_pos e, if_pos e, e, h]
      rfl
    · rw [if_neg e, if_neg e]
      cases get l j <;> rfl
  | some u =>
    rw [put_old h]
    by_cases e : j = k
    · rw [if_pos e, e, get_map_same h]
    · rw [if_neg e, get_map_other e]
theorem get_cut (l : List (κ × β)) (k j : κ) : get (cut l k) j = if j = k then none else get l j := by
  unfold cut
  induction l with
  | nil => simp [get]
  | cons p r ih =>
    by_cases e : p.1 = k
    · rw [List.filter_cons_of_neg (by simp [e]), ih]
      by_cases f : j = k
      · rw [if_pos f, if_pos f]
      · rw [if_neg f, if_neg f, get_neg (fun z => f (z.symm.trans e))]
    · rw [List.filter_cons_of_pos (by simp [e])]
      by_cases f : p.1 = j
      · have nj : ¬ j = k := fun z => e (f.trans z)
        rw [get_pos f, get_pos f, if_neg nj]
      · rw [get_neg f, get_neg f, ih]
theorem put_len (l : List (κ × β)) (k : κ) (v : β) : (put l k v).length = if (get l k).isSome = true then l.length else l.length + 1 := by
  cases h : get l k with
  | none =>
    rw [put_new h, List.length_append]
    rfl
  | some u =>
    rw [put_old h, List.length_map]
    rfl
theorem put_nd {l : List (κ × β)} {k : κ} {v : β} (nd : (l.map (·.1)).Nodup) : ((put l k v).map (·.1)).Nodup := by
  cases h : get l k with
  | none =>
    rw [put_new h, List.map_append, List.nodup_append]
    refine ⟨nd, by simp, fun a ha b hb z => ?_⟩
    have : b = k := by simpa using hb
    subst this
    exact (get_none.mp h) (z ▸ ha)
  | some u =>
    rw [put_keys h]
    exact nd
theorem cut_nd {l : List (κ × β)} {k : κ} (nd : (l.map (·.1)).Nodup) : ((cut l k).map (·.1)).Nodup := nd.sublist (List.Sublist.map _ List.filter_sublist)
theorem cut_len {l : List (κ × β)} {k : κ} (nd : (l.map (·.1)).Nodup) : (cut l k).length = if (get l k).isSome = true then l.length - 1 else l.length := by
  unfold cut
  induction l with
  | nil => simp [get]
  | cons p r ih =>
    rw [List.map_cons] at nd
    obtain ⟨n1, n2⟩ := List.nodup_cons.mp nd
    have h := ih n2
    by_cases e : p.1 = k
    · rw [List.filter_cons_of_neg (by simp [e]), get_pos e]
      have nn : get r k = none := get_none.mpr (e ▸ n1)
      rw [h, nn]
      simp
    · rw [List.filter_cons_of_pos (by simp [e]), get_neg e, List.length_cons, h, List.length_cons]
      split
      · rename_i z
        have : r.length ≠ 0 := fun y => by
          have : r = [] := List.length_eq_zero_iff.mp y
          subst this
          simp [get] at z
        omega
      · rfl
theorem mem_put {l : List (κ × β)} {k : κ} {v : β} {p : κ × β} (h : p ∈ put l k v) : p = (k, v) ∨ p ∈ l := by
  unfold put at h
  split at h
  · obtain ⟨q, hq, e⟩ := List.mem_map.mp h
    split at e
    · rename_i z
      exact .inl (by rw [← e, z])
    · exact .inr (e ▸ hq)
  · rcases List.mem_append.mp h with h | h
    · exact .inr h
    · exact .inl (List.mem_singleton.mp h)
end
/-! ### the mirror -/
def rowsOf (T : Tabs) (t : Str) : Rows := (get T t).getD []
def colsOf (d : Desc) (t : Str) : Cols := (get d t).getD []
def rowOf (rs : Rows) (k : Int) : Row := (get rs k).getD []
def atN (r : Row) (n : Str) : V := (get r n).getD .non
def edT (T : Tabs) (t : Str) (f : Rows → Rows) : Tabs := T.map fun x => if x.1 = t then (x.1, f x.2) else x
def rowNew (cs : Cols) (had prs : Row) : Row := cs.map fun c => (c.nm, (get prs c.nm).getD (atN had c.nm))
def mKey (T : Tabs) (s : Stm) : List V := match s.kd with
  | .put => if (get (rowsOf T s.tab) s.key).isSome = true then [.str "Taken", .str s.tab, .int s.key] else []
  | _ => if (get (rowsOf T s.tab) s.key).isSome = true then [] else [.str "NoRow", .str s.tab, .int s.key]
def srt (ks : List Int) : List Int := ks.mergeSort (fun a b => decide (a ≤ b))
def heldOne (T : Tabs) (tab : Str) (key : Int) (wd : Str) (o : Int) (c : Col) : Bool := decide (c.kd = "link") && (decide (c.goal = .str tab) && (decide (atN (rowOf (rowsOf T wd) o) c.nm = .int key) && !(decide (wd = tab) && decide (o = key))))
def heldBy (d : Desc) (T : Tabs) (tab : Str) (key : Int) : List (List V) :=
  d.flatMap fun e => (srt ((rowsOf T e.1).map (·.1))).flatMap fun o => (e.2.filter (heldOne T tab key e.1 o)).map fun c => [.str e.1, .int o, .str c.nm]
def mHeld (d : Desc) (T : Tabs) (tab : Str) (key : Int) : List V := match heldBy d T tab key with
  | [] => []
  | x :: _ => x
def hasKey (T : Tabs) : V → V → Bool
  | .str t, .int i => (get (rowsOf T t) i).isSome
  | _, _ => false
def bareC (r : Row) (c : Col) : Bool := decide (atN r c.nm = .non) && !c.bare
def missC (T : Tabs) (r : Row) (c : Col) : Bool := decide (c.kd = "link") && (!decide (atN r c.nm = .non) && !hasKey T c.goal (atN r c.nm))
def twiceC (rs : Rows) (key : Int) (r : Row) (c : Col) : Bool := c.lone && (!decide (atN r c.nm = .non) && rs.any fun x => !decide (x.1 = key) && decide (atN x.2 c.nm = atN r c.nm))
def mRow (d : Desc) (T : Tabs) (tab : Str) (key : Int) : List V :=
  match (colsOf d tab).find? (bareC (rowOf (rowsOf T tab) key)) with
  | some c => [.str "Bare", .str tab, .int key, .str c.nm]
  | none => match (colsOf d tab).find? (missC T (rowOf (rowsOf T tab) key)) with
    | some c => [.str "Missing", .str tab, .int key, .str c.nm]
    | none => match (colsOf d tab).find? (twiceC (rowsOf T tab) key (rowOf (rowsOf T tab) key)) with
      | some c => [.str "Twice", .str tab, .int key, .str c.nm]
      | none => []
def mEd (d : Desc) (s : Stm) (rs : Rows) : Rows := match s.kd with
  | .drop => cut rs s.key
  | .put => put rs s.key (rowNew (colsOf d s.tab) [] s.prs)
  | .set => put rs s.key (rowNew (colsOf d s.tab) (rowOf rs s.key) s.prs)
def mTabs (d : Desc) (T : Tabs) (s : Stm) : Tabs := edT T s.tab (mEd d s)
def mWhy2 (d : Desc) (T : Tabs) (s : Stm) : List V := match s.kd with
  | .drop => match mHeld d T s.tab s.key with
    | [] => []
    | x => .str "Held" :: x
  | _ => mRow d (mTabs d T s) s.tab s.key
def mWhy (d : Desc) (T : Tabs) (s : Stm) : List V := match mKey T s with
  | [] => mWhy2 d T s
  | x => x
def mDone (d : Desc) (T : Tabs) (s : Stm) : List V × Tabs := match mWhy d T s with
  | [] => ([], mTabs d T s)
  | x => (x, T)
/-! ### what stays true -/
def RowOk (cs : Cols) (r : Row) : Prop := Paired (fun (c : Col) (x : Str × V) => x.1 = c.nm ∧ (x.2 = .non ∨ WOk c.kd x.2)) cs r
structure RowsOk (n : Nat) (cs : Cols) (rs : Rows) : Prop where
  nd : (rs.map (·.1)).Nodup
  few : rs.length ≤ n
  ok : ∀ x ∈ rs, RowOk cs x.2
abbrev TabsOk (d : Desc) (n : Nat) (T : Tabs) : Prop := Paired (fun (e : Str × Cols) (t : Str × Rows) => t.1 = e.1 ∧ RowsOk n e.2 t.2) d T
structure StmOk (d : Desc) (s : Stm) : Prop where
  has : ∃ cs, (s.tab, cs) ∈ d ∧ ∀ q ∈ s.prs, ∃ c ∈ cs, c.nm = q.1 ∧ (q.2 = .non ∨ WOk c.kd q.2)
  key : 1 ≤ s.key ∧ s.key ≤ 999999
  nd : (s.prs.map (·.1)).Nodup
  few : s.prs.length ≤ 5
theorem rowOk_keys {cs : Cols} {r : Row} (h : RowOk cs r) : r.map (·.1) = cs.map (·.nm) := by
  induction h with
  | nil => rfl
  | cons z _ ih => rw [List.map_cons, List.map_cons, z.1, ih]
theorem rowOk_get {cs : Cols} {r : Row} (h : RowOk cs r) : ∀ {n : Str} {v : V}, get r n = some v → ∃ c ∈ cs, c.nm = n ∧ (v = .non ∨ WOk c.kd v) := by
  induction h with
  | nil =>
    intro n v e
    cases e
  | @cons c x cs r z _ ih =>
    intro n v e
    by_cases q : x.1 = n
    · rw [get_pos q] at e
      cases e
      exact ⟨c, List.mem_cons_self, z.1.symm.trans q, z.2⟩
    · rw [get_neg q] at e
      obtain ⟨c2, h2, r2⟩ := ih e
      exact ⟨c2, List.mem_cons_of_mem _ h2, r2⟩
theorem col_uniq {cs : Cols} (nd : (cs.map (·.nm)).Nodup) {a b : Col} (ha : a ∈ cs) (hb : b ∈ cs) (e : a.nm = b.nm) : a = b := by
  obtain ⟨i, hi, ei⟩ := List.getElem_of_mem ha
  obtain ⟨j, hj, ej⟩ := List.getElem_of_mem hb
  have h1 : (cs.map (·.nm))[i]? = some a.nm := by rw [List.getElem?_map, List.getElem?_eq_getElem hi, ei]; rfl
  have h2 : (cs.map (·.nm))[j]? = some a.nm := by rw [List.getElem?_map, List.getElem?_eq_getElem hj, ej, e]; rfl
  have h3 : i = j := (List.getElem?_inj (by rw [List.length_map]; exact hi) nd).mp (h1.trans h2.symm)
  subst h3
  exact ei.symm.trans ej
/-- a worth of a row is one of its column's kind -/
theorem atN_ok {cs : Cols} {r : Row} (nd : (cs.map (·.nm)).Nodup) (h : RowOk cs r) {c : Col} (hc : c ∈ cs) : atN r c.nm = .non ∨ WOk c.kd (atN r c.nm) := by
  unfold atN
  cases e : get r c.nm with
  | none => exact .inl rfl
  | some v =>
    obtain ⟨c2, h2, n2, w⟩ := rowOk_get h e
    rw [col_uniq nd h2 hc n2] at w
    exact w
theorem row_made {cs : Cols} (nd : (cs.map (·.nm)).Nodup) (had prs : Row) (h0 : ∀ c ∈ cs, atN had c.nm = .non ∨ WOk c.kd (atN had c.nm)) (hp : ∀ q ∈ prs, ∃ c ∈ cs, c.nm = q.1 ∧ (q.2 = .non ∨ WOk c.kd q.2)) : RowOk cs (rowNew cs had prs) := by
  have key : ∀ l : Cols, (∀ c ∈ l, c ∈ cs) → RowOk l (rowNew l had prs) := by
    intro l
    induction l with
    | nil => intro _; exact .nil
    | cons c l ih =>
      intro hl
      refine .cons ⟨rfl, ?_⟩ (ih fun x hx => hl x (List.mem_cons_of_mem _ hx))
      have hc := hl c List.mem_cons_self
      show (get prs c.nm).getD (atN had c.nm) = .non ∨ WOk c.kd ((get prs c.nm).getD (atN had c.nm))
      cases e : get prs c.nm with
      | none => exact h0 c hc
      | some v =>
        obtain ⟨c2, h2, n2, w⟩ := hp _ (get_mem e)
        rw [col_uniq nd h2 hc n2] at w
        exact w
  exact key cs fun c hc => hc
theorem colsOf_eq {d : Desc} (nd : (d.map (·.1)).Nodup) {t : Str} {cs : Cols} (h : (t, cs) ∈ d) : colsOf d t = cs := by
  unfold colsOf
  rw [mem_get nd h]
  rfl
theorem rows_made {d : Desc} (dok : DescOk d) {s : Stm} (sok : StmOk d s) {n : Nat} {cs : Cols} {rs : Rows} (hm : (s.tab, cs) ∈ d) (ro : RowsOk n cs rs) : RowsOk (n + 1) cs (mEd d s rs) := by
  have cok := dok.ok _ hm
  have ec := colsOf_eq dok.nd hm
  obtain ⟨cs2, hm2, hp⟩ := sok.has
  have e2 : cs2 = cs := by rw [← colsOf_eq dok.nd hm2, ec]
  subst e2
  have few := ro.few
  have putk : ∀ row : Row, RowOk cs2 row → RowsOk (n + 1) cs2 (put rs s.key row) := fun row hr => ⟨put_nd ro.nd, by
    rw [put_len]
    split <;> omega, fun x hx => by
    rcases mem_put hx with e | e
    · rw [e]
      exact hr
    · exact ro.ok x e⟩
  unfold mEd
  cases s.kd with
  | drop => exact ⟨cut_nd ro.nd, Nat.le_succ_of_le (Nat.le_trans (List.length_filter_le _ _) few), fun x hx => ro.ok x (List.mem_filter.mp hx).1⟩
  | put =>
    refine putk _ ?_
    rw [ec]
    exact row_made cok.nd [] s.prs (fun c _ => .inl rfl) hp
  | set =>
    refine putk _ ?_
    rw [ec]
    refine row_made cok.nd _ s.prs (fun c hc => ?_) hp
    unfold rowOf
    cases e : get rs s.key with
    | none => exact .inl rfl
    | some r => exact atN_ok cok.nd (ro.ok _ (get_mem e)) hc
theorem RowsOk.mono {n m : Nat} {cs : Cols} {rs : Rows} (h : RowsOk n cs rs) (l : n ≤ m) : RowsOk m cs rs := ⟨h.nd, Nat.le_trans h.few l, h.ok⟩
theorem TabsOk.mono {d : Desc} {n m : Nat} {T : Tabs} (h : TabsOk d n T) (l : n ≤ m) : TabsOk d m T := pMap h fun _ _ z => ⟨z.1, z.2.mono l⟩
theorem pMapMem {α β : Type} {F G : α → β → Prop} {l₁ : List α} {l₂ : List β} (h : Paired F l₁ l₂) : (∀ a b, a ∈ l₁ → b ∈ l₂ → F a b → G a b) → Paired G l₁ l₂ := by
  induction h with
  | nil => intro _; exact .nil
  | @cons a b l₁ l₂ z _ ih => exact fun f => .cons (f _ _ List.mem_cons_self List.mem_cons_self z) (ih fun a b ha hb => f a b (List.mem_cons_of_mem _ ha) (List.mem_cons_of_mem _ hb))
theorem pMapR {α β γ : Type} {F : α → β → Prop} {f : β → γ} {G : α → γ → Prop} {l₁ : List α} {l₂ : List β} (h : Paired F l₁ l₂) : (∀ a b, a ∈ l₁ → F a b → G a (f b)) → Paired G l₁ (l₂.map f) := by
  induction h with
  | nil => intro _; exact .nil
  | @cons a b l₁ l₂ z _ ih => exact fun g => .cons (g _ _ List.mem_cons_self z) (ih fun a b ha => g a b (List.mem_cons_of_mem _ ha))
theorem tabs_made {d : Desc} (dok : DescOk d) {s : Stm} (sok : StmOk d s) {n : Nat} {T : Tabs} (h : TabsOk d n T) : TabsOk d (n + 1) (mTabs d T s) := by
  unfold mTabs edT
  refine pMapR h fun e t he z => ?_
  by_cases q : t.1 = s.tab
  · rw [if_pos q]
    refine ⟨z.1, ?_⟩
    have hm : (s.tab, e.2) ∈ d := by
      rw [← q, z.1]
      exact he
    exact rows_made dok sok hm z.2
  · rw [if_neg q]
    exact ⟨z.1, z.2.mono (Nat.le_succ n)⟩
theorem done_ok {d : Desc} (dok : DescOk d) {s : Stm} (sok : StmOk d s) {n : Nat} {T : Tabs} (h : TabsOk d n T) : TabsOk d (n + 1) (mDone d T s).2 := by
  unfold mDone
  split
  · exact tabs_made dok sok h
  · exact h.mono (Nat.le_succ n)
theorem tabs_names {d : Desc} {n : Nat} {T : Tabs} (h : TabsOk d n T) : T.map (·.1) = d.map (·.1) := by
  induction h with
  | nil => rfl
  | cons z _ ih => rw [List.map_cons, List.map_cons, z.1, ih]
theorem tab_of {d : Desc} (dok : DescOk d) {n : Nat} {T : Tabs} (h : TabsOk d n T) {t : Str} {cs : Cols} (hm : (t, cs) ∈ d) : ∃ rs, get T t = some rs ∧ (t, rs) ∈ T ∧ RowsOk n cs rs := by
  obtain ⟨i, hi, ei⟩ := List.getElem_of_mem hm
  obtain ⟨⟨t2, rs⟩, h1, h2, h3⟩ := pAt h (List.getElem?_eq_getElem hi)
  rw [ei] at h2 h3
  have e : t2 = t := h2
  subst e
  have m := List.mem_of_getElem? h1
  exact ⟨rs, mem_get (by rw [tabs_names h]; exact dok.nd) m, m, h3⟩
/-! ### either order -/
theorem mEd_get (d : Desc) (s : Stm) (rs : Rows) (k : Int) (h : ¬ k = s.key) : get (mEd d s rs) k = get rs k := by
  unfold mEd
  cases s.kd with
  | drop =>
    show get (cut rs s.key) k = _
    rw [get_cut, if_neg h]
  | put =>
    show get (put rs s.key _) k = _
    rw [get_put, if_neg h]
  | set =>
    show get (put rs s.key _) k = _
    rw [get_put, if_neg h]
theorem mEd_own (d : Desc) (s : Stm) (rs rs' : Rows) (h : get rs s.key = get rs' s.key) : get (mEd d s rs) s.key = get (mEd d s rs') s.key := by
  unfold mEd
  cases s.kd with
  | drop =>
    show get (cut rs s.key) s.key = get (cut rs' s.key) s.key
    rw [get_cut, get_cut, if_pos rfl, if_pos rfl]
  | put =>
    show get (put rs s.key _) s.key = get (put rs' s.key _) s.key
    rw [get_put, get_put, if_pos rfl, if_pos rfl]
  | set =>
    show get (put rs s.key _) s.key = get (put rs' s.key _) s.key
    rw [get_put, get_put, if_pos rfl, if_pos rfl]
    unfold rowOf
    rw [h]
def lenD (s : Stm) (here : Bool) (n : Nat) : Nat := match s.kd with
  | .drop => if here = true then n - 1 else n
  | _ => if here = true then n else n + 1
theorem mEd_len (d : Desc) (s : Stm) (rs : Rows) (nd : (rs.map (·.1)).Nodup) : (mEd d s rs).length = lenD s (get rs s.key).isSome rs.length := by
  unfold mEd lenD
  cases s.kd with
  | drop => exact cut_len nd
  | put => exact put_len _ _ _
  | set => exact put_len _ _ _
theorem mEd_nd (d : Desc) (s : Stm) (rs : Rows) (nd : (rs.map (·.1)).Nodup) : ((mEd d s rs).map (·.1)).Nodup := by
  unfold mEd
  cases s.kd with
  | drop => exact cut_nd nd
  | put => exact put_nd nd
  | set => exact put_nd nd
/-- equal as tables of rows by key -/
def EqRows (a b : Rows) : Prop := a.length = b.length ∧ ∀ k, get a k = get b k
def EqTabs (A B : Tabs) : Prop := Paired (fun (x y : Str × Rows) => x.1 = y.1 ∧ (x.2.map (·.1)).Nodup ∧ EqRows x.2 y.2) A B
theorem rows_either (d : Desc) (a b : Stm) (ne : ¬ a.key = b.key) (rs : Rows) (nd : (rs.map (·.1)).Nodup) : EqRows (mEd d b (mEd d a rs)) (mEd d a (mEd d b rs)) := by
  have ne' : ¬ b.key = a.key := fun z => ne z.symm
  refine ⟨?_, fun k => ?_⟩
  · rw [mEd_len d b _ (mEd_nd d a rs nd), mEd_len d a _ (mEd_nd d b rs nd), mEd_len d a rs nd, mEd_len d b rs nd, mEd_get d a rs b.key ne', mEd_get d b rs a.key ne]
    unfold lenD
    have pos : ∀ k, (get rs k).isSome = true → 0 < rs.length := fun k h => by
      cases rs with
      | nil => cases h
      | cons x r => exact Nat.succ_pos _
    cases ka : a.kd <;> cases kb : b.kd <;> cases xa : (get rs a.key).isSome <;> cases xb : (get rs b.key).isSome <;> simp <;>
      (first
        | omega
        | (have := pos _ xa; omega)
        | (have := pos _ xb; omega))
  · by_cases h1 : k = a.key
    · subst h1
      rw [mEd_get d b _ _ ne]
      exact mEd_own d a _ _ (mEd_get d b rs _ ne).symm
    · by_cases h2 : k = b.key
      · subst h2
        rw [mEd_get d a (mEd d b rs) _ h1]
        exact mEd_own d b _ _ (mEd_get d a rs _ h1)
      · rw [mEd_get d b _ _ h2, mEd_get d a _ _ h1, mEd_get d a _ _ h1, mEd_get d b _ _ h2]
theorem tabs_either {d : Desc} {a b : Stm} (ne : ¬ (a.tab = b.tab ∧ a.key = b.key)) {n : Nat} {T : Tabs} (h : TabsOk d n T) : EqTabs (mTabs d (mTabs d T a) b) (mTabs d (mTabs d T b) a) := by
  have key : ∀ L : Tabs, (∀ x ∈ L, (x.2.map (·.1)).Nodup) → EqTabs (mTabs d (mTabs d L a) b) (mTabs d (mTabs d L b) a) := by
    intro L
    induction L with
    | nil => intro _; exact .nil
    | cons x r ih =>
      intro hL
      have nd := hL x List.mem_cons_self
      refine .cons ?_ (ih fun y hy => hL y (List.mem_cons_of_mem _ hy))
      by_cases e1 : x.1 = a.tab
      · by_cases e2 : x.1 = b.tab
        · have nk : ¬ a.key = b.key := fun z => ne ⟨e1.symm.trans e2, z⟩
          simp only [if_pos e1, if_pos e2]
          refine ⟨trivial, mEd_nd d b _ (mEd_nd d a _ nd), ?_⟩
          exact rows_either d a b nk x.2 nd
        · simp only [if_pos e1, if_neg e2]
          exact ⟨trivial, mEd_nd d a _ nd, rfl, fun _ => rfl⟩
      · by_cases e2 : x.1 = b.tab
        · simp only [if_neg e1, if_pos e2]
          exact ⟨trivial, mEd_nd d b _ nd, rfl, fun _ => rfl⟩
        · simp only [if_neg e1, if_neg e2]
          exact ⟨trivial, nd, rfl, fun _ => rfl⟩
  refine key T fun x hx => ?_
  obtain ⟨i, hi, ei⟩ := List.getElem_of_mem hx
  obtain ⟨e, _, z⟩ := pAt2 h (List.getElem?_eq_getElem hi)
  rw [ei] at z
  exact z.2.nd
end K16

/-! K16T: tables in the heap and as plain data -/
namespace K16
open PySem PySem.Spec PyProof.Rows L2 He
section
variable {κ κ' β γ : Type} [DecidableEq κ] [DecidableEq κ']
def mapP (f : κ → κ') (h : β → γ) (l : List (κ × β)) : List (κ' × γ) := l.map fun p => (f p.1, h p.2)
theorem get_mapP {f : κ → κ'} (hf : ∀ a b, f a = f b → a = b) (h : β → γ) (k : κ) : ∀ l : List (κ × β), get (mapP f h l) (f k) = (get l k).map h
  | [] => rfl
  | p :: r => by
    have ih := get_mapP hf h k r
    show get ((f p.1, h p.2) :: mapP f h r) (f k) = _
    by_cases e : p.1 = k
    · rw [get_pos (p := (f p.1, h p.2)) (by rw [e]), get_pos e]
      rfl
    · rw [get_neg (p := (f p.1, h p.2)) (fun z => e (hf _ _ z)), get_neg e, ih]
theorem put_mapP {f : κ → κ'} (hf : ∀ a b, f a = f b → a = b) (h : β → γ) (l : List (κ × β)) (k : κ) (v : β) : put (mapP f h l) (f k) (h v) = mapP f h (put l k v) := by
  cases e : get l k with
  | none =>
    rw [put_new e, put_new (by rw [get_mapP hf, e]; rfl)]
    unfold mapP
    rw [List.map_append]
    rfl
  | some u =>
    rw [put_old e, put_old (u := h u) (by rw [get_mapP hf, e]; rfl)]
    unfold mapP
    rw [List.map_map, List.map_map]
    apply List.map_congr_left
    intro p _
    show (if f p.1 = f k then (f p.1, h v) else (f p.1, h p.2)) = (f (if p.1 = k then (p.1, v) else p).1, h (if p.1 = k then (p.1, v) else p).2)
    by_cases q : p.1 = k
    · rw [if_pos q, if_pos (by rw [q])]
    · rw [if_neg q, if_neg (fun z => q (hf _ _ z))]
theorem cut_mapP {f : κ → κ'} (hf : ∀ a b, f a = f b → a = b) (h : β → γ) (k : κ) : ∀ l : List (κ × β), cut (mapP f h l) (f k) = mapP f h (cut l k)
  | [] => rfl
  | p :: r => by
    have ih := cut_mapP hf h k r
    unfold cut at ih ⊢
    show List.filter _ ((f p.1, h p.2) :: mapP f h r) = _
    by_cases e : p.1 = k
    · rw [List.filter_cons_of_neg (by simp [e]), List.filter_cons_of_neg (by simp [e]), ih]
    · rw [List.filter_cons_of_pos (by simp; exact fun z => e (hf _ _ z)), List.filter_cons_of_pos (by simp [e]), ih]
      rfl
end
theorem inrI : ∀ a b : Str, (.inr a : Key) = .inr b → a = b := fun _ _ z => Sum.inr.inj z
theorem inlI : ∀ a b : Int, (.inl a : Key) = .inl b → a = b := fun _ _ z => Sum.inl.inj z
theorem rowK_get (r : Row) (n : Str) : valV (rowK r) (.inr n) = get r n := by
  have e := get_mapP inrI (fun v : V => v) n r
  rw [Option.map_id'] at e
  exact e
theorem rowsK_get (rs : List ARow) (k : Int) : valV (rowsK rs) (.inl k) = (get rs k).map fun x => V.ref x.1 := get_mapP inlI (fun x : Addr × Row => V.ref x.1) k rs
theorem tabsK_get (A : List ATab) (t : Str) : valV (tabsK A) (.inr t) = (get A t).map fun x => V.ref x.1 := get_mapP inrI (fun x : Addr × List ARow => V.ref x.1) t A
theorem plR_get (rs : List ARow) (k : Int) : get (plR rs) k = (get rs k).map (·.2) := get_mapP (fun _ _ z => z) (fun x : Addr × Row => x.2) k rs
theorem plT_get (A : List ATab) (t : Str) : get (plT A) t = (get A t).map fun x => plR x.2 := get_mapP (fun _ _ z => z) (fun x : Addr × List ARow => plR x.2) t A
theorem rowK_put (r : Row) (n : Str) (v : V) : putK (rowK r) (.inr n) v = rowK (put r n v) := put_mapP inrI (fun v : V => v) r n v
theorem rowsK_put (rs : List ARow) (k : Int) (a : Addr) (r : Row) : putK (rowsK rs) (.inl k) (.ref a) = rowsK (put rs k (a, r)) := put_mapP inlI (fun x : Addr × Row => V.ref x.1) rs k (a, r)
theorem plR_put (rs : List ARow) (k : Int) (a : Addr) (r : Row) : plR (put rs k (a, r)) = put (plR rs) k r := (put_mapP (fun _ _ z => z) (fun x : Addr × Row => x.2) rs k (a, r)).symm
theorem rowsK_cut (rs : List ARow) (k : Int) : dropK (rowsK rs) (.inl k) = rowsK (cut rs k) := cut_mapP inlI (fun x : Addr × Row => V.ref x.1) k rs
theorem plR_cut (rs : List ARow) (k : Int) : plR (cut rs k) = cut (plR rs) k := (cut_mapP (fun _ _ z => z) (fun x : Addr × Row => x.2) k rs).symm
theorem rowK_keys (r : Row) : (rowK r).map (·.1) = (r.map (·.1)).map Sum.inr := by
  unfold rowK
  rw [List.map_map, List.map_map]
  rfl
theorem rowsK_keys (rs : List ARow) : (rowsK rs).map (·.1) = ((plR rs).map (·.1)).map Sum.inl := by
  unfold rowsK plR
  rw [List.map_map, List.map_map, List.map_map]
  rfl
theorem tabsK_keys (A : List ATab) : (tabsK A).map (·.1) = ((plT A).map (·.1)).map Sum.inr := by
  unfold tabsK plT
  rw [List.map_map, List.map_map, List.map_map]
  rfl
theorem tabsK_at {A : List ATab} {i : Nat} {k : Key} {v : V} (h : (tabsK A)[i]? = some (k, v)) : ∃ t, A[i]? = some t ∧ k = .inr t.1 ∧ v = .ref t.2.1 := by
  obtain ⟨t, ht, e⟩ := map_at h
  cases e
  exact ⟨t, ht, rfl, rfl⟩
theorem rowsK_at {rs : List ARow} {i : Nat} {k : Key} {v : V} (h : (rowsK rs)[i]? = some (k, v)) : ∃ r, rs[i]? = some r ∧ k = .inl r.1 ∧ v = .ref r.2.1 := by
  obtain ⟨t, ht, e⟩ := map_at h
  cases e
  exact ⟨t, ht, rfl, rfl⟩
theorem plT_keys (A : List ATab) : (plT A).map (·.1) = A.map (·.1) := by
  unfold plT
  rw [List.map_map]
  rfl
theorem plR_keys (rs : List ARow) : (plR rs).map (·.1) = rs.map (·.1) := by
  unfold plR
  rw [List.map_map]
  rfl
theorem plT_take (A : List ATab) (i : Nat) : plT (A.take i) = (plT A).take i := by
  unfold plT
  rw [List.map_take]
theorem plR_take (rs : List ARow) (i : Nat) : plR (rs.take i) = (plR rs).take i := by
  unfold plR
  rw [List.map_take]
/-- tables' dict is no table's -/
theorem tab_ne {H : Hp} {p : Addr} {A : List ATab} (h : TabsD H p A) {t : ATab} (ht : t ∈ A) : t.2.1 ≠ p := fun z => by
  have h1 := (h.2 t ht).1
  rw [z, h.1] at h1
  have e : tabsK A = rowsK t.2.2 := HO.dK.inj (Option.some.inj h1)
  cases A with
  | nil => cases ht
  | cons x r =>
    cases hr : t.2.2 with
    | nil =>
      rw [hr] at e
      cases e
    | cons y q =>
      rw [hr] at e
      have e2 := (List.cons.inj e).1
      cases e2
theorem row_ne {H : Hp} {q : Addr} {rs : List ARow} (h : RowsD H q rs) {r : ARow} (hr : r ∈ rs) : r.2.1 ≠ q := fun z => by
  have h1 := h.2 r hr
  rw [z, h.1] at h1
  have e : rowsK rs = rowK r.2.2 := HO.dK.inj (Option.some.inj h1)
  cases rs with
  | nil => cases hr
  | cons x s =>
    cases he : r.2.2 with
    | nil =>
      rw [he] at e
      cases e
    | cons y q =>
      rw [he] at e
      have e2 := (List.cons.inj e).1
      cases e2
/-! ### an edit of a table -/
def edA (A : List ATab) (t : Str) (q : Addr) (rs : List ARow) : List ATab := A.map fun x => if x.1 = t then (x.1, q, rs) else x
theorem edA_tabsK {A : List ATab} {t : Str} {q : Addr} {rs rs0 : List ARow} (nd : (A.map (·.1)).Nodup) (h : get A t = some (q, rs0)) : tabsK (edA A t q rs) = tabsK A := by
  unfold tabsK edA
  rw [List.map_map]
  apply List.map_congr_left
  intro x hx
  show ((.inr (if x.1 = t then (x.1, q, rs) else x).1 : Key), V.ref (if x.1 = t then (x.1, q, rs) else x).2.1) = (.inr x.1, .ref x.2.1)
  by_cases e : x.1 = t
  · rw [if_pos e]
    have e2 : get A t = some x.2 := mem_get nd (by rw [← e]; exact hx)
    rw [h] at e2
    rw [← Option.some.inj e2]
  · rw [if_neg e]
theorem edA_plT {A : List ATab} {t : Str} {q : Addr} {rs rs0 : List ARow} {f : Rows → Rows} (nd : (A.map (·.1)).Nodup) (h : get A t = some (q, rs0)) (hf : plR rs = f (plR rs0)) : plT (edA A t q rs) = edT (plT A) t f := by
  unfold plT edA edT
  rw [List.map_map, List.map_map]
  apply List.map_congr_left
  intro x hx
  show ((if x.1 = t then (x.1, q, rs) else x).1, plR (if x.1 = t then (x.1, q, rs) else x).2.2) = (if x.1 = t then (x.1, f (plR x.2.2)) else (x.1, plR x.2.2))
  by_cases e : x.1 = t
  · rw [if_pos e, if_pos e]
    have e2 : get A t = some x.2 := mem_get nd (by rw [← e]; exact hx)
    rw [h] at e2
    have e3 := Option.some.inj e2
    rw [hf, ← e3]
  · rw [if_neg e, if_neg e]
theorem foot_tab {A : List ATab} {x : ATab} (hx : x ∈ A) : x.2.1 ∈ foot A := List.mem_flatMap.mpr ⟨x, hx, List.mem_cons_self⟩
theorem foot_row {A : List ATab} {x : ATab} (hx : x ∈ A) {r : ARow} (hr : r ∈ x.2.2) : r.2.1 ∈ foot A := List.mem_flatMap.mpr ⟨x, hx, List.mem_cons_of_mem _ (List.mem_map.mpr ⟨r, hr, rfl⟩)⟩
/-- the places of different tables are different -/
theorem foot_apart : ∀ {A : List ATab}, (foot A).Nodup → (A.map (·.1)).Nodup → ∀ {x y : ATab}, x ∈ A → y ∈ A → ¬ x.1 = y.1 → ∀ a, a ∈ x.2.1 :: footR x.2.2 → a ∈ y.2.1 :: footR y.2.2 → False
  | z :: A, nf, nd, x, y, hx, hy, ne, a, ax, ay => by
    have e : foot (z :: A) = (z.2.1 :: footR z.2.2) ++ foot A := rfl
    rw [e] at nf
    obtain ⟨n1, n2, n3⟩ := List.nodup_append.mp nf
    rw [List.map_cons] at nd
    have nd2 := (List.nodup_cons.mp nd).2
    rcases List.mem_cons.mp hx with ex | ex
    · rcases List.mem_cons.mp hy with ey | ey
      · rw [ex, ey] at ne
        exact ne rfl
      · rw [ex] at ax
        exact n3 a ax a (List.mem_flatMap.mpr ⟨y, ey, ay⟩) rfl
    · rcases List.mem_cons.mp hy with ey | ey
      · rw [ey] at ay
        exact n3 a ay a (List.mem_flatMap.mpr ⟨x, ex, ax⟩) rfl
      · exact foot_apart n2 nd2 ex ey ne a ax ay
/-- tables stand behind an edit of one of them -/
theorem TabsD.edit {H H' : Hp} {p : Addr} {A : List ATab} {t : Str} {q : Addr} {rs rs0 : List ARow} (h : TabsD H p A) (nd : (A.map (·.1)).Nodup) (nf0 : (p :: foot A).Nodup) (hg : get A t = some (q, rs0)) (hr : RowsD H' q rs)
    (keep : ∀ a, a ≠ q → ¬ a ∈ footR rs0 → ∀ o, H a = some o → H' a = some o) : TabsD H' p (edA A t q rs) := by
  have hm := get_mem hg
  obtain ⟨nfp, nf⟩ := List.nodup_cons.mp nf0
  have np : p ≠ q := fun z => nfp (by rw [z]; exact foot_tab hm)
  have npr : ¬ p ∈ footR rs0 := fun z => nfp (List.mem_flatMap.mpr ⟨_, hm, List.mem_cons_of_mem _ z⟩)
  refine ⟨by rw [edA_tabsK nd hg]; exact keep p np npr _ h.1, fun x hx => ?_⟩
  obtain ⟨y, hy, e⟩ := List.mem_map.mp hx
  by_cases c : y.1 = t
  · rw [if_pos c] at e
    rw [← e]
    exact hr
  · rw [if_neg c] at e
    rw [← e]
    have hz := h.2 y hy
    have apart : ∀ a, a ∈ y.2.1 :: footR y.2.2 → a ≠ q ∧ ¬ a ∈ footR rs0 := fun a ha =>
      ⟨fun z => foot_apart nf nd hy hm c a ha (by rw [z]; exact List.mem_cons_self), fun z => foot_apart nf nd hy hm c a ha (List.mem_cons_of_mem _ z)⟩
    refine ⟨?_, fun r hr => ?_⟩
    · obtain ⟨a1, a2⟩ := apart y.2.1 List.mem_cons_self
      exact keep _ a1 a2 _ hz.1
    · obtain ⟨a1, a2⟩ := apart r.2.1 (List.mem_cons_of_mem _ (List.mem_map.mpr ⟨r, hr, rfl⟩))
      exact keep _ a1 a2 _ (hz.2 r hr)
end K16

/-! K16X: exceptions made, asked in a def that an except suite calls -/
namespace K16
open PySem PySem.Spec PyProof.Rows L2 He
section
variable {P : Program} {w : World} {K : Fr} {mg : Str → Option Value} {base : Heap}
def fs2 (t1 t2 : V) : List (Str × V) := [("key", t2), ("table", t1)]
def fs3 (t1 t2 t3 : V) : List (Str × V) := [("column", t3), ("key", t2), ("table", t1)]
def spEx2 (C : Addr) : Sp := fun vs H Q _ => ∃ (a : Addr) (t1 t2 : V), vs = [.ref a, t1, t2] ∧ H a = some (exo a C none) ∧
  ∀ H' d, H d = none → d ≠ a → H' a = some (exo a C (some d)) → H' d = some (exd d (fs2 t1 t2)) → (∀ b, b ≠ a → b ≠ d → H' b = H b) → Q .non H'
def spEx3 (C : Addr) : Sp := fun vs H Q _ => ∃ (a : Addr) (t1 t2 t3 : V), vs = [.ref a, t1, t2, t3] ∧ H a = some (exo a C none) ∧
  ∀ H' d, H d = none → d ≠ a → H' a = some (exo a C (some d)) → H' d = some (exd d (fs3 t1 t2 t3)) → (∀ b, b ≠ a → b ≠ d → H' b = H b) → Q .non H'
theorem sc_NoRow_init : FnScope n_NoRow_init p_NoRow_init (defScope s_NoRow_init) := ⟨rfl, rfl, rfl, by decide +kernel, rfl, by decide +kernel, by decide +kernel⟩
theorem ok_NoRow_init (T : Txt K mg w) {fd : FuncData} (F : FnT K "__init__" "NoRow.__init__" s_NoRow_init [] (a_NoRow_init K) fd) : FnOk P w K mg base CX0 1 (a_NoRow_init K) fd p_NoRow_init (spEx2 (ga K "NoRow")) := by
  refine F.ok sc_NoRow_init (fun vs H Q E h => ?_) fun cdv A outer s H vs Q E hr h => ?_
  · obtain ⟨a, t1, t2, rfl, _⟩ := h
    rfl
  · obtain ⟨a, t1, t2, rfl, ha, k⟩ := h
    refine ⟨_, (pss_cons (ps_ost (pv 0) (pv 1))
      (pss_one (ps_ost (pv 0) (pv 2)))), ?_⟩
    refine ⟨_, rfl, _, rfl, a, _, rfl, T.o_NoRow, T.n_NoRow_table, .inl ⟨ha, fun d hd ne => ?_⟩⟩
    refine ⟨_, rfl, _, rfl, a, _, rfl, T.o_NoRow, T.n_NoRow_key, .inr ⟨d, _, upd_same, (upd_ne ne).trans upd_same, (by show 1 ≤ 900; decide), ?_⟩⟩
    refine k _ d hd ne ((upd_ne (Ne.symm ne)).trans upd_same) upd_same fun b b1 b2 => ?_
    rw [upd_ne b2, upd_ne b1, upd_ne b2]
theorem sc_Taken_init : FnScope n_Taken_init p_Taken_init (defScope s_Taken_init) := ⟨rfl, rfl, rfl, by decide +kernel, rfl, by decide +kernel, by decide +kernel⟩
theorem ok_Taken_init (T : Txt K mg w) {fd : FuncData} (F : FnT K "__init__" "Taken.__init__" s_Taken_init [] (a_Taken_init K) fd) : FnOk P w K mg base CX0 1 (a_Taken_init K) fd p_Taken_init (spEx2 (ga K "Taken")) := by
  refine F.ok sc_Taken_init (fun vs H Q E h => ?_) fun cdv A outer s H vs Q E hr h => ?_
  · obtain ⟨a, t1, t2, rfl, _⟩ := h
    rfl
  · obtain ⟨a, t1, t2, rfl, ha, k⟩ := h
    refine ⟨_, (pss_cons (ps_ost (pv 0) (pv 1))
      (pss_one (ps_ost (pv 0) (pv 2)))), ?_⟩
    refine ⟨_, rfl, _, rfl, a, _, rfl, T.o_Taken, T.n_Taken_table, .inl ⟨ha, fun d hd ne => ?_⟩⟩
    refine ⟨_, rfl, _, rfl, a, _, rfl, T.o_Taken, T.n_Taken_key, .inr ⟨d, _, upd_same, (upd_ne ne).trans upd_same, (by show 1 ≤ 900; decide), ?_⟩⟩
    refine k _ d hd ne ((upd_ne (Ne.symm ne)).trans upd_same) upd_same fun b b1 b2 => ?_
    rw [upd_ne b2, upd_ne b1, upd_ne b2]
theorem sc_Bare_init : FnScope n_Bare_init p_Bare_init (defScope s_Bare_init) := ⟨rfl, rfl, rfl, by decide +kernel, rfl, by decide +kernel, by decide +kernel⟩
theorem ok_Bare_init (T : Txt K mg w) {fd : FuncData} (F : FnT K "__init__" "Bare.__init__" s_Bare_init [] (a_Bare_init K) fd) : FnOk P w K mg base CX0 1 (a_Bare_init K) fd p_Bare_init (spEx3 (ga K "Bare")) := by
  refine F.ok sc_Bare_init (fun vs H Q E h => ?_) fun cdv A outer s H vs Q E hr h => ?_
  · obtain ⟨a, t1, t2, t3, rfl, _⟩ := h
    rfl
  · obtain ⟨a, t1, t2, t3, rfl, ha, k⟩ := h
    refine ⟨_, (pss_cons (ps_ost (pv 0) (pv 1))
      (pss_cons (ps_ost (pv 0) (pv 2))
      (pss_one (ps_ost (pv 0) (pv 3))))), ?_⟩
    refine ⟨_, rfl, _, rfl, a, _, rfl, T.o_Bare, T.n_Bare_table, .inl ⟨ha, fun d hd ne => ?_⟩⟩
    refine ⟨_, rfl, _, rfl, a, _, rfl, T.o_Bare, T.n_Bare_key, .inr ⟨d, _, upd_same, (upd_ne ne).trans upd_same, (by show 1 ≤ 900; decide), ?_⟩⟩
    refine ⟨_, rfl, _, rfl, a, _, rfl, T.o_Bare, T.n_Bare_column, .inr ⟨d, _, (upd_ne (Ne.symm ne)).trans upd_same, upd_same, (by show 2 ≤ 900; decide), ?_⟩⟩
    refine k _ d hd ne ((upd_ne (Ne.symm ne)).trans ((upd_ne (Ne.symm ne)).trans upd_same)) upd_same fun b b1 b2 => ?_
    rw [upd_ne b2, upd_ne b2, upd_ne b1, upd_ne b2]
theorem sc_Missing_init : FnScope n_Missing_init p_Missing_init (defScope s_Missing_init) := ⟨rfl, rfl, rfl, by decide +kernel, rfl, by decide +kernel, by decide +kernel⟩
theorem ok_Missing_init (T : Txt K mg w) {fd : FuncData} (F : FnT K "__init__" "Missing.__init__" s_Missing_init [] (a_Missing_init K) fd) : FnOk P w K mg base CX0 1 (a_Missing_init K) fd p_Missing_init (spEx3 (ga K "Missing")) := by
  refine F.ok sc_Missing_init (fun vs H Q E h => ?_) fun cdv A outer s H vs Q E hr h => ?_
  · obtain ⟨a, t1, t2, t3, rfl, _⟩ := h
    rfl
  · obtain ⟨a, t1, t2, t3, rfl, ha, k⟩ := h
    refine ⟨_, (pss_cons (ps_ost (pv 0) (pv 1))
      (pss_cons (ps_ost (pv 0) (pv 2))
      (pss_one (ps_ost (pv 0) (pv 3))))), ?_⟩
    refine ⟨_, rfl, _, rfl, a, _, rfl, T.o_Missing, T.n_Missing_table, .inl ⟨ha, fun d hd ne => ?_⟩⟩
    refine ⟨_, rfl, _, rfl, a, _, rfl, T.o_Missing, T.n_Missing_key, .inr ⟨d, _, upd_same, (upd_ne ne).trans upd_same, (by show 1 ≤ 900; decide), ?_⟩⟩
    refine ⟨_, rfl, _, rfl, a, _, rfl, T.o_Missing, T.n_Missing_column, .inr ⟨d, _, (upd_ne (Ne.symm ne)).trans upd_same, upd_same, (by show 2 ≤ 900; decide), ?_⟩⟩
    refine k _ d hd ne ((upd_ne (Ne.symm ne)).trans ((upd_ne (Ne.symm ne)).trans upd_same)) upd_same fun b b1 b2 => ?_
    rw [upd_ne b2, upd_ne b2, upd_ne b1, upd_ne b2]
theorem sc_Twice_init : FnScope n_Twice_init p_Twice_init (defScope s_Twice_init) := ⟨rfl, rfl, rfl, by decide +kernel, rfl, by decide +kernel, by decide +kernel⟩
theorem ok_Twice_init (T : Txt K mg w) {fd : FuncData} (F : FnT K "__init__" "Twice.__init__" s_Twice_init [] (a_Twice_init K) fd) : FnOk P w K mg base CX0 1 (a_Twice_init K) fd p_Twice_init (spEx3 (ga K "Twice")) := by
  refine F.ok sc_Twice_init (fun vs H Q E h => ?_) fun cdv A outer s H vs Q E hr h => ?_
  · obtain ⟨a, t1, t2, t3, rfl, _⟩ := h
    rfl
  · obtain ⟨a, t1, t2, t3, rfl, ha, k⟩ := h
    refine ⟨_, (pss_cons (ps_ost (pv 0) (pv 1))
      (pss_cons (ps_ost (pv 0) (pv 2))
      (pss_one (ps_ost (pv 0) (pv 3))))), ?_⟩
    refine ⟨_, rfl, _, rfl, a, _, rfl, T.o_Twice, T.n_Twice_table, .inl ⟨ha, fun d hd ne => ?_⟩⟩
    refine ⟨_, rfl, _, rfl, a, _, rfl, T.o_Twice, T.n_Twice_key, .inr ⟨d, _, upd_same, (upd_ne ne).trans upd_same, (by show 1 ≤ 900; decide), ?_⟩⟩
    refine ⟨_, rfl, _, rfl, a, _, rfl, T.o_Twice, T.n_Twice_column, .inr ⟨d, _, (upd_ne (Ne.symm ne)).trans upd_same, upd_same, (by show 2 ≤ 900; decide), ?_⟩⟩
    refine k _ d hd ne ((upd_ne (Ne.symm ne)).trans ((upd_ne (Ne.symm ne)).trans upd_same)) upd_same fun b b1 b2 => ?_
    rw [upd_ne b2, upd_ne b2, upd_ne b1, upd_ne b2]
theorem sc_Held_init : FnScope n_Held_init p_Held_init (defScope s_Held_init) := ⟨rfl, rfl, rfl, by decide +kernel, rfl, by decide +kernel, by decide +kernel⟩
theorem ok_Held_init (T : Txt K mg w) {fd : FuncData} (F : FnT K "__init__" "Held.__init__" s_Held_init [] (a_Held_init K) fd) : FnOk P w K mg base CX0 1 (a_Held_init K) fd p_Held_init (spEx3 (ga K "Held")) := by
  refine F.ok sc_Held_init (fun vs H Q E h => ?_) fun cdv A outer s H vs Q E hr h => ?_
  · obtain ⟨a, t1, t2, t3, rfl, _⟩ := h
    rfl
  · obtain ⟨a, t1, t2, t3, rfl, ha, k⟩ := h
    refine ⟨_, (pss_cons (ps_ost (pv 0) (pv 1))
      (pss_cons (ps_ost (pv 0) (pv 2))
      (pss_one (ps_ost (pv 0) (pv 3))))), ?_⟩
    refine ⟨_, rfl, _, rfl, a, _, rfl, T.o_Held, T.n_Held_table, .inl ⟨ha, fun d hd ne => ?_⟩⟩
    refine ⟨_, rfl, _, rfl, a, _, rfl, T.o_Held, T.n_Held_key, .inr ⟨d, _, upd_same, (upd_ne ne).trans upd_same, (by show 1 ≤ 900; decide), ?_⟩⟩
    refine ⟨_, rfl, _, rfl, a, _, rfl, T.o_Held, T.n_Held_column, .inr ⟨d, _, (upd_ne (Ne.symm ne)).trans upd_same, upd_same, (by show 2 ≤ 900; decide), ?_⟩⟩
    refine k _ d hd ne ((upd_ne (Ne.symm ne)).trans ((upd_ne (Ne.symm ne)).trans upd_same)) upd_same fun b b1 b2 => ?_
    rw [upd_ne b2, upd_ne b2, upd_ne b1, upd_ne b2]

theorem same_let {H1 H2 : Hp} {a d : Addr} {o u : HO} (ha : H1 a = none) (hd : upd H1 a o d = none) (h : ∀ b, b ≠ a → b ≠ d → H2 b = upd H1 a o b) : Same H1 (upd (del H2 a) d u) := fun b v e => by
  have b1 : b ≠ a := ne_of_none e ha
  have b2 : b ≠ d := ne_of_none e (upd_none hd).2
  rw [upd_ne b2, del_ne b1, h b b1 b2, upd_ne b1]
  exact e
/-- the exception is made: what is left is what it tells -/
theorem mk2 {C : Addr} {t1 t2 : V} {H1 : Hp} {Q : XK} (q : ∀ d H', Same H1 H' → H' d = some (.xd (fs2 t1 t2)) → Q (.ref C) (some d) H') : ([t1, t2] : List V).length ≤ 1000 ∧ ∀ a, H1 a = none → spEx2 C (.ref a :: ([t1, t2] ++ [])) (upd H1 a (exo a C none))
    (fun v H2 => v = .non ∧ ∃ (d : Addr) (fs : List (Str × V)), H2 a = some (exo a C (some d)) ∧ H2 d = some (exd d fs) ∧ H1 d = none ∧ Q (.ref C) (some d) (upd (del H2 a) d (.xd fs))) (fun _ _ _ => False) :=
  ⟨by show 2 ≤ 1000; decide, fun a ha => ⟨a, t1, t2, rfl, upd_same, fun H' d hd ne e1 e2 k => ⟨rfl, d, _, e1, e2, (upd_none hd).2, q d _ (same_let ha hd k) upd_same⟩⟩⟩
theorem mk3 {C : Addr} {t1 t2 t3 : V} {H1 : Hp} {Q : XK} (q : ∀ d H', Same H1 H' → H' d = some (.xd (fs3 t1 t2 t3)) → Q (.ref C) (some d) H') : ([t1, t2, t3] : List V).length ≤ 1000 ∧ ∀ a, H1 a = none → spEx3 C (.ref a :: ([t1, t2, t3] ++ [])) (upd H1 a (exo a C none))
    (fun v H2 => v = .non ∧ ∃ (d : Addr) (fs : List (Str × V)), H2 a = some (exo a C (some d)) ∧ H2 d = some (exd d fs) ∧ H1 d = none ∧ Q (.ref C) (some d) (upd (del H2 a) d (.xd fs))) (fun _ _ _ => False) :=
  ⟨by show 3 ≤ 1000; decide, fun a ha => ⟨a, t1, t2, t3, rfl, upd_same, fun H' d hd ne e1 e2 k => ⟨rfl, d, _, e1, e2, (upd_none hd).2, q d _ (same_let ha hd k) upd_same⟩⟩⟩
/-! ### a def that takes the exception that is handled -/
/-- what is known of it: an instance of C, its dict at dd -/
structure Got (C dd : Addr) (oe : Obj) : Prop where
  zc : Zc (.ref C) (some dd) oe
  fl : ∃ vs, oe.data = .fields vs
section
variable {X : Cx} {a C dd : Addr} {oe : Obj}
theorem got_at {pins : List (Addr × Obj)} {σ : L2.St} {H : Hp} {s : Shared} {fs : List (Str × V)} (G : Got C dd oe) (hp : (a, oe) ∈ X.pn) (I : Inv X pins σ H s) (hd : H dd = some (.xd fs)) : ∃ od, PySem.W.InstAt s.heap a oe C (some od) ∧ s.heap.get? dd = some od := by
  obtain ⟨od, ho⟩ := objOk_get (I.hok dd _ hd)
  obtain ⟨vs, hv⟩ := G.fl
  exact ⟨od, ⟨(I.pin (a, oe) (List.mem_append_left _ hp)).1, G.zc.1, by unfold PySem.W.notCls; rw [hv], by rw [G.zc.2]; exact ho⟩, ho⟩
def rIsG (K : Fr) (C dd a : Addr) : List V → Hp → VK → Prop := fun xs H Q => ∃ (c : V) (cv : Value) (b : Bool) (fs : List (Str × V)), xs = [.ref a, c] ∧ H dd = some (.xd fs) ∧ (∀ u, RelV c u → u = cv) ∧ PySem.W.kitOne K (.ref C) cv = some b ∧ Q (.bl b) H
theorem isi_got (G : Got C dd oe) (hp : (a, oe) ∈ X.pn) (Z : ExcC X.K C) : CallR X (.builtin "isinstance") (rIsG X.K C dd a) := by
  intro pins s σ H xs us Q I r h
  obtain ⟨c, cv, b, fs, rfl, hd, hcv, e, q⟩ := h
  obtain ⟨u1, u2, rfl, r1, r2⟩ := vals2 r
  cases r1
  have ec := hcv _ r2
  subst ec
  obtain ⟨od, J, _⟩ := got_at G hp I hd
  obtain ⟨cd, hcd, _⟩ := PySem.W.any_some Z.hd
  exact PySem.W.kia_one (PySem.W.kitx_exc (by rw [hcd]; rfl) Z.hg Z.hk Z.hs Z.ha Z.hn Z.ht Z.hm) I.kIn J e (fun z => nomatch z) fun tk => ⟨.bl b, H, I.kept (t' := tk) fun _ _ z => z, rfl, q⟩
def tFG (K : Fr) (C a dd : Addr) (f : Str) (te : TE) : TE := fun σ H Q => te σ H fun x H1 => x = .ref a ∧ PySem.W.findIn K (.ref C) f = some none ∧ ∃ (fs : List (Str × V)) (v : V), H1 dd = some (.xd fs) ∧ fs.lookup f = some v ∧ Q v H1
theorem fld_got {e : Expr} {te : TE} {pos : Pos} {n : Str} (G : Got C dd oe) (hp : (a, oe) ∈ X.pn) (Z : XfC X.K C) (he : PE X e te)
    (hb : attributeBase e n X.env (eval e X.env) = eval e X.env := by rfl) : PE X (.Attribute e n pos) (tFG X.K C a dd n te) := by
  refine ⟨fun pins s σ H Q I h => attr_of hb (thn (he.run pins s σ H _ I h) fun u s1 hh => ?_)⟩
  obtain ⟨x, H1, I1, rx, ex, no, fs, v, hd, l, q⟩ := hh
  subst ex
  cases rx
  obtain ⟨mA, hns, hr⟩ : ∃ mA, s1.heap.Ns1 dd mA ∧ ∀ f, RelO (fs.lookup f) (mA f) := I1.hok dd _ hd
  obtain ⟨od, ho, hl⟩ := lookIn_ns hns
  obtain ⟨u, hu, ru⟩ := RelO.some_of (v := v) (o := mA n) (by rw [← l]; exact hr n)
  obtain ⟨od2, J, ho2⟩ := got_at G hp I1 hd
  rw [ho] at ho2
  cases ho2
  exact HandSPX.exc_get I1.kIn J Z.ga Z.gg Z.exC (PySem.W.findObj_own Z.hdC no rfl (by rw [hl, hu])) (handed_of ru) ⟨v, H1, I1.tok _, ru, q⟩
end
def rCntF (K : Fr) : V → List V → Hp → VK → Prop := fun x xs H Q => ∃ (a : Addr) (ys : List V) (y : V), x = V.ref a ∧ xs = [y] ∧ SqL K H a ys ∧ flatV y = true ∧ ys.all flatV = true ∧ Q (.int (ys.countP fun z => eqV z y : Nat)) H
theorem countU {y : V} : ∀ {ys : List V} {us : List Value}, Vals ys us → ys.all flatV = true → us.countP (eqU y) = ys.countP fun z => eqV z y
  | _, _, .nil, _ => rfl
  | z :: ys, u :: us, .cons r t, f => by
    rw [List.all_cons, Bool.and_eq_true] at f
    have ih := countU (y := y) t f.2
    rw [List.countP_cons, List.countP_cons, ih, eqU_of r f.1]
theorem mt_countF {X : Cx} : MtR X "list.count" (rCntF X.K) := by
  intro pins s σ H x xs v us Q I rx rxs h
  obtain ⟨a, ys, y, rfl, rfl, hs, fy, fys, q⟩ := h
  cases rx
  obtain ⟨uy, rfl, ry⟩ := rxs.one
  obtain ⟨its, rv, ⟨⟨c1, c2, c3, c4⟩, n, ho, e1, e2, e3⟩, hlen⟩ := I.list hs
  simp only at e1 e3
  subst e1 e3
  refine call_meets F.slot_list_count ⟨_, ho, rfl⟩ F.entry_list_count (F.args_list_count_2 _ _) (SeqAt.list_countAt a its.toArray n c2 c4 uy (eqU y)) ⟨ho, fun u hu => mem_eqAt ry fy rv fys u (by simpa using hu), ?_⟩
  refine ⟨.int (ys.countP fun z => eqV z y : Nat), H, I.tok _, ⟨s.toks, ?_⟩, q⟩
  have e : its.toArray.toList.countP (eqU y) = ys.countP fun z => eqV z y := countU rv fys
  rw [e]
/-- THE RULE: such a def runs by its body; p is the exception's address with its object -/
theorem got_run {x q y : Str} {st : Stmt} {f : Addr} {fd : FuncData} {N : List Str} {k : Nat} {A : Around} {outer : List Env} {s : Shared} {H : Hp} {Q : VK} {p : Addr × Obj} (F : FnT K x q st [] f fd) (S : FnScope N [y] (defScope st))
    (hb : BindsTo s fd ⟨[.ref p.1], []⟩ [(y, .ref p.1)]) (hr : L2H.RoomH (k + 1) A) (hp : L2H.PinOk outer H s p) (e0 : Env0 P w K mg base A outer s H)
    (body : ∀ cdv, L2H.RoomH k (A.deeper (envOfC q (defScope st) s.heap.objs.size f cdv)) → ∃ t, PSs (L2H.cxH CX0 P w K mg base N q (defScope st) f cdv A outer s H E0 p) (defBody st) t ∧ t { nx := fun _ H' => Q .non H', rt := Q } (L2.start N [.ref p.1]) H) :
    codeAny (model P w) A (.call (.ref f) ⟨[.ref p.1], []⟩) (CR CX0 outer P w H s Q E0) s := by
  obtain ⟨oc, od, dV, kV, doc, pm, an, cdv, ct, osl, rfl, lk, hcd, _, _⟩ := F.ex
  have bk : ∀ b o, base.get? b = some o → s.heap.get? b = some o := fun b o e => (e0.bs b o e).1
  have KX := e0.mod.kin.keeps bk
  have hk : ∀ z ∈ [y].zip [Value.ref p.1], (defScope st).names.lookup z.1 = some .local ∨ ((defScope st).names.lookup z.1 = some .cell ∧ ((cellsFrom (s.heap.objs.size + 1) (defScope st).names []).lookup z.1).isSome = true) := by
    rintro ⟨n, v⟩ hz
    rcases S.par n (List.of_mem_zip hz).1 with c | c
    · exact .inl c
    · exact .inr ⟨c, PySem.W.cellsFrom_some _ _ _ (.inl c)⟩
  refine codeAny_call_function hr.depth (KX _ _ lk) rfl S.co S.gen rfl (PySem.W.codeRec_of KX hcd) (hb _ _ _ _ ?_)
  refine wpAny_newFunctionEnv_cells S.kind hk fun env he s1 z => ?_
  subst he
  refine ⟨(e0.mod.nolimit.keeps bk).keeps z.toInCall.keep, codeAny_func ?_⟩
  obtain ⟨t, ht, hq⟩ := body cdv (hr.deeper _)
  refine wpAny_mono (ht.run [] s1 _ H _ (L2H.inv_startH (vs := [.ref p.1]) (us := [.ref p.1]) S hp e0 rfl (.cons rfl .nil) z) hq) (fun fl s2 hs => ?_) fun e s2 hs => hs
  match fl, hs with
  | .ret u, hs =>
    obtain ⟨v, σ2, H2, J, rv, q⟩ := hs
    exact ⟨v, H2, J.os, J.bare, J.base, J.hok, rv, q⟩
  | .next, hs =>
    obtain ⟨σ2, H2, J, q⟩ := hs
    exact ⟨V.non, H2, J.os, J.bare, J.base, J.hok, rfl, q⟩
  | .brk, hs =>
    obtain ⟨_, _, _, q⟩ := hs
    exact q.elim
  | .cont, hs =>
    obtain ⟨_, _, _, q⟩ := hs
    exact q.elim
end
end K16

/-! K16R: an exception told as a refusal -/
namespace K16
open PySem PySem.Spec PyProof.Rows L2 He
section
variable {P : Program} {w : World} {K : Fr} {mg : Str → Option Value} {base : Heap}
/-- what an exception of a class tells -/
inductive Ex (t1 t2 t3 : V) : Str → List (Str × V) → List V → Prop
  | taken : Ex t1 t2 t3 "Taken" (fs2 t1 t2) [.str "Taken", t1, t2]
  | norow : Ex t1 t2 t3 "NoRow" (fs2 t1 t2) [.str "NoRow", t1, t2]
  | bare : Ex t1 t2 t3 "Bare" (fs3 t1 t2 t3) [.str "Bare", t1, t2, t3]
  | missing : Ex t1 t2 t3 "Missing" (fs3 t1 t2 t3) [.str "Missing", t1, t2, t3]
  | twice : Ex t1 t2 t3 "Twice" (fs3 t1 t2 t3) [.str "Twice", t1, t2, t3]
  | held : Ex t1 t2 t3 "Held" (fs3 t1 t2 t3) [.str "Held", t1, t2, t3]
theorem ExcC.of (T : Txt K mg w) {t1 t2 t3 : V} {nm : Str} {fs : List (Str × V)} {r : List V} (e : Ex t1 t2 t3 nm fs r) : ExcC K (ga K nm) ∧ XfC K (ga K nm) := by
  cases e
  · exact ⟨T.k_Taken, T.x_Taken⟩
  · exact ⟨T.k_NoRow, T.x_NoRow⟩
  · exact ⟨T.k_Bare, T.x_Bare⟩
  · exact ⟨T.k_Missing, T.x_Missing⟩
  · exact ⟨T.k_Twice, T.x_Twice⟩
  · exact ⟨T.k_Held, T.x_Held⟩
theorem idx_no {bs : List Bool} {j : Nat} (h : ((bs.take j).all fun b => !b) = true) : ∀ (m : Nat) (z : V), m < j → (bs.map V.bl)[m]? = some z → eqV z (.bl true) = false := fun m z hm hz => by
  obtain ⟨b, hb, rfl⟩ := map_at hz
  have q : b ∈ bs.take j := List.mem_of_getElem? (i := m) (by rw [List.getElem?_take_of_lt hm]; exact hb)
  have e := List.all_eq_true.mp h b q
  cases b
  · rfl
  · cases e
theorem sc_l_refusal : FnScope n_l_refusal p_l_refusal (defScope s_l_refusal) := ⟨rfl, rfl, rfl, by decide +kernel, rfl, by decide +kernel, by decide +kernel⟩
theorem run_refusal (T : Txt K mg w) {fd : FuncData} (F : FnT K "_law_refusal" "_law_refusal" s_l_refusal [] (a_l_refusal K) fd) {A : Around} {outer : List Env} {s : Shared} {H : Hp} {Q : VK} {a dd : Addr} {oe : Obj} {nm : Str} {fs : List (Str × V)} {r : List V} {t1 t2 t3 : V}
    (ex : Ex t1 t2 t3 nm fs r) (G : Got (ga K nm) dd oe) (hx : H dd = some (.xd fs)) (hr : L2H.RoomH 1 A) (hpin : L2H.PinOk outer H s (a, oe)) (e0 : Env0 P w K mg base A outer s H) (k : ∀ H' t, Same H H' → H' t = some (.tup r) → Q (.ref t) H') :
    codeAny (model P w) A (.call (.ref (a_l_refusal K)) ⟨[.ref a], []⟩) (CR CX0 outer P w H s Q E0) s := by
  have kin : K.In s.heap := e0.mod.kin.keeps fun b o e => (e0.bs b o e).1
  have bb : Binds K fd ["_law_e"] [] := F.bindsN fun _ _ _ _ _ _ us hl => match us, hl with | [_], _ => rfl
  refine got_run (p := (a, oe)) F sc_l_refusal (bb s [.ref a] kin rfl) hr hpin e0 fun cdv hr2 => ?_
  obtain ⟨Z, Zx⟩ := ExcC.of T ex
  have hp : (a, oe) ∈ ([(a, oe)] : List (Addr × Obj)) := List.mem_cons_self
  suffices z : ∃ t, PSs (L2H.cxH CX0 P w K mg base n_l_refusal "_law_refusal" (defScope s_l_refusal) (a_l_refusal K) cdv A outer s H E0 (a, oe)) (defBody s_l_refusal) t ∧ t { nx := fun _ H' => Q .non H', rt := Q } (L2.start n_l_refusal [.ref a]) H from z
  refine ⟨_, (pss_cons (ps_set (i := 1) sc_l_refusal.nd rfl (Or.inl rfl) (pe_lst (pa_cons (pe_callB (isi_got G hp Z) (by rfl) T.z_isinstance (by decide +kernel) (pa_cons (pv 0) (pa_cons (pe_glob rfl T.g_Bare (gref _)) pa_nil))) (pa_cons (pe_callB (isi_got G hp Z) (by rfl) T.z_isinstance (by decide +kernel) (pa_cons (pv 0) (pa_cons (pe_glob rfl T.g_Missing (gref _)) pa_nil))) (pa_cons (pe_callB (isi_got G hp Z) (by rfl) T.z_isinstance (by decide +kernel) (pa_cons (pv 0) (pa_cons (pe_glob rfl T.g_Twice (gref _)) pa_nil))) (pa_cons (pe_callB (isi_got G hp Z) (by rfl) T.z_isinstance (by decide +kernel) (pa_cons (pv 0) (pa_cons (pe_glob rfl T.g_Held (gref _)) pa_nil))) pa_nil))))))
      (pss_cons (ps_set (i := 2) sc_l_refusal.nd rfl (Or.inl rfl) (pe_lst (pa_cons (pe_callB (isi_got G hp Z) (by rfl) T.z_isinstance (by decide +kernel) (pa_cons (pv 0) (pa_cons (pe_glob rfl T.g_NoColumn (gref _)) pa_nil))) (pa_cons (pe_callB (isi_got G hp Z) (by rfl) T.z_isinstance (by decide +kernel) (pa_cons (pv 0) (pa_cons (pe_glob rfl T.g_BadWorth (gref _)) pa_nil))) pa_nil))))
      (pss_cons (ps_set (i := 3) sc_l_refusal.nd rfl (Or.inl rfl) (pe_lst (pa_cons (pe_callB (isi_got G hp Z) (by rfl) T.z_isinstance (by decide +kernel) (pa_cons (pv 0) (pa_cons (pe_glob rfl T.g_Taken (gref _)) pa_nil))) (pa_cons (pe_callB (isi_got G hp Z) (by rfl) T.z_isinstance (by decide +kernel) (pa_cons (pv 0) (pa_cons (pe_glob rfl T.g_NoRow (gref _)) pa_nil))) pa_nil))))
      (pss_cons (ps_set (i := 4) sc_l_refusal.nd rfl (Or.inl rfl) (pe_lst (pa_cons (pe_callB (isi_got G hp Z) (by rfl) T.z_isinstance (by decide +kernel) (pa_cons (pv 0) (pa_cons (pe_glob rfl T.g_NoTable (gref _)) pa_nil))) (pa_cons (pe_callB (isi_got G hp Z) (by rfl) T.z_isinstance (by decide +kernel) (pa_cons (pv 0) (pa_cons (pe_glob rfl T.g_BadKey (gref _)) pa_nil))) pa_nil))))
      (pss_cons (ps_if (pt_mid (PW.pt (pw_or (pt_cmpR op_ne (pe_bm PySem.F.plainAttrs_list PySem.F.slot_list_count PySem.F.type_list_count mt_countF (pe_op op_cat (pe_op op_cat (pe_op op_cat (pv 1) (pv 2)) (pv 3)) (pv 4)) (pa_cons pe_bl pa_nil)) pe_int (nomark _)) (pw_or1 (pt_not (pt_val (pe_callB (isi_got G hp Z) (by rfl) T.z_isinstance (by decide +kernel) (pa_cons (pv 0) (pa_cons (pe_bltn (v := .ty "ValueError") (by rfl) T.z_ValueError (by decide +kernel) rfl) pa_nil))))))))) (pss_one (ps_ret (pe_tup (pa_cons pe_str pa_nil)))) pss_nil)
      (pss_cons (ps_if (pt_cmpR op_in_seq pe_bl (pv 1) (by rfl)) (pss_one (ps_ret (pe_tup (pa_cons (pe_ix ix_tup (pe_tup (pa_cons pe_str (pa_cons pe_str (pa_cons pe_str (pa_cons pe_str pa_nil))))) (pe_bm PySem.F.plainAttrs_list PySem.F.slot_list_index PySem.F.type_list_index mt_index (pv 1) (pa_cons pe_bl pa_nil)) (fun _ _ => rfl)) (pa_cons (fld_got G hp Zx (pv 0)) (pa_cons (fld_got G hp Zx (pv 0)) (pa_cons (fld_got G hp Zx (pv 0)) pa_nil))))))) pss_nil)
      (pss_cons (ps_if (pt_cmpR op_in_seq pe_bl (pv 2) (by rfl)) (pss_one (ps_ret (pe_tup (pa_cons (pe_ix ix_tup (pe_tup (pa_cons pe_str (pa_cons pe_str pa_nil))) (pe_bm PySem.F.plainAttrs_list PySem.F.slot_list_index PySem.F.type_list_index mt_index (pv 2) (pa_cons pe_bl pa_nil)) (fun _ _ => rfl)) (pa_cons (fld_got G hp Zx (pv 0)) (pa_cons (fld_got G hp Zx (pv 0)) pa_nil)))))) pss_nil)
      (pss_cons (ps_if (pt_cmpR op_in_seq pe_bl (pv 3) (by rfl)) (pss_one (ps_ret (pe_tup (pa_cons (pe_ix ix_tup (pe_tup (pa_cons pe_str (pa_cons pe_str pa_nil))) (pe_bm PySem.F.plainAttrs_list PySem.F.slot_list_index PySem.F.type_list_index mt_index (pv 3) (pa_cons pe_bl pa_nil)) (fun _ _ => rfl)) (pa_cons (fld_got G hp Zx (pv 0)) (pa_cons (fld_got G hp Zx (pv 0)) pa_nil)))))) pss_nil)
      (pss_one (ps_ret (pe_ifExp (pt_val (pe_ix ix_list (pv 4) pe_int (fun _ _ => rfl))) (pe_tup (pa_cons pe_str (pa_cons (fld_got G hp Zx (pv 0)) pa_nil))) (pe_tup (pa_cons pe_str (pa_cons (fld_got G hp Zx (pv 0)) pa_nil)))))))))))))), ?_⟩
  cases ex
  · obtain ⟨kq, kv⟩ := T.q_Taken
    have k0 := kq ("Bare", false) (List.mem_of_getElem? (i := 0) rfl)
    have k1 := kq ("Missing", false) (List.mem_of_getElem? (i := 1) rfl)
    have k2 := kq ("Twice", false) (List.mem_of_getElem? (i := 2) rfl)
    have k3 := kq ("Held", false) (List.mem_of_getElem? (i := 3) rfl)
    have k4 := kq ("NoColumn", false) (List.mem_of_getElem? (i := 4) rfl)
    have k5 := kq ("BadWorth", false) (List.mem_of_getElem? (i := 5) rfl)
    have k6 := kq ("Taken", true) (List.mem_of_getElem? (i := 6) rfl)
    have k7 := kq ("NoRow", false) (List.mem_of_getElem? (i := 7) rfl)
    have k8 := kq ("NoTable", false) (List.mem_of_getElem? (i := 8) rfl)
    have k9 := kq ("BadKey", false) (List.mem_of_getElem? (i := 9) rfl)
    refine ⟨_, rfl, _, _, false, _, rfl, hx, (fun _ r => r), k0, _, rfl, _, _, false, _, rfl, hx, (fun _ r => r), k1, _, rfl, _, _, false, _, rfl, hx, (fun _ r => r), k2, _, rfl, _, _, false, _, rfl, hx, (fun _ r => r), k3, by show 4 ≤ sizeLine; decide, fun l1 hl1 => ?_⟩
    have hx1 := at_new (u := .lst [.bl false, .bl false, .bl false, .bl false]) hx hl1
    refine ⟨_, rfl, _, _, false, _, rfl, hx1, (fun _ r => r), k4, _, rfl, _, _, false, _, rfl, hx1, (fun _ r => r), k5, by show 2 ≤ sizeLine; decide, fun l2 hl2 => ?_⟩
    have hx2 := at_new (u := .lst [.bl false, .bl false]) hx1 hl2
    refine ⟨_, rfl, _, _, true, _, rfl, hx2, (fun _ r => r), k6, _, rfl, _, _, false, _, rfl, hx2, (fun _ r => r), k7, by show 2 ≤ sizeLine; decide, fun l3 hl3 => ?_⟩
    have hx3 := at_new (u := .lst [.bl true, .bl false]) hx2 hl3
    refine ⟨_, rfl, _, _, false, _, rfl, hx3, (fun _ r => r), k8, _, rfl, _, _, false, _, rfl, hx3, (fun _ r => r), k9, by show 2 ≤ sizeLine; decide, fun l4 hl4 => ?_⟩
    have hx4 := at_new (u := .lst [.bl false, .bl false]) hx3 hl4
    have e1 := at_new (u := .lst [.bl false, .bl false]) (at_new (u := .lst [.bl true, .bl false]) (at_new (u := .lst [.bl false, .bl false]) (upd_same (H := H) (a := l1) (o := .lst [.bl false, .bl false, .bl false, .bl false])) hl2) hl3) hl4
    have e2 := at_new (u := .lst [.bl false, .bl false]) (at_new (u := .lst [.bl true, .bl false]) (upd_same (H := upd H l1 (.lst [.bl false, .bl false, .bl false, .bl false])) (a := l2) (o := .lst [.bl false, .bl false])) hl3) hl4
    have e3 := at_new (u := .lst [.bl false, .bl false]) (upd_same (H := upd (upd H l1 (.lst [.bl false, .bl false, .bl false, .bl false])) l2 (.lst [.bl false, .bl false])) (a := l3) (o := .lst [.bl true, .bl false])) hl4
    have e4 := upd_same (H := upd (upd (upd H l1 (.lst [.bl false, .bl false, .bl false, .bl false])) l2 (.lst [.bl false, .bl false])) l3 (.lst [.bl true, .bl false])) (a := l4) (o := .lst [.bl false, .bl false])
    have s4 := (((Same.new (o := .lst [.bl false, .bl false, .bl false, .bl false]) hl1).trans (Same.new (o := .lst [.bl false, .bl false]) hl2)).trans (Same.new (o := .lst [.bl true, .bl false]) hl3)).trans (Same.new (o := .lst [.bl false, .bl false]) hl4)
    generalize upd (upd (upd (upd H l1 (.lst [.bl false, .bl false, .bl false, .bl false])) l2 (.lst [.bl false, .bl false])) l3 (.lst [.bl true, .bl false])) l4 (.lst [.bl false, .bl false]) = H4 at hx4 e1 e2 e3 e4 s4 ⊢
    refine ⟨fun b H' => b = false ∧ Same H4 H', ?_, ?_⟩
    · refine ⟨_, rfl, _, rfl, l1, l2, _, _, rfl, rfl, e1, e2, by show 6 ≤ sizeLine; decide, fun c1 hc1 => ⟨_, rfl, c1, l3, _, _, rfl, rfl, upd_same, at_new e3 hc1, by show 8 ≤ sizeLine; decide, fun c2 hc2 => ⟨_, rfl, c2, l4, _, _, rfl, rfl, upd_same, at_new (at_new e4 hc1) hc2, by show 10 ≤ sizeLine; decide, fun c3 hc3 => ?_⟩⟩⟩
      refine ⟨.inl ⟨rfl, _, SqL.of upd_same⟩, c3, _, _, rfl, rfl, SqL.of upd_same, rfl, rfl, rfl, _, rfl, ifF rfl ?_⟩
      exact ⟨_, rfl, _, _, true, _, rfl, at_new (at_new (at_new hx4 hc1) hc2) hc3, (fun _ r => r), kv, true, rfl, rfl, ((Same.new hc1).trans (Same.new hc2)).trans (Same.new hc3)⟩
    · rintro b H' ⟨rfl, s'⟩
      refine iteF ?_
      refine ⟨_, rfl, l1, _, rfl, .inl (SqL.of (s' _ _ e1)), rfl, rfl, _, rfl, ifF rfl ?_⟩
      refine ⟨_, rfl, l2, _, rfl, .inl (SqL.of (s' _ _ e2)), rfl, rfl, _, rfl, ifF rfl ?_⟩
      refine ⟨_, rfl, l3, _, rfl, .inl (SqL.of (s' _ _ e3)), rfl, rfl, _, rfl, ifT rfl ?_⟩
      refine ⟨by show 2 ≤ sizeLine; decide, fun u hu => ?_⟩
      have eu := at_new (u := .tup [.str "Taken", .str "NoRow"]) (s' _ _ e3) hu
      have xu := at_new (u := .tup [.str "Taken", .str "NoRow"]) (s' _ _ hx4) hu
      refine ⟨_, rfl, .inl ⟨rfl, _, SqL.of eu⟩, l3, _, .bl true, 0, .bl true, rfl, rfl, SqL.of eu, rfl, rfl, rfl, rfl, idx_no (bs := [true, false]) rfl, u, _, _, _, rfl, rfl, SqT.of upd_same, at_of (j := 0) rfl rfl, _, rfl, rfl, T.n_Taken_table, _, _, xu, rfl, _, rfl, rfl, T.n_Taken_key, _, _, xu, rfl, by show 3 ≤ sizeLine; decide, fun t ht => ?_⟩
      exact k _ t (((s4.trans s').trans (Same.new hu)).trans (Same.new ht)) upd_same
  · obtain ⟨kq, kv⟩ := T.q_NoRow
    have k0 := kq ("Bare", false) (List.mem_of_getElem? (i := 0) rfl)
    have k1 := kq ("Missing", false) (List.mem_of_getElem? (i := 1) rfl)
    have k2 := kq ("Twice", false) (List.mem_of_getElem? (i := 2) rfl)
    have k3 := kq ("Held", false) (List.mem_of_getElem? (i := 3) rfl)
    have k4 := kq ("NoColumn", false) (List.mem_of_getElem? (i := 4) rfl)
    have k5 := kq ("BadWorth", false) (List.mem_of_getElem? (i := 5) rfl)
    have k6 := kq ("Taken", false) (List.mem_of_getElem? (i := 6) rfl)
    have k7 := kq ("NoRow", true) (List.mem_of_getElem? (i := 7) rfl)
    have k8 := kq ("NoTable", false) (List.mem_of_getElem? (i := 8) rfl)
    have k9 := kq ("BadKey", false) (List.mem_of_getElem? (i := 9) rfl)
    refine ⟨_, rfl, _, _, false, _, rfl, hx, (fun _ r => r), k0, _, rfl, _, _, false, _, rfl, hx, (fun _ r => r), k1, _, rfl, _, _, false, _, rfl, hx, (fun _ r => r), k2, _, rfl, _, _, false, _, rfl, hx, (fun _ r => r), k3, by show 4 ≤ sizeLine; decide, fun l1 hl1 => ?_⟩
    have hx1 := at_new (u := .lst [.bl false, .bl false, .bl false, .bl false]) hx hl1
    refine ⟨_, rfl, _, _, false, _, rfl, hx1, (fun _ r => r), k4, _, rfl, _, _, false, _, rfl, hx1, (fun _ r => r), k5, by show 2 ≤ sizeLine; decide, fun l2 hl2 => ?_⟩
    have hx2 := at_new (u := .lst [.bl false, .bl false]) hx1 hl2
    refine ⟨_, rfl, _, _, false, _, rfl, hx2, (fun _ r => r), k6, _, rfl, _, _, true, _, rfl, hx2, (fun _ r => r), k7, by show 2 ≤ sizeLine; decide, fun l3 hl3 => ?_⟩
    have hx3 := at_new (u := .lst [.bl false, .bl true]) hx2 hl3
    refine ⟨_, rfl, _, _, false, _, rfl, hx3, (fun _ r => r), k8, _, rfl, _, _, false, _, rfl, hx3, (fun _ r => r), k9, by show 2 ≤ sizeLine; decide, fun l4 hl4 => ?_⟩
    have hx4 := at_new (u := .lst [.bl false, .bl false]) hx3 hl4
    have e1 := at_new (u := .lst [.bl false, .bl false]) (at_new (u := .lst [.bl false, .bl true]) (at_new (u := .lst [.bl false, .bl false]) (upd_same (H := H) (a := l1) (o := .lst [.bl false, .bl false, .bl false, .bl false])) hl2) hl3) hl4
    have e2 := at_new (u := .lst [.bl false, .bl false]) (at_new (u := .lst [.bl false, .bl true]) (upd_same (H := upd H l1 (.lst [.bl false, .bl false, .bl false, .bl false])) (a := l2) (o := .lst [.bl false, .bl false])) hl3) hl4
    have e3 := at_new (u := .lst [.bl false, .bl false]) (upd_same (H := upd (upd H l1 (.lst [.bl false, .bl false, .bl false, .bl false])) l2 (.lst [.bl false, .bl false])) (a := l3) (o := .lst [.bl false, .bl true])) hl4
    have e4 := upd_same (H := upd (upd (upd H l1 (.lst [.bl false, .bl false, .bl false, .bl false])) l2 (.lst [.bl false, .bl false])) l3 (.lst [.bl false, .bl true])) (a := l4) (o := .lst [.bl false, .bl false])
    have s4 := (((Same.new (o := .lst [.bl false, .bl false, .bl false, .bl false]) hl1).trans (Same.new (o := .lst [.bl false, .bl false]) hl2)).trans (Same.new (o := .lst [.bl false, .bl true]) hl3)).trans (Same.new (o := .lst [.bl false, .bl false]) hl4)
    generalize upd (upd (upd (upd H l1 (.lst [.bl false, .bl false, .bl false, .bl false])) l2 (.lst [.bl false, .bl false])) l3 (.lst [.bl false, .bl true])) l4 (.lst [.bl false, .bl false]) = H4 at hx4 e1 e2 e3 e4 s4 ⊢
    refine ⟨fun b H' => b = false ∧ Same H4 H', ?_, ?_⟩
    · refine ⟨_, rfl, _, rfl, l1, l2, _, _, rfl, rfl, e1, e2, by show 6 ≤ sizeLine; decide, fun c1 hc1 => ⟨_, rfl, c1, l3, _, _, rfl, rfl, upd_same, at_new e3 hc1, by show 8 ≤ sizeLine; decide, fun c2 hc2 => ⟨_, rfl, c2, l4, _, _, rfl, rfl, upd_same, at_new (at_new e4 hc1) hc2, by show 10 ≤ sizeLine; decide, fun c3 hc3 => ?_⟩⟩⟩
      refine ⟨.inl ⟨rfl, _, SqL.of upd_same⟩, c3, _, _, rfl, rfl, SqL.of upd_same, rfl, rfl, rfl, _, rfl, ifF rfl ?_⟩
      exact ⟨_, rfl, _, _, true, _, rfl, at_new (at_new (at_new hx4 hc1) hc2) hc3, (fun _ r => r), kv, true, rfl, rfl, ((Same.new hc1).trans (Same.new hc2)).trans (Same.new hc3)⟩
    · rintro b H' ⟨rfl, s'⟩
      refine iteF ?_
      refine ⟨_, rfl, l1, _, rfl, .inl (SqL.of (s' _ _ e1)), rfl, rfl, _, rfl, ifF rfl ?_⟩
      refine ⟨_, rfl, l2, _, rfl, .inl (SqL.of (s' _ _ e2)), rfl, rfl, _, rfl, ifF rfl ?_⟩
      refine ⟨_, rfl, l3, _, rfl, .inl (SqL.of (s' _ _ e3)), rfl, rfl, _, rfl, ifT rfl ?_⟩
      refine ⟨by show 2 ≤ sizeLine; decide, fun u hu => ?_⟩
      have eu := at_new (u := .tup [.str "Taken", .str "NoRow"]) (s' _ _ e3) hu
      have xu := at_new (u := .tup [.str "Taken", .str "NoRow"]) (s' _ _ hx4) hu
      refine ⟨_, rfl, .inl ⟨rfl, _, SqL.of eu⟩, l3, _, .bl true, 1, .bl true, rfl, rfl, SqL.of eu, rfl, rfl, rfl, rfl, idx_no (bs := [false, true]) rfl, u, _, _, _, rfl, rfl, SqT.of upd_same, at_of (j := 1) rfl rfl, _, rfl, rfl, T.n_NoRow_table, _, _, xu, rfl, _, rfl, rfl, T.n_NoRow_key, _, _, xu, rfl, by show 3 ≤ sizeLine; decide, fun t ht => ?_⟩
      exact k _ t (((s4.trans s').trans (Same.new hu)).trans (Same.new ht)) upd_same
  · obtain ⟨kq, kv⟩ := T.q_Bare
    have k0 := kq ("Bare", true) (List.mem_of_getElem? (i := 0) rfl)
    have k1 := kq ("Missing", false) (List.mem_of_getElem? (i := 1) rfl)
    have k2 := kq ("Twice", false) (List.mem_of_getElem? (i := 2) rfl)
    have k3 := kq ("Held", false) (List.mem_of_getElem? (i := 3) rfl)
    have k4 := kq ("NoColumn", false) (List.mem_of_getElem? (i := 4) rfl)
    have k5 := kq ("BadWorth", false) (List.mem_of_getElem? (i := 5) rfl)
    have k6 := kq ("Taken", false) (List.mem_of_getElem? (i := 6) rfl)
    have k7 := kq ("NoRow", false) (List.mem_of_getElem? (i := 7) rfl)
    have k8 := kq ("NoTable", false) (List.mem_of_getElem? (i := 8) rfl)
    have k9 := kq ("BadKey", false) (List.mem_of_getElem? (i := 9) rfl)
    refine ⟨_, rfl, _, _, true, _, rfl, hx, (fun _ r => r), k0, _, rfl, _, _, false, _, rfl, hx, (fun _ r => r), k1, _, rfl, _, _, false, _, rfl, hx, (fun _ r => r), k2, _, rfl, _, _, false, _, rfl, hx, (fun _ r => r), k3, by show 4 ≤ sizeLine; decide, fun l1 hl1 => ?_⟩
    have hx1 := at_new (u := .lst [.bl true, .bl false, .bl false, .bl false]) hx hl1
    refine ⟨_, rfl, _, _, false, _, rfl, hx1, (fun _ r => r), k4, _, rfl, _, _, false, _, rfl, hx1, (fun _ r => r), k5, by show 2 ≤ sizeLine; decide, fun l2 hl2 => ?_⟩
    have hx2 := at_new (u := .lst [.bl false, .bl false]) hx1 hl2
    refine ⟨_, rfl, _, _, false, _, rfl, hx2, (fun _ r => r), k6, _, rfl, _, _, false, _, rfl, hx2, (fun _ r => r), k7, by show 2 ≤ sizeLine; decide, fun l3 hl3 => ?_⟩
    have hx3 := at_new (u := .lst [.bl false, .bl false]) hx2 hl3
    refine ⟨_, rfl, _, _, false, _, rfl, hx3, (fun _ r => r), k8, _, rfl, _, _, false, _, rfl, hx3, (fun _ r => r), k9, by show 2 ≤ sizeLine; decide, fun l4 hl4 => ?_⟩
    have hx4 := at_new (u := .lst [.bl false, .bl false]) hx3 hl4
    have e1 := at_new (u := .lst [.bl false, .bl false]) (at_new (u := .lst [.bl false, .bl false]) (at_new (u := .lst [.bl false, .bl false]) (upd_same (H := H) (a := l1) (o := .lst [.bl true, .bl false, .bl false, .bl false])) hl2) hl3) hl4
    have e2 := at_new (u := .lst [.bl false, .bl false]) (at_new (u := .lst [.bl false, .bl false]) (upd_same (H := upd H l1 (.lst [.bl true, .bl false, .bl false, .bl false])) (a := l2) (o := .lst [.bl false, .bl false])) hl3) hl4
    have e3 := at_new (u := .lst [.bl false, .bl false]) (upd_same (H := upd (upd H l1 (.lst [.bl true, .bl false, .bl false, .bl false])) l2 (.lst [.bl false, .bl false])) (a := l3) (o := .lst [.bl false, .bl false])) hl4
    have e4 := upd_same (H := upd (upd (upd H l1 (.lst [.bl true, .bl false, .bl false, .bl false])) l2 (.lst [.bl false, .bl false])) l3 (.lst [.bl false, .bl false])) (a := l4) (o := .lst [.bl false, .bl false])
    have s4 := (((Same.new (o := .lst [.bl true, .bl false, .bl false, .bl false]) hl1).trans (Same.new (o := .lst [.bl false, .bl false]) hl2)).trans (Same.new (o := .lst [.bl false, .bl false]) hl3)).trans (Same.new (o := .lst [.bl false, .bl false]) hl4)
    generalize upd (upd (upd (upd H l1 (.lst [.bl true, .bl false, .bl false, .bl false])) l2 (.lst [.bl false, .bl false])) l3 (.lst [.bl false, .bl false])) l4 (.lst [.bl false, .bl false]) = H4 at hx4 e1 e2 e3 e4 s4 ⊢
    refine ⟨fun b H' => b = false ∧ Same H4 H', ?_, ?_⟩
    · refine ⟨_, rfl, _, rfl, l1, l2, _, _, rfl, rfl, e1, e2, by show 6 ≤ sizeLine; decide, fun c1 hc1 => ⟨_, rfl, c1, l3, _, _, rfl, rfl, upd_same, at_new e3 hc1, by show 8 ≤ sizeLine; decide, fun c2 hc2 => ⟨_, rfl, c2, l4, _, _, rfl, rfl, upd_same, at_new (at_new e4 hc1) hc2, by show 10 ≤ sizeLine; decide, fun c3 hc3 => ?_⟩⟩⟩
      refine ⟨.inl ⟨rfl, _, SqL.of upd_same⟩, c3, _, _, rfl, rfl, SqL.of upd_same, rfl, rfl, rfl, _, rfl, ifF rfl ?_⟩
      exact ⟨_, rfl, _, _, true, _, rfl, at_new (at_new (at_new hx4 hc1) hc2) hc3, (fun _ r => r), kv, true, rfl, rfl, ((Same.new hc1).trans (Same.new hc2)).trans (Same.new hc3)⟩
    · rintro b H' ⟨rfl, s'⟩
      refine iteF ?_
      refine ⟨_, rfl, l1, _, rfl, .inl (SqL.of (s' _ _ e1)), rfl, rfl, _, rfl, ifT rfl ?_⟩
      refine ⟨by show 4 ≤ sizeLine; decide, fun u hu => ?_⟩
      have eu := at_new (u := .tup [.str "Bare", .str "Missing", .str "Twice", .str "Held"]) (s' _ _ e1) hu
      have xu := at_new (u := .tup [.str "Bare", .str "Missing", .str "Twice", .str "Held"]) (s' _ _ hx4) hu
      refine ⟨_, rfl, .inl ⟨rfl, _, SqL.of eu⟩, l1, _, .bl true, 0, .bl true, rfl, rfl, SqL.of eu, rfl, rfl, rfl, rfl, idx_no (bs := [true, false, false, false]) rfl, u, _, _, _, rfl, rfl, SqT.of upd_same, at_of (j := 0) rfl rfl, _, rfl, rfl, T.n_Bare_table, _, _, xu, rfl, _, rfl, rfl, T.n_Bare_key, _, _, xu, rfl, _, rfl, rfl, T.n_Bare_column, _, _, xu, rfl, by show 4 ≤ sizeLine; decide, fun t ht => ?_⟩
      exact k _ t (((s4.trans s').trans (Same.new hu)).trans (Same.new ht)) upd_same
  · obtain ⟨kq, kv⟩ := T.q_Missing
    have k0 := kq ("Bare", false) (List.mem_of_getElem? (i := 0) rfl)
    have k1 := kq ("Missing", true) (List.mem_of_getElem? (i := 1) rfl)
    have k2 := kq ("Twice", false) (List.mem_of_getElem? (i := 2) rfl)
    have k3 := kq ("Held", false) (List.mem_of_getElem? (i := 3) rfl)
    have k4 := kq ("NoColumn", false) (List.mem_of_getElem? (i := 4) rfl)
    have k5 := kq ("BadWorth", false) (List.mem_of_getElem? (i := 5) rfl)
    have k6 := kq ("Taken", false) (List.mem_of_getElem? (i := 6) rfl)
    have k7 := kq ("NoRow", false) (List.mem_of_getElem? (i := 7) rfl)
    have k8 := kq ("NoTable", false) (List.mem_of_getElem? (i := 8) rfl)
    have k9 := kq ("BadKey", false) (List.mem_of_getElem? (i := 9) rfl)
    refine ⟨_, rfl, _, _, false, _, rfl, hx, (fun _ r => r), k0, _, rfl, _, _, true, _, rfl, hx, (fun _ r => r), k1, _, rfl, _, _, false, _, rfl, hx, (fun _ r => r), k2, _, rfl, _, _, false, _, rfl, hx, (fun _ r => r), k3, by show 4 ≤ sizeLine; decide, fun l1 hl1 => ?_⟩
    have hx1 := at_new (u := .lst [.bl false, .bl true, .bl false, .bl false]) hx hl1
    refine ⟨_, rfl, _, _, false, _, rfl, hx1, (fun _ r => r), k4, _, rfl, _, _, false, _, rfl, hx1, (fun _ r => r), k5, by show 2 ≤ sizeLine; decide, fun l2 hl2 => ?_⟩
    have hx2 := at_new (u := .lst [.bl false, .bl false]) hx1 hl2
    refine ⟨_, rfl, _, _, false, _, rfl, hx2, (fun _ r => r), k6, _, rfl, _, _, false, _, rfl, hx2, (fun _ r => r), k7, by show 2 ≤ sizeLine; decide, fun l3 hl3 => ?_⟩
    have hx3 := at_new (u := .lst [.bl false, .bl false]) hx2 hl3
    refine ⟨_, rfl, _, _, false, _, rfl, hx3, (fun _ r => r), k8, _, rfl, _, _, false, _, rfl, hx3, (fun _ r => r), k9, by show 2 ≤ sizeLine; decide, fun l4 hl4 => ?_⟩
    have hx4 := at_new (u := .lst [.bl false, .bl false]) hx3 hl4
    have e1 := at_new (u := .lst [.bl false, .bl false]) (at_new (u := .lst [.bl false, .bl false]) (at_new (u := .lst [.bl false, .bl false]) (upd_same (H := H) (a := l1) (o := .lst [.bl false, .bl true, .bl false, .bl false])) hl2) hl3) hl4
    have e2 := at_new (u := .lst [.bl false, .bl false]) (at_new (u := .lst [.bl false, .bl false]) (upd_same (H := upd H l1 (.lst [.bl false, .bl true, .bl false, .bl false])) (a := l2) (o := .lst [.bl false, .bl false])) hl3) hl4
    have e3 := at_new (u := .lst [.bl false, .bl false]) (upd_same (H := upd (upd H l1 (.lst [.bl false, .bl true, .bl false, .bl false])) l2 (.lst [.bl false, .bl false])) (a := l3) (o := .lst [.bl false, .bl false])) hl4
    have e4 := upd_same (H := upd (upd (upd H l1 (.lst [.bl false, .bl true, .bl false, .bl false])) l2 (.lst [.bl false, .bl false])) l3 (.lst [.bl false, .bl false])) (a := l4) (o := .lst [.bl false, .bl false])
    have s4 := (((Same.new (o := .lst [.bl false, .bl true, .bl false, .bl false]) hl1).trans (Same.new (o := .lst [.bl false, .bl false]) hl2)).trans (Same.new (o := .lst [.bl false, .bl false]) hl3)).trans (Same.new (o := .lst [.bl false, .bl false]) hl4)
    generalize upd (upd (upd (upd H l1 (.lst [.bl false, .bl true, .bl false, .bl false])) l2 (.lst [.bl false, .bl false])) l3 (.lst [.bl false, .bl false])) l4 (.lst [.bl false, .bl false]) = H4 at hx4 e1 e2 e3 e4 s4 ⊢
    refine ⟨fun b H' => b = false ∧ Same H4 H', ?_, ?_⟩
    · refine ⟨_, rfl, _, rfl, l1, l2, _, _, rfl, rfl, e1, e2, by show 6 ≤ sizeLine; decide, fun c1 hc1 => ⟨_, rfl, c1, l3, _, _, rfl, rfl, upd_same, at_new e3 hc1, by show 8 ≤ sizeLine; decide, fun c2 hc2 => ⟨_, rfl, c2, l4, _, _, rfl, rfl, upd_same, at_new (at_new e4 hc1) hc2, by show 10 ≤ sizeLine; decide, fun c3 hc3 => ?_⟩⟩⟩
      refine ⟨.inl ⟨rfl, _, SqL.of upd_same⟩, c3, _, _, rfl, rfl, SqL.of upd_same, rfl, rfl, rfl, _, rfl, ifF rfl ?_⟩
      exact ⟨_, rfl, _, _, true, _, rfl, at_new (at_new (at_new hx4 hc1) hc2) hc3, (fun _ r => r), kv, true, rfl, rfl, ((Same.new hc1).trans (Same.new hc2)).trans (Same.new hc3)⟩
    · rintro b H' ⟨rfl, s'⟩
      refine iteF ?_
      refine ⟨_, rfl, l1, _, rfl, .inl (SqL.of (s' _ _ e1)), rfl, rfl, _, rfl, ifT rfl ?_⟩
      refine ⟨by show 4 ≤ sizeLine; decide, fun u hu => ?_⟩
      have eu := at_new (u := .tup [.str "Bare", .str "Missing", .str "Twice", .str "Held"]) (s' _ _ e1) hu
      have xu := at_new (u := .tup [.str "Bare", .str "Missing", .str "Twice", .str "Held"]) (s' _ _ hx4) hu
      refine ⟨_, rfl, .inl ⟨rfl, _, SqL.of eu⟩, l1, _, .bl true, 1, .bl true, rfl, rfl, SqL.of eu, rfl, rfl, rfl, rfl, idx_no (bs := [false, true, false, false]) rfl, u, _, _, _, rfl, rfl, SqT.of upd_same, at_of (j := 1) rfl rfl, _, rfl, rfl, T.n_Missing_table, _, _, xu, rfl, _, rfl, rfl, T.n_Missing_key, _, _, xu, rfl, _, rfl, rfl, T.n_Missing_column, _, _, xu, rfl, by show 4 ≤ sizeLine; decide, fun t ht => ?_⟩
      exact k _ t (((s4.trans s').trans (Same.new hu)).trans (Same.new ht)) upd_same
  · obtain ⟨kq, kv⟩ := T.q_Twice
    have k0 := kq ("Bare", false) (List.mem_of_getElem? (i := 0) rfl)
    have k1 := kq ("Missing", false) (List.mem_of_getElem? (i := 1) rfl)
    have k2 := kq ("Twice", true) (List.mem_of_getElem? (i := 2) rfl)
    have k3 := kq ("Held", false) (List.mem_of_getElem? (i := 3) rfl)
    have k4 := kq ("NoColumn", false) (List.mem_of_getElem? (i := 4) rfl)
    have k5 := kq ("BadWorth", false) (List.mem_of_getElem? (i := 5) rfl)
    have k6 := kq ("Taken", false) (List.mem_of_getElem? (i := 6) rfl)
    have k7 := kq ("NoRow", false) (List.mem_of_getElem? (i := 7) rfl)
    have k8 := kq ("NoTable", false) (List.mem_of_getElem? (i := 8) rfl)
    have k9 := kq ("BadKey", false) (List.mem_of_getElem? (i := 9) rfl)
    refine ⟨_, rfl, _, _, false, _, rfl, hx, (fun _ r => r), k0, _, rfl, _, _, false, _, rfl, hx, (fun _ r => r), k1, _, rfl, _, _, true, _, rfl, hx, (fun _ r => r), k2, _, rfl, _, _, false, _, rfl, hx, (fun _ r => r), k3, by show 4 ≤ sizeLine; decide, fun l1 hl1 => ?_⟩
    have hx1 := at_new (u := .lst [.bl false, .bl false, .bl true, .bl false]) hx hl1
    refine ⟨_, rfl, _, _, false, _, rfl, hx1, (fun _ r => r), k4, _, rfl, _, _, false, _, rfl, hx1, (fun _ r => r), k5, by show 2 ≤ sizeLine; decide, fun l2 hl2 => ?_⟩
    have hx2 := at_new (u := .lst [.bl false, .bl false]) hx1 hl2
    refine ⟨_, rfl, _, _, false, _, rfl, hx2, (fun _ r => r), k6, _, rfl, _, _, false, _, rfl, hx2, (fun _ r => r), k7, by show 2 ≤ sizeLine; decide, fun l3 hl3 => ?_⟩
    have hx3 := at_new (u := .lst [.bl false, .bl false]) hx2 hl3
    refine ⟨_, rfl, _, _, false, _, rfl, hx3, (fun _ r => r), k8, _, rfl, _, _, false, _, rfl, hx3, (fun _ r => r), k9, by show 2 ≤ sizeLine; decide, fun l4 hl4 => ?_⟩
    have hx4 := at_new (u := .lst [.bl false, .bl false]) hx3 hl4
    have e1 := at_new (u := .lst [.bl false, .bl false]) (at_new (u := .lst [.bl false, .bl false]) (at_new (u := .lst [.bl false, .bl false]) (upd_same (H := H) (a := l1) (o := .lst [.bl false, .bl false, .bl true, .bl false])) hl2) hl3) hl4
    have e2 := at_new (u := .lst [.bl false, .bl false]) (at_new (u := .lst [.bl false, .bl false]) (upd_same (H := upd H l1 (.lst [.bl false, .bl false, .bl true, .bl false])) (a := l2) (o := .lst [.bl false, .bl false])) hl3) hl4
    have e3 := at_new (u := .lst [.bl false, .bl false]) (upd_same (H := upd (upd H l1 (.lst [.bl false, .bl false, .bl true, .bl false])) l2 (.lst [.bl false, .bl false])) (a := l3) (o := .lst [.bl false, .bl false])) hl4
    have e4 := upd_same (H := upd (upd (upd H l1 (.lst [.bl false, .bl false, .bl true, .bl false])) l2 (.lst [.bl false, .bl false])) l3 (.lst [.bl false, .bl false])) (a := l4) (o := .lst [.bl false, .bl false])
    have s4 := (((Same.new (o := .lst [.bl false, .bl false, .bl true, .bl false]) hl1).trans (Same.new (o := .lst [.bl false, .bl false]) hl2)).trans (Same.new (o := .lst [.bl false, .bl false]) hl3)).trans (Same.new (o := .lst [.bl false, .bl false]) hl4)
    generalize upd (upd (upd (upd H l1 (.lst [.bl false, .bl false, .bl true, .bl false])) l2 (.lst [.bl false, .bl false])) l3 (.lst [.bl false, .bl false])) l4 (.lst [.bl false, .bl false]) = H4 at hx4 e1 e2 e3 e4 s4 ⊢
    refine ⟨fun b H' => b = false ∧ Same H4 H', ?_, ?_⟩
    · refine ⟨_, rfl, _, rfl, l1, l2, _, _, rfl, rfl, e1, e2, by show 6 ≤ sizeLine; decide, fun c1 hc1 => ⟨_, rfl, c1, l3, _, _, rfl, rfl, upd_same, at_new e3 hc1, by show 8 ≤ sizeLine; decide, fun c2 hc2 => ⟨_, rfl, c2, l4, _, _, rfl, rfl, upd_same, at_new (at_new e4 hc1) hc2, by show 10 ≤ sizeLine; decide, fun c3 hc3 => ?_⟩⟩⟩
      refine ⟨.inl ⟨rfl, _, SqL.of upd_same⟩, c3, _, _, rfl, rfl, SqL.of upd_same, rfl, rfl, rfl, _, rfl, ifF rfl ?_⟩
      exact ⟨_, rfl, _, _, true, _, rfl, at_new (at_new (at_new hx4 hc1) hc2) hc3, (fun _ r => r), kv, true, rfl, rfl, ((Same.new hc1).trans (Same.new hc2)).trans (Same.new hc3)⟩
    · rintro b H' ⟨rfl, s'⟩
      refine iteF ?_
      refine ⟨_, rfl, l1, _, rfl, .inl (SqL.of (s' _ _ e1)), rfl, rfl, _, rfl, ifT rfl ?_⟩
      refine ⟨by show 4 ≤ sizeLine; decide, fun u hu => ?_⟩
      have eu := at_new (u := .tup [.str "Bare", .str "Missing", .str "Twice", .str "Held"]) (s' _ _ e1) hu
      have xu := at_new (u := .tup [.str "Bare", .str "Missing", .str "Twice", .str "Held"]) (s' _ _ hx4) hu
      refine ⟨_, rfl, .inl ⟨rfl, _, SqL.of eu⟩, l1, _, .bl true, 2, .bl true, rfl, rfl, SqL.of eu, rfl, rfl, rfl, rfl, idx_no (bs := [false, false, true, false]) rfl, u, _, _, _, rfl, rfl, SqT.of upd_same, at_of (j := 2) rfl rfl, _, rfl, rfl, T.n_Twice_table, _, _, xu, rfl, _, rfl, rfl, T.n_Twice_key, _, _, xu, rfl, _, rfl, rfl, T.n_Twice_column, _, _, xu, rfl, by show 4 ≤ sizeLine; decide, fun t ht => ?_⟩
      exact k _ t (((s4.trans s').trans (Same.new hu)).trans (Same.new ht)) upd_same
  · obtain ⟨kq, kv⟩ := T.q_Held
    have k0 := kq ("Bare", false) (List.mem_of_getElem? (i := 0) rfl)
    have k1 := kq ("Missing", false) (List.mem_of_getElem? (i := 1) rfl)
    have k2 := kq ("Twice", false) (List.mem_of_getElem? (i := 2) rfl)
    have k3 := kq ("Held", true) (List.mem_of_getElem? (i := 3) rfl)
    have k4 := kq ("NoColumn", false) (List.mem_of_getElem? (i := 4) rfl)
    have k5 := kq ("BadWorth", false) (List.mem_of_getElem? (i := 5) rfl)
    have k6 := kq ("Taken", false) (List.mem_of_getElem? (i := 6) rfl)
    have k7 := kq ("NoRow", false) (List.mem_of_getElem? (i := 7) rfl)
    have k8 := kq ("NoTable", false) (List.mem_of_getElem? (i := 8) rfl)
    have k9 := kq ("BadKey", false) (List.mem_of_getElem? (i := 9) rfl)
    refine ⟨_, rfl, _, _, false, _, rfl, hx, (fun _ r => r), k0, _, rfl, _, _, false, _, rfl, hx, (fun _ r => r), k1, _, rfl, _, _, false, _, rfl, hx, (fun _ r => r), k2, _, rfl, _, _, true, _, rfl, hx, (fun _ r => r), k3, by show 4 ≤ sizeLine; decide, fun l1 hl1 => ?_⟩
    have hx1 := at_new (u := .lst [.bl false, .bl false, .bl false, .bl true]) hx hl1
    refine ⟨_, rfl, _, _, false, _, rfl, hx1, (fun _ r => r), k4, _, rfl, _, _, false, _, rfl, hx1, (fun _ r => r), k5, by show 2 ≤ sizeLine; decide, fun l2 hl2 => ?_⟩
    have hx2 := at_new (u := .lst [.bl false, .bl false]) hx1 hl2
    refine ⟨_, rfl, _, _, false, _, rfl, hx2, (fun _ r => r), k6, _, rfl, _, _, false, _, rfl, hx2, (fun _ r => r), k7, by show 2 ≤ sizeLine; decide, fun l3 hl3 => ?_⟩
    have hx3 := at_new (u := .lst [.bl false, .bl false]) hx2 hl3
    refine ⟨_, rfl, _, _, false, _, rfl, hx3, (fun _ r => r), k8, _, rfl, _, _, false, _, rfl, hx3, (fun _ r => r), k9, by show 2 ≤ sizeLine; decide, fun l4 hl4 => ?_⟩
    have hx4 := at_new (u := .lst [.bl false, .bl false]) hx3 hl4
    have e1 := at_new (u := .lst [.bl false, .bl false]) (at_new (u := .lst [.bl false, .bl false]) (at_new (u := .lst [.bl false, .bl false]) (upd_same (H := H) (a := l1) (o := .lst [.bl false, .bl false, .bl false, .bl true])) hl2) hl3) hl4
    have e2 := at_new (u := .lst [.bl false, .bl false]) (at_new (u := .lst [.bl false, .bl false]) (upd_same (H := upd H l1 (.lst [.bl false, .bl false, .bl false, .bl true])) (a := l2) (o := .lst [.bl false, .bl false])) hl3) hl4
    have e3 := at_new (u := .lst [.bl false, .bl false]) (upd_same (H := upd (upd H l1 (.lst [.bl false, .bl false, .bl false, .bl true])) l2 (.lst [.bl false, .bl false])) (a := l3) (o := .lst [.bl false, .bl false])) hl4
    have e4 := upd_same (H := upd (upd (upd H l1 (.lst [.bl false, .bl false, .bl false, .bl true])) l2 (.lst [.bl false, .bl false])) l3 (.lst [.bl false, .bl false])) (a := l4) (o := .lst [.bl false, .bl false])
    have s4 := (((Same.new (o := .lst [.bl false, .bl false, .bl false, .bl true]) hl1).trans (Same.new (o := .lst [.bl false, .bl false]) hl2)).trans (Same.new (o := .lst [.bl false, .bl false]) hl3)).trans (Same.new (o := .lst [.bl false, .bl false]) hl4)
    generalize upd (upd (upd (upd H l1 (.lst [.bl false, .bl false, .bl false, .bl true])) l2 (.lst [.bl false, .bl false])) l3 (.lst [.bl false, .bl false])) l4 (.lst [.bl false, .bl false]) = H4 at hx4 e1 e2 e3 e4 s4 ⊢
    refine ⟨fun b H' => b = false ∧ Same H4 H', ?_, ?_⟩
    · refine ⟨_, rfl, _, rfl, l1, l2, _, _, rfl, rfl, e1, e2, by show 6 ≤ sizeLine; decide, fun c1 hc1 => ⟨_, rfl, c1, l3, _, _, rfl, rfl, upd_same, at_new e3 hc1, by show 8 ≤ sizeLine; decide, fun c2 hc2 => ⟨_, rfl, c2, l4, _, _, rfl, rfl, upd_same, at_new (at_new e4 hc1) hc2, by show 10 ≤ sizeLine; decide, fun c3 hc3 => ?_⟩⟩⟩
      refine ⟨.inl ⟨rfl, _, SqL.of upd_same⟩, c3, _, _, rfl, rfl, SqL.of upd_same, rfl, rfl, rfl, _, rfl, ifF rfl ?_⟩
      exact ⟨_, rfl, _, _, true, _, rfl, at_new (at_new (at_new hx4 hc1) hc2) hc3, (fun _ r => r), kv, true, rfl, rfl, ((Same.new hc1).trans (Same.new hc2)).trans (Same.new hc3)⟩
    · rintro b H' ⟨rfl, s'⟩
      refine iteF ?_
      refine ⟨_, rfl, l1, _, rfl, .inl (SqL.of (s' _ _ e1)), rfl, rfl, _, rfl, ifT rfl ?_⟩
      refine ⟨by show 4 ≤ sizeLine; decide, fun u hu => ?_⟩
      have eu := at_new (u := .tup [.str "Bare", .str "Missing", .str "Twice", .str "Held"]) (s' _ _ e1) hu
      have xu := at_new (u := .tup [.str "Bare", .str "Missing", .str "Twice", .str "Held"]) (s' _ _ hx4) hu
      refine ⟨_, rfl, .inl ⟨rfl, _, SqL.of eu⟩, l1, _, .bl true, 3, .bl true, rfl, rfl, SqL.of eu, rfl, rfl, rfl, rfl, idx_no (bs := [false, false, false, true]) rfl, u, _, _, _, rfl, rfl, SqT.of upd_same, at_of (j := 3) rfl rfl, _, rfl, rfl, T.n_Held_table, _, _, xu, rfl, _, rfl, rfl, T.n_Held_key, _, _, xu, rfl, _, rfl, rfl, T.n_Held_column, _, _, xu, rfl, by show 4 ≤ sizeLine; decide, fun t ht => ?_⟩
      exact k _ t (((s4.trans s').trans (Same.new hu)).trans (Same.new ht)) upd_same
end
end K16

/-! K16F: schemas made -/
namespace K16
open PySem PySem.Spec PyProof.Rows L2 He
theorem lk_name (c : Col) : (colF c).lookup ("name" : Str) = some (V.str c.nm) := rfl
theorem lk_kind (c : Col) : (colF c).lookup ("kind" : Str) = some (V.str c.kd) := rfl
theorem lk_empty (c : Col) : (colF c).lookup ("empty" : Str) = some (V.bl c.bare) := rfl
theorem lk_once (c : Col) : (colF c).lookup ("once" : Str) = some (V.bl c.lone) := rfl
theorem lk_to (c : Col) : (colF c).lookup ("to" : Str) = some c.goal := rfl
section
variable {P : Program} {w : World} {K : Fr} {mg : Str → Option Value} {base : Heap}
theorem col_at {H : Hp} {as : List Addr} {cs : Cols} {i : Nat} {x : V} (pc : Paired (ColI K H) as cs) (h : (as.map V.ref)[i]? = some x) : ∃ a c dx, x = .ref a ∧ cs[i]? = some c ∧ H a = some (.ins (CC K) dx (colF c)) := by
  obtain ⟨a, ha, rfl⟩ := map_at h
  obtain ⟨c, hc, dx, z⟩ := pAt pc ha
  exact ⟨a, c, dx, rfl, hc, z⟩
def spForm (K : Fr) : Sp := fun vs H Q _ => ∃ (p wp : Addr) (ws : List Str) (cs : Cols), vs = [.ref p, .ref wp] ∧ ColsI K H p cs ∧ H wp = some (.lst (ws.map V.str)) ∧ ColsOk ws cs ∧ ∀ H', Same H H' → Q (.bl false) H'
theorem sc_form_amiss : FnScope n_form_amiss p_form_amiss (defScope s_form_amiss) := ⟨rfl, rfl, rfl, by decide +kernel, rfl, by decide +kernel, by decide +kernel⟩
theorem ok_form_amiss (T : Txt K mg w) (F : ∃ fd, FnT K "form_amiss" "form_amiss" s_form_amiss [] (a_form_amiss K) fd) : OkD P w K mg base CX0 1 (a_form_amiss K) p_form_amiss (spForm K) := by
  refine okD F sc_form_amiss (fun _ _ _ _ _ _ us hl => match us, hl with | [_, _], _ => rfl) (fun vs H Q E h => ?_) (fun cdv A outer s H vs Q E hr h => ?_)
  · obtain ⟨p, wp, ws, cs, rfl, _⟩ := h
    rfl
  · obtain ⟨p, wp, ws, cs, rfl, ⟨as, hp, pc⟩, hw, co, k⟩ := h
    obtain ⟨tL, hMOST_COLUMNS⟩ := T.i_MOST_COLUMNS
    have ln : as.length = cs.length := pc.length
    have few := co.few
    refine ⟨_, (pss_cons (ps_setLc (i := 2) (own := [("column", 3)]) (g := (gName 3)) (tt := tYes) rfl sc_form_amiss.nd rfl rfl (sw_true rfl rfl rfl (by decide +kernel)) (pi_list (pv 0)) (blkOk_by (own := [("column", 3)]) (N := n_form_amiss) (sc := defScope s_form_amiss) (by decide +kernel)) (fun _ _ _ _ _ => (pg_name (i := 3) sc_form_amiss.nd rfl (Or.inl rfl))) (fun _ _ _ _ _ => pts_nil) (fun _ _ _ _ _ => (show PE _ _ (tFld K _ _) from (pe_fld (pv 3) rfl))))
      (pss_cons (ps_if (pt_mid (PW.pt (pw_or (pt_not (pt_chain op_le op_le pe_int (pe_callB call_len_seq (by rfl) T.z_len (by decide +kernel) (pa_cons (pv 0) pa_nil)) (pe_glob rfl hMOST_COLUMNS (gint _ _)))) (pw_or1 (pt_cmpR op_lt (pe_lenSetN rfl (by rfl) T.z_len (by rfl) T.z_set (pv 2)) (pe_callB call_len_seq (by rfl) T.z_len (by decide +kernel) (pa_cons (pv 2) pa_nil)) (nomark _)))))) (pss_one (ps_ret pe_bl)) pss_nil)
      (pss_one (ps_ret (pe_callB (cr_any rfl) (by rfl) T.z_any (by decide +kernel) (pa_cons (pe_lc (own := [("column", 3)]) (g := (gName 3)) (tt := tYes) rfl sc_form_amiss.nd (pi_list (pv 0)) (blkOk_by (own := [("column", 3)]) (N := n_form_amiss) (sc := defScope s_form_amiss) (by decide +kernel)) (fun _ _ _ _ _ => (pg_name (i := 3) sc_form_amiss.nd rfl (Or.inl rfl))) (fun _ _ _ _ _ => pts_nil) (fun _ _ _ _ _ => (pe_and (pe_cmpR op_notN (show PE _ _ (tFld K _ _) from (pe_fld (pv 3) rfl)) pe_non (nomark _)) (pe_one (pe_cmpR (show OpR _ (compareOp .NotIn) (rIn K true) from op_notIn_seq) (show PE _ _ (tFld K _ _) from (pe_fld (pv 3) rfl)) (pv 1) (by rfl)))))) pa_nil)))))), ?_⟩
    refine ⟨_, rfl, p, rfl, ⟨_, SqL.of hp⟩, fun D hD => ?_⟩
    refine lc_map (walk_list (xs := as.map V.ref)) ((cs.map (·.nm)).map V.str) (by simp [ln]) (by rw [List.length_map]; omega) hD (fun H s => SqL.of (s _ _ hp)) ?_ ?_
    · rintro i z x H1 H' Nx Ad hz s1 ⟨rfl, hx⟩ q
      obtain ⟨a, c, dx, rfl, hc, ha⟩ := col_at pc hx
      obtain ⟨y, hy, rfl⟩ := map_at hz
      obtain ⟨c2, hc2, rfl⟩ := map_at hy
      rw [hc] at hc2
      cases hc2
      exact ⟨rfl, _, rfl, a, _, dx, _, _, rfl, s1 _ _ ha, T.c_Column, T.n_Column_name, lk_name c, q _ (Same.refl _)⟩
    · intro H1 s1 hD1
      have hp1 := s1 _ _ hp
      refine ⟨fun b H2 => b = false ∧ H2 = H1, ?_, ?_⟩
      · refine ⟨_, rfl, p, _, rfl, .inl (SqL.of hp1), 1, _, rfl, rfl, _, rfl, ifT (decide_eq_true (by rw [List.length_map]; omega)) ⟨_, 5, rfl, rfl, _, rfl, ?_⟩⟩
        rw [decide_eq_true (show ((as.map V.ref).length : Int) ≤ 5 by rw [List.length_map]; omega)]
        refine iteF ⟨_, rfl, D, _, rfl, SqL.of hD1, co.nd, by rw [List.length_map]; omega, _, rfl, D, _, rfl, .inl (SqL.of hD1), _, _, rfl, rfl, _, rfl, ?_⟩
        refine ⟨decide_eq_false ?_, rfl⟩
        rw [List.length_map, List.length_map, List.length_map]
        omega
      · rintro b H2 ⟨rfl, rfl⟩
        refine iteF ?_
        refine ⟨_, rfl, p, rfl, ⟨_, SqL.of hp1⟩, fun D2 hD2 => ?_⟩
        refine lc_map (walk_list (xs := as.map V.ref)) ((cs.map fun _ => false).map V.bl) (by simp [ln]) (by rw [List.length_map]; omega) hD2 (fun H s => SqL.of (s _ _ hp1)) ?_ ?_
        · rintro i z x H3 H' Nx Ad hz s3 ⟨rfl, hx⟩ q
          obtain ⟨a, c, dx, rfl, hc, ha⟩ := col_at pc hx
          obtain ⟨y, hy, rfl⟩ := map_at hz
          obtain ⟨c2, hc2, rfl⟩ := map_at hy
          have ha3 := s3 _ _ (s1 _ _ ha)
          refine ⟨rfl, _, rfl, a, _, dx, _, _, rfl, ha3, T.c_Column, T.n_Column_to, lk_to c, rfl, _, rfl, ?_⟩
          rcases (co.ok c (List.mem_of_getElem? hc)).goal with ⟨_, g, hg, hgw⟩ | ⟨_, hg⟩
          · rw [hg]
            refine iteT ⟨_, rfl, a, _, dx, _, _, rfl, ha3, T.c_Column, T.n_Column_to, lk_to c, _, rfl, wp, _, rfl, .inl (SqL.of (s3 _ _ (s1 _ _ hw))), ?_, flat_strs ws, ?_⟩
            · rw [hg]
              rfl
            · rw [hg, inV_strs, decide_eq_true hgw]
              exact q _ (Same.refl _)
          · rw [hg]
            exact iteF (q _ (Same.refl _))
        · intro H3 s3 hD3
          refine ⟨D2, _, rfl, SqL.of hD3, ?_⟩
          have e : (cs.map fun _ => false).any id = false := by simp
          rw [e]
          exact k _ (s1.trans s3)
end
end K16

/-! K16G: Schema -/
namespace K16
open PySem PySem.Spec PyProof.Rows L2 He
section
variable {P : Program} {w : World} {K : Fr} {mg : Str → Option Value} {base : Heap}
def TabI (K : Fr) (H : Hp) (a : Addr) (e : Str × Cols) : Prop := ∃ q, H a = some (.tup [.str e.1, .ref q]) ∧ ColsI K H q e.2
def MadeL (K : Fr) (H : Hp) (p : Addr) (d : Desc) : Prop := ∃ as, H p = some (.lst (as.map V.ref)) ∧ Paired (TabI K H) as d
theorem tab_at {H : Hp} {as : List Addr} {d : Desc} {i : Nat} {x : V} (pc : Paired (TabI K H) as d) (h : (as.map V.ref)[i]? = some x) : ∃ a e q, x = .ref a ∧ d[i]? = some e ∧ H a = some (.tup [.str e.1, .ref q]) ∧ ColsI K H q e.2 := by
  obtain ⟨a, ha, rfl⟩ := map_at h
  obtain ⟨c, hc, q, z⟩ := pAt pc ha
  exact ⟨a, c, q, rfl, hc, z⟩
theorem cutV_take {xs : List V} (i : Nat) : cutV xs none (some (i : Int)) = xs.take i := by
  show (xs.drop 0).take (HT.sIx xs.length xs.length (some ((i : Nat) : Int)) - 0) = _
  rw [HT.sIx_nat, List.drop_zero, Nat.sub_zero]
  by_cases h : i ≤ xs.length
  · rw [Nat.min_eq_left h]
  · rw [Nat.min_eq_right (by omega), List.take_of_length_le (Nat.le_refl _), List.take_of_length_le (by omega)]
theorem formKV_keys {d : Desc} {ps : List Addr} (h : ps.length = d.length) : (formKV d ps).map (·.1) = d.map fun e => (.inr e.1 : Key) := by
  unfold formKV
  rw [List.map_map]
  have e : (d.zip ps).map Prod.fst = d := by rw [List.map_fst_zip]; omega
  conv => rhs; rw [← e]
  rw [List.map_map]
  rfl
theorem formKV_snoc {d : Desc} {ps : List Addr} {e : Str × Cols} {l : Addr} (h : ps.length = d.length) : formKV (d ++ [e]) (ps ++ [l]) = formKV d ps ++ [(.inr e.1, .ref l)] := by
  unfold formKV
  rw [List.zip_append h.symm, List.map_append]
  rfl
theorem ColsI.wr {H : Hp} {p D : Addr} {cs : Cols} {o v : HO} (h : ColsI K H p cs) (hd : H D = some o) (n1 : ∀ xs, HO.lst xs ≠ o) (n2 : ∀ dx c, HO.ins (CC K) dx (colF c) ≠ o) : ColsI K (upd H D v) p cs := by
  obtain ⟨as, h1, h2⟩ := h
  refine ⟨as, upd_at h1 hd (n1 _), pMap h2 fun a c z => ?_⟩
  obtain ⟨dx, z⟩ := z
  exact ⟨dx, upd_at z hd (n2 _ _)⟩
def spSchAmiss (K : Fr) : Sp := fun vs H Q _ => ∃ (p : Addr) (d : Desc), vs = [.ref p] ∧ MadeL K H p d ∧ DescOk d ∧ ∀ H' t, Same H H' → H' t = some (.tup []) → Q (.ref t) H'
theorem sc_schema_amiss : FnScope n_schema_amiss p_schema_amiss (defScope s_schema_amiss) := ⟨rfl, rfl, rfl, by decide +kernel, rfl, by decide +kernel, by decide +kernel⟩
theorem ok_schema_amiss (T : Txt K mg w) (O_is_word : OkD P w K mg base CX0 2 (a_is_word K) p_is_word spWord) (O_form_amiss : OkD P w K mg base CX0 1 (a_form_amiss K) p_form_amiss (spForm K))
    (F : ∃ fd, FnT K "schema_amiss" "schema_amiss" s_schema_amiss [] (a_schema_amiss K) fd) : OkD P w K mg base CX0 3 (a_schema_amiss K) p_schema_amiss (spSchAmiss K) := by
  refine okD F sc_schema_amiss (fun _ _ _ _ _ _ us hl => match us, hl with | [_], _ => rfl) (fun vs H Q E h => ?_) (fun cdv A outer s H vs Q E hr h => ?_)
  · obtain ⟨p, d, rfl, _⟩ := h
    rfl
  · obtain ⟨p, d, rfl, ⟨as, hp, pc⟩, dok, k⟩ := h
    obtain ⟨tL, hMOST_TABLES⟩ := T.i_MOST_TABLES
    have ln : as.length = d.length := pc.length
    have few := dok.few
    refine ⟨_, (pss_cons (ps_if (pt_not (pt_chain op_le op_le pe_int (pe_callB call_len_seq (by rfl) T.z_len (by decide +kernel) (pa_cons (pv 0) pa_nil)) (pe_glob rfl hMOST_TABLES (gint _ _)))) (pss_one (ps_ret (pe_tup (pa_cons pe_str pa_nil)))) pss_nil)
      (pss_cons (ps_setLc (i := 1) (own := [("word", 3), ("columns", 4)]) (g := (gTup K 2 (gCons (gName 3) (gCons (gName 4) gNil)))) (tt := tYes) rfl sc_schema_amiss.nd rfl rfl (sw_true rfl rfl rfl (by decide +kernel)) (pi_list (pv 0)) (blkOk_by (own := [("word", 3), ("columns", 4)]) (N := n_schema_amiss) (sc := defScope s_schema_amiss) (by decide +kernel)) (fun _ _ _ _ _ => (pg_tup rfl (pgs_cons (pg_name (i := 3) sc_schema_amiss.nd rfl (Or.inl rfl)) (pgs_cons (pg_name (i := 4) sc_schema_amiss.nd rfl (Or.inl rfl)) pgs_nil)))) (fun _ _ _ _ _ => pts_nil) (fun _ _ _ _ _ => (pv 3)))
      (pss_cons (ps_for PassesOwn.never rfl (pi_enum (by rfl) T.z_enumerate (pa_cons (pv 0) pa_nil)) (pg_tup rfl (pgs_cons (pg_name (i := 2) sc_schema_amiss.nd rfl (Or.inl rfl)) (pgs_cons (pg_tup rfl (pgs_cons (pg_name (i := 3) sc_schema_amiss.nd rfl (Or.inl rfl)) (pgs_cons (pg_name (i := 4) sc_schema_amiss.nd rfl (Or.inl rfl)) pgs_nil))) pgs_nil))) (pss_one (ps_if (pt_mid (PW.pt (pw_or (pt_not (pt_val (pe_own O_is_word (hr.mono (by decide)) T.g_is_word (pa_cons (pv 3) pa_nil)))) (pw_or (pt_cmpR op_in_seq (pv 3) (pe_slice sl_list (pv 1) po_none (po_some (pv 2))) (by rfl)) (pw_or1 (pt_val (pe_own O_form_amiss (hr.mono (by decide)) T.g_form_amiss (pa_cons (pv 4) (pa_cons (pv 1) pa_nil))))))))) (pss_one (ps_ret (pe_tup (pa_cons (pv 3) pa_nil)))) pss_nil)))
      (pss_one (ps_ret (pe_tup pa_nil)))))), ?_⟩
    refine ⟨_, rfl, p, _, rfl, .inl (SqL.of hp), 1, _, rfl, rfl, _, rfl, ifT (decide_eq_true (by rw [List.length_map]; omega)) ⟨_, 4, rfl, rfl, _, rfl, ?_⟩⟩
    rw [decide_eq_true (show ((as.map V.ref).length : Int) ≤ 4 by rw [List.length_map]; omega)]
    refine iteF ⟨_, rfl, p, rfl, ⟨_, SqL.of hp⟩, fun D hD => ?_⟩
    refine lc_map (walk_list (xs := as.map V.ref)) ((d.map (·.1)).map V.str) (by simp [ln]) (by rw [List.length_map]; omega) hD (fun H s => SqL.of (s _ _ hp)) ?_ ?_
    · rintro i z x H1 H' Nx Ad hz s1 ⟨rfl, hx⟩ q
      obtain ⟨a, e, cp, rfl, he, ha, hc⟩ := tab_at pc hx
      obtain ⟨y, hy, rfl⟩ := map_at hz
      obtain ⟨e2, he2, rfl⟩ := map_at hy
      rw [he] at he2
      cases he2
      exact ⟨a, _, rfl, SqT.of (s1 _ _ ha), rfl, _, _, rfl, _, _, rfl, rfl, rfl, _, rfl, q _ (Same.refl _)⟩
    · intro H1 s1 hD1
      have hp1 := s1 _ _ hp
      refine ⟨_, rfl, p, _, rfl, SqL.of hp1, ?_⟩
      refine for_it (walk_enum (xs := as.map V.ref)) (fun i σ H2 => ∃ v2 v3 v4, σ = [some (.ref p), some (.ref D), v2, v3, v4] ∧ Same H1 H2) ⟨none, none, none, rfl, Same.refl _⟩ (fun i σ H2 _ h => ?_) ?_ ?_
      · obtain ⟨v2, v3, v4, rfl, s2⟩ := h
        exact SqL.of (s2 _ _ hp1)
      · rintro i x σ H2 H3 hi ⟨v2, v3, v4, rfl, s2⟩ ⟨U, x1, y1, rfl, hU, rfl, ex, hy⟩
        cases ex
        obtain ⟨a, e, cp, rfl, he, ha, hc⟩ := tab_at pc hy
        have s3 : Same H1 (upd H2 U (.tup [.int (i : Nat), .ref a])) := s2.trans (Same.new hU)
        have em := List.mem_of_getElem? he
        refine ⟨U, _, rfl, SqT.of upd_same, rfl, _, _, rfl, _, _, rfl, a, _, rfl, SqT.of (s3 _ _ (s1 _ _ ha)), rfl, _, _, rfl, _, _, rfl, rfl, rfl, ?_⟩
        refine ⟨fun b H4 => b = false ∧ Same H1 H4, ?_, ?_⟩
        · refine ⟨_, rfl, e.1, rfl, dok.word e em, fun H4 s4 => ⟨true, rfl, iteF ?_⟩⟩
          have s14 := s3.trans s4
          refine ⟨_, rfl, _, rfl, _, rfl, _, rfl, D, _, rfl, SqL.of (s14 _ _ hD1), fun l hl => ?_⟩
          rw [cutV_take, ← List.map_take]
          refine ⟨l, _, rfl, .inl (SqL.of upd_same), rfl, flat_strs _, _, rfl, ?_⟩
          show if inV _ _ = true then _ else _
          rw [inV_strs]
          refine ifF (decide_eq_false fun hm => ?_) ?_
          · exact notin_take dok.nd (map_get he) hm
          · have s5 := s14.trans (Same.new (o := .lst ((List.take i (d.map (·.1))).map V.str)) hl)
            refine ⟨_, rfl, _, rfl, cp, D, d.map (·.1), e.2, rfl, ColsI.keep hc (.of_same (s1.trans s5)), s5 _ _ hD1, dok.ok e em, fun H6 s6 => ⟨false, rfl, rfl, s5.trans s6⟩⟩
        · rintro b H4 ⟨rfl, s4⟩
          exact iteF ⟨_, _, _, rfl, s4⟩
      · rintro σ H2 ⟨v2, v3, v4, rfl, s2⟩
        exact ⟨Nat.zero_le _, fun t ht => k _ t ((s1.trans s2).trans (Same.new ht)) upd_same⟩
def spSchInit (K : Fr) : Sp := fun vs H Q _ => ∃ (x dx p : Addr) (d : Desc), vs = [.ref x, .ref p] ∧ H x = some (.ins (CS K) dx []) ∧ MadeL K H p d ∧ DescOk d ∧
  ∀ H1 o, Same H H1 → SchI K (upd H1 x o) x d → Q .non (upd H1 x o)
theorem sc_Schema_init : FnScope n_Schema_init p_Schema_init (defScope s_Schema_init) := ⟨rfl, rfl, rfl, by decide +kernel, rfl, by decide +kernel, by decide +kernel⟩
theorem ok_Schema_init (T : Txt K mg w) (O_schema_amiss : OkD P w K mg base CX0 3 (a_schema_amiss K) p_schema_amiss (spSchAmiss K)) {fd : FuncData} (F : FnT K "__init__" "Schema.__init__" s_Schema_init [] (a_Schema_init K) fd) :
    FnOk P w K mg base CX0 4 (a_Schema_init K) fd p_Schema_init (spSchInit K) := by
  refine F.ok sc_Schema_init (fun vs H Q E h => ?_) fun cdv A outer s H vs Q E hr h => ?_
  · obtain ⟨x, dx, p, d, rfl, _⟩ := h
    rfl
  · obtain ⟨x, dx, p, d, rfl, hx, hp, dok, k⟩ := h
    suffices z : ∃ t, PSs (cxOf CX0 P w K mg base n_Schema_init "Schema.__init__" (defScope s_Schema_init) (a_Schema_init K) cdv A outer s H E).nox (defBody s_Schema_init) t ∧ t { nx := fun _ H' => Q .non H', rt := Q } (L2.start n_Schema_init _) H by
      obtain ⟨t, z1, z2⟩ := z
      exact ⟨t, z1.nox, z2⟩
    refine ⟨_, (pss_cons (ps_set (i := 2) sc_Schema_init.nd rfl (Or.inl rfl) (pe_own O_schema_amiss (hr.mono (by decide)) T.g_schema_amiss (pa_cons (pv 1) pa_nil)))
      (pss_cons (ps_if (pt_cmpR (op_neD hr.units) (pv 2) (pe_tup pa_nil) (nomark _)) (pss_one ps_never) pss_nil)
      (pss_one (ps_fld (pv 0) (pe_dc (own := [("word", 3), ("columns", 4)]) (g := (gTup K 2 (gCons (gName 3) (gCons (gName 4) gNil)))) (tt := tYes) rfl sc_Schema_init.nd (pi_list (pv 1)) (blkOk_by (own := [("word", 3), ("columns", 4)]) (N := n_Schema_init) (sc := defScope s_Schema_init) (by decide +kernel)) (fun _ _ _ _ _ => (pg_tup rfl (pgs_cons (pg_name (i := 3) sc_Schema_init.nd rfl (Or.inl rfl)) (pgs_cons (pg_name (i := 4) sc_Schema_init.nd rfl (Or.inl rfl)) pgs_nil)))) (fun _ _ _ _ _ => pts_nil) (fun _ _ _ _ _ => (pv 3)) (fun _ _ _ _ _ => (pe_callTy (show CallR _ (.type "list") (rListOf K) from call_list_of) (by rfl) T.z_list (by decide +kernel) (pa_cons (pv 4) pa_nil)))) rfl)))), ?_⟩
    have hpk := id hp
    obtain ⟨as, hp, pc⟩ := hp
    have ln : as.length = d.length := pc.length
    have few := dok.few
    refine ⟨_, rfl, p, d, rfl, hpk, dok, fun H1 t s1 ht => ?_⟩
    refine ⟨_, rfl, Nat.zero_le _, fun t2 ht2 => ?_⟩
    have s2 := s1.trans (Same.new (o := .tup []) ht2)
    refine ⟨_, _, .tup (SqT.of (at_new ht ht2)) .nil, .tup (SqT.of upd_same) .nil, rfl, rfl, _, rfl, iteF ?_⟩
    have hp2 := s2 _ _ hp
    refine ⟨_, rfl, p, rfl, ⟨_, SqL.of hp2⟩, fun D hD => ?_⟩
    generalize upd H1 t2 (HO.tup []) = H2 at hp2 s2 hD ⊢
    have pc2 : Paired (TabI K H2) as d := pMap pc fun a e z => by
      obtain ⟨q, z1, z2⟩ := z
      exact ⟨q, s2 _ _ z1, z2.keep (.of_same s2)⟩
    refine ⟨fun i m H3 => m = as.length - i ∧ i ≤ as.length ∧ Same H2 H3 ∧ ∃ ps, ps.length = i ∧ H3 D = some (.dK (formKV (d.take i) ps)) ∧ Paired (fun p (e : Str × Cols) => ColsI K H3 p e.2) ps (d.take i), ⟨_, rfl, Nat.zero_le _, Same.new hD, [], rfl, ?_, ?_⟩, ?_⟩
    · rw [upd_same]
      rfl
    · exact .nil
    · rintro i m H3 ⟨rfl, hi, s3, ps, lp, hD3, pp⟩
      have hp3 := s3 _ _ hp2
      by_cases lt : i < as.length
      · refine .inr ⟨⟨_, V.ref as[i], SqL.of hp3, by simp [lt]⟩, fun H4 => Same H2 H4 ∧ ∃ ps, ps.length = i + 1 ∧ H4 D = some (.dK (formKV (d.take (i + 1)) ps)) ∧ Paired (fun p (e : Str × Cols) => ColsI K H4 p e.2) ps (d.take (i + 1)), fun H4 z => ⟨_, by omega, rfl, lt, z⟩, ?_⟩
        rintro x1 H4 ⟨rfl, hx1⟩
        obtain ⟨a, e, cp, rfl, he, ha, hc⟩ := tab_at pc2 (hx1 _ (SqL.of hp3))
        refine ⟨a, _, rfl, SqT.of (s3 _ _ ha), rfl, _, _, rfl, _, _, rfl, rfl, rfl, _, rfl, _, rfl, cp, ?_⟩
        obtain ⟨bs, hb, pb⟩ := hc
        refine ⟨_, rfl, .inl (SqL.of (s3 _ _ hb)), fun l hl => ⟨_, .inr e.1, rfl, at_new hD3 hl, ?_, ?_⟩⟩
        · unfold formKV
          rw [List.length_map, List.length_zip, sizeLine_eq, List.length_take]
          omega
        · have s5 := (s3.trans (Same.new (o := .lst (bs.map V.ref)) hl))
          refine ⟨sWr s5 hD, ps ++ [l], by rw [List.length_append, lp]; rfl, ?_, ?_⟩
          · have lt2 : ps.length = (d.take i).length := by rw [List.length_take]; omega
            have nk : ¬ (.inr e.1 : Key) ∈ (formKV (d.take i) ps).map (·.1) := by
              rw [formKV_keys lt2]
              intro hm
              obtain ⟨e2, h2, q2⟩ := List.mem_map.mp hm
              have q3 : e2.1 = e.1 := Sum.inr.inj q2
              refine notin_take dok.nd (map_get he) ?_
              rw [← List.map_take]
              exact List.mem_map.mpr ⟨e2, h2, q3⟩
            rw [upd_same, take_snoc he, formKV_snoc lt2]
            exact congrArg (fun z => some (HO.dK z)) (putK_snoc nk)
          · rw [take_snoc he]
            have ne : l ≠ D := fun z => by
              rw [z, hD3] at hl
              cases hl
            have hDl : upd H4 l (.lst (bs.map V.ref)) D = some (.dK (formKV (d.take i) ps)) := at_new hD3 hl
            refine pSnoc (pMap pp fun q c z => (z.keep (.new hl)).wr hDl (fun _ => nofun) fun _ _ => nofun) ?_
            refine ColsI.wr (o := .dK (formKV (d.take i) ps)) ⟨bs, upd_same, pMap pb fun a c z => ?_⟩ hDl (fun _ => nofun) fun _ _ => nofun
            obtain ⟨dx, z⟩ := z
            exact ⟨dx, s5 _ _ z⟩
      · have e : i = as.length := by omega
        refine .inl ⟨⟨_, SqL.of hp3, by rw [List.length_map]; omega⟩, ?_⟩
        rw [e, ln, List.take_length] at pp hD3
        have s23 := s2.trans s3
        have hx3 := s23 _ _ hx
        refine ⟨_, rfl, x, _, dx, _, rfl, hx3, T.c_Schema, T.n_Schema_forms, by show 0 < 1000; decide, ?_⟩
        refine k H3 _ s23 ⟨dx, D, ps, upd_same, upd_at hD3 hx3 nofun, pMap pp fun q c z => z.wr hx3 (fun _ => nofun) fun dx2 c2 q => ?_⟩
        injection q with q1 q2 q3
        cases q3
end
end K16

/-! K16H: the schema asked, the schema made of a description -/
namespace K16
open PySem PySem.Spec PyProof.Rows L2 He
section
variable {P : Program} {w : World} {K : Fr} {mg : Str → Option Value} {base : Heap}
def spSWords (K : Fr) : Sp := fun vs H Q _ => ∃ (x : Addr) (d : Desc), vs = [.ref x] ∧ SchI K H x d ∧ ∀ H' l, Same H H' → H' l = some (.lst ((d.map (·.1)).map V.str)) → Q (.ref l) H'
theorem sc_Schema_words : FnScope n_Schema_words p_Schema_words (defScope s_Schema_words) := ⟨rfl, rfl, rfl, by decide +kernel, rfl, by decide +kernel, by decide +kernel⟩
theorem ok_Schema_words (T : Txt K mg w) (F : ∃ fd, FnT K "words" "Schema.words" s_Schema_words [] (a_Schema_words K) fd) : OkD P w K mg base CX0 1 (a_Schema_words K) p_Schema_words (spSWords K) := by
  refine okD F sc_Schema_words (fun _ _ _ _ _ _ us hl => match us, hl with | [_], _ => rfl) (fun vs H Q E h => ?_) (fun cdv A outer s H vs Q E hr h => ?_)
  · obtain ⟨p, d, rfl, _⟩ := h
    rfl
  · obtain ⟨x, d, rfl, ⟨dx, f, ps, h1, h2, h3⟩, k⟩ := h
    refine ⟨_, (pss_one (ps_ret (pe_callTy (call_listD rfl) (by rfl) T.z_list (by decide +kernel) (pa_cons (pe_fld (pv 0) rfl) pa_nil)))), ?_⟩
    refine ⟨_, rfl, x, _, dx, _, _, rfl, h1, T.c_Schema, T.n_Schema_forms, rfl, f, _, rfl, .inl h2, fun p hp => k _ p (Same.new hp) ?_⟩
    have ln : ps.length = d.length := h3.length
    have e := formKV_keys ln
    rw [upd_same, show (fun kv : Key × V => kV kv.1) = kV ∘ Prod.fst from rfl, ← List.map_map, e, List.map_map, List.map_map]
    rfl
theorem form_at {K : Fr} {H : Hp} {ps : List Addr} {d : Desc} {wd : Str} {cs : Cols} (h : Paired (fun p (e : Str × Cols) => ColsI K H p e.2) ps d) (nd : (d.map (·.1)).Nodup) (hm : (wd, cs) ∈ d) : ∃ p, valV (formKV d ps) (.inr wd : Key) = some (.ref p) ∧ ColsI K H p cs := by
  induction h with
  | nil => cases hm
  | @cons p e ps d h t ih =>
    rw [List.map_cons] at nd
    obtain ⟨n1, n2⟩ := List.nodup_cons.mp nd
    rcases List.mem_cons.mp hm with z | z
    · subst z
      exact ⟨p, valV_pos rfl, h⟩
    · obtain ⟨q, q1, q2⟩ := ih n2 z
      refine ⟨q, ?_, q2⟩
      rw [← q1]
      refine valV_neg fun y => n1 ?_
      have y2 : e.1 = wd := Sum.inr.inj y
      rw [y2]
      exact List.mem_map.mpr ⟨(wd, cs), z, rfl⟩
def spSCols (K : Fr) : Sp := fun vs H Q _ => ∃ (x : Addr) (d : Desc) (wd : Str) (cs : Cols), vs = [.ref x, .str wd] ∧ SchI K H x d ∧ (d.map (·.1)).Nodup ∧ (wd, cs) ∈ d ∧ ∀ H' l, Same H H' → ColsI K H' l cs → Q (.ref l) H'
theorem sc_Schema_columns : FnScope n_Schema_columns p_Schema_columns (defScope s_Schema_columns) := ⟨rfl, rfl, rfl, by decide +kernel, rfl, by decide +kernel, by decide +kernel⟩
theorem ok_Schema_columns (T : Txt K mg w) (F : ∃ fd, FnT K "columns" "Schema.columns" s_Schema_columns [] (a_Schema_columns K) fd) : OkD P w K mg base CX0 1 (a_Schema_columns K) p_Schema_columns (spSCols K) := by
  refine okD F sc_Schema_columns (fun _ _ _ _ _ _ us hl => match us, hl with | [_, _], _ => rfl) (fun vs H Q E h => ?_) (fun cdv A outer s H vs Q E hr h => ?_)
  · obtain ⟨x, d, wd, cs, rfl, _⟩ := h
    rfl
  · obtain ⟨x, d, wd, cs, rfl, ⟨dx, f, ps, h1, h2, h3⟩, nd, hm, k⟩ := h
    obtain ⟨p, hv, as, hp, pc⟩ := form_at h3 nd hm
    refine ⟨_, (pss_cons (ps_if (pt_cmp (pc_dnotin (hu_of hr) (pv 1) (pe_fld (pv 0) rfl))) (pss_one ps_never) pss_nil)
      (pss_one (ps_ret (pe_callTy call_list_of (by rfl) T.z_list (by decide +kernel) (pa_cons (pe_dget (hu_of hr) (pe_fld (pv 0) rfl) (pv 1) (fun _ _ => rfl)) pa_nil))))), ?_⟩
    refine ⟨_, rfl, _, rfl, x, _, dx, _, _, rfl, h1, T.c_Schema, T.n_Schema_forms, rfl, f, _, rfl, DGet.k (k := .inr wd) h2, _, rfl, ?_⟩
    rw [hv]
    refine iteF ⟨_, rfl, x, _, dx, _, _, rfl, h1, T.c_Schema, T.n_Schema_forms, rfl, _, rfl, f, _, rfl, (hv ▸ DGet.k (k := .inr wd) h2), p, _, rfl, .inl (SqL.of hp), fun l hl => k _ l (Same.new hl) ⟨as, upd_same, pMap pc fun a c z => ?_⟩⟩
    obtain ⟨dx, z⟩ := z
    exact ⟨dx, at_new z hl⟩
def spSTold (K : Fr) : Sp := fun vs H Q _ => ∃ (x : Addr) (d : Desc) (wd nm : Str) (cs : Cols), vs = [.ref x, .str wd, .str nm] ∧ SchI K H x d ∧ (d.map (·.1)).Nodup ∧ (wd, cs) ∈ d ∧ nm ∈ cs.map (·.nm) ∧ ∀ H' a, Same H H' → Q (.ref a) H'
theorem sc_Schema_told : FnScope n_Schema_told p_Schema_told (defScope s_Schema_told) := ⟨rfl, rfl, rfl, by decide +kernel, rfl, by decide +kernel, by decide +kernel⟩
theorem ok_Schema_told (T : Txt K mg w) (O_Schema_columns : OkD P w K mg base CX0 1 (a_Schema_columns K) p_Schema_columns (spSCols K)) (F : ∃ fd, FnT K "told" "Schema.told" s_Schema_told [] (a_Schema_told K) fd) : OkD P w K mg base CX0 2 (a_Schema_told K) p_Schema_told (spSTold K) := by
  refine okD F sc_Schema_told (fun _ _ _ _ _ _ us hl => match us, hl with | [_, _, _], _ => rfl) (fun vs H Q E h => ?_) (fun cdv A outer s H vs Q E hr h => ?_)
  · obtain ⟨x, d, wd, nm, cs, rfl, _⟩ := h
    rfl
  · obtain ⟨x, d, wd, nm, cs, rfl, hs, nd, hm, hn, k⟩ := h
    have hs' := id hs
    obtain ⟨dx, f, ps, h1, h2, h3⟩ := hs'
    refine ⟨_, (pss_cons (ps_for PassesOwn.never rfl (pi_list (pe_ownM O_Schema_columns (pv 0) T.c_Schema T.h_Schema_columns (hr.mono (by decide)) (pa_cons (pv 1) pa_nil))) (pg_name (i := 3) sc_Schema_told.nd rfl (Or.inl rfl)) (pss_one (ps_if (pt_cmpR op_eq (pe_fld (pv 3) rfl) (pv 2) (nomark _)) (pss_one (ps_ret (pv 3))) pss_nil)))
      (pss_one ps_never)), ?_⟩
    refine ⟨_, rfl, x, dx, _, rfl, h1, rfl, _, rfl, x, d, wd, cs, rfl, hs, nd, hm, fun H1 l s1 hc => ?_⟩
    obtain ⟨as, hl, pc⟩ := hc
    refine ⟨l, rfl, ⟨_, SqL.of hl⟩, ?_⟩
    refine for_list (K := K) (a := l) (xs := as.map V.ref) (fun i σ H2 => ∃ v, σ = [some (.ref x), some (.str wd), some (.str nm), v] ∧ H2 = H1 ∧ ¬ nm ∈ (cs.take i).map (·.nm)) ⟨none, rfl, rfl, nofun⟩ (fun i σ H2 _ h => ?_) ?_ ?_
    · obtain ⟨_, _, rfl, _⟩ := h
      exact SqL.of hl
    · rintro i y σ H2 hi ⟨v, rfl, rfl, no⟩
      obtain ⟨a, c, dc, rfl, hc, ha⟩ := col_at pc hi
      refine ⟨_, rfl, a, _, dc, _, _, rfl, ha, T.c_Column, T.n_Column_name, lk_name c, _, rfl, rfl, _, rfl, ?_⟩
      refine ite2 (fun e => ⟨_, rfl, k _ _ s1⟩) (fun e => ⟨_, rfl, rfl, ?_⟩)
      rw [take_snoc hc, List.map_append]
      intro z
      rcases List.mem_append.mp z with z | z
      · exact no z
      · have q : nm = c.nm := List.mem_singleton.mp z
        rw [q] at e
        exact e (eqS_t rfl)
    · rintro σ H2 ⟨v, rfl, rfl, no⟩
      rw [List.length_map, pc.length, List.take_length] at no
      exact absurd hn no
def spSchema (K : Fr) : Sp := fun vs H Q _ => ∃ (p : Addr) (d : Desc), vs = [.ref p] ∧ DescL H p d ∧ DescOk d ∧ ∀ H' x, Same H H' → SchI K H' x d → Q (.ref x) H'
def TabJ (K : Fr) (mp : Addr) (H : Hp) (a : Addr) (e : Str × Cols) : Prop := ∃ q, q ≠ mp ∧ H a = some (.tup [.str e.1, .ref q]) ∧ ColsI K H q e.2
theorem TabJ.keep {mp : Addr} {H H' : Hp} {a : Addr} {e : Str × Cols} (h : TabJ K mp H a e) (k : Keep H H') : TabJ K mp H' a e := by
  obtain ⟨p, n, h1, h2⟩ := h
  exact ⟨p, n, k.get _ _ h1 rfl, h2.keep k⟩
theorem ColsI.wrL {H : Hp} {q p : Addr} {v : HO} {xs : List V} {cs : Cols} (h : ColsI K H q cs) (e : H p = some (.lst xs)) (n : q ≠ p) : ColsI K (upd H p v) q cs := by
  obtain ⟨as, h1, h2⟩ := h
  refine ⟨as, by rw [upd_ne n]; exact h1, pMap h2 fun a c z => ?_⟩
  obtain ⟨dx, z⟩ := z
  exact ⟨dx, upd_at z e nofun⟩
theorem TabJ.wr {mp : Addr} {H : Hp} {a : Addr} {e : Str × Cols} {v : HO} {xs : List V} (h : TabJ K mp H a e) (ed : H mp = some (.lst xs)) : TabJ K mp (upd H mp v) a e := by
  obtain ⟨p, n, h1, h2⟩ := h
  exact ⟨p, n, upd_at h1 ed nofun, h2.wrL ed n⟩
theorem tabT_at {H : Hp} {as : List Addr} {d : Desc} {i : Nat} {x : V} (pc : Paired (TabT H) as d) (h : (as.map V.ref)[i]? = some x) : ∃ a e q, x = .ref a ∧ d[i]? = some e ∧ H a = some (.tup [.str e.1, .ref q]) ∧ ColsL H q e.2 := by
  obtain ⟨a, ha, rfl⟩ := map_at h
  obtain ⟨c, hc, q, z⟩ := pAt pc ha
  exact ⟨a, c, q, rfl, hc, z⟩
theorem sc_l_schema : FnScope n_l_schema p_l_schema (defScope s_l_schema) := ⟨rfl, rfl, rfl, by decide +kernel, rfl, by decide +kernel, by decide +kernel⟩
theorem ok_l_schema (T : Txt K mg w) {fc fs : FuncData} (FC : FnT K "__init__" "Column.__init__" s_Column_init CIkw (a_Column_init K) fc) (OC : FnOk P w K mg base CX0 4 (a_Column_init K) fc p_Column_init (spColInit K))
    (OS : FnOk P w K mg base CX0 4 (a_Schema_init K) fs p_Schema_init (spSchInit K)) (bS : Binds K fs p_Schema_init [])
    (F : ∃ fd, FnT K "_law_schema" "_law_schema" s_l_schema [] (a_l_schema K) fd) : OkD P w K mg base CX0 6 (a_l_schema K) p_l_schema (spSchema K) := by
  refine okD F sc_l_schema (fun _ _ _ _ _ _ us hl => match us, hl with | [_], _ => rfl) (fun vs H Q E h => ?_) (fun cdv A outer s H vs Q E hr h => ?_)
  · obtain ⟨p, d, rfl, _⟩ := h
    rfl
  · obtain ⟨p, d, rfl, ⟨as, hp, pd⟩, dok, k⟩ := h
    refine ⟨_, (pss_cons (ps_set (i := 1) sc_l_schema.nd rfl (Or.inl rfl) (pe_lst pa_nil))
      (pss_cons (ps_for PassesOwn.never rfl (pi_list (pv 0)) (pg_tup rfl (pgs_cons (pg_name (i := 2) sc_l_schema.nd rfl (Or.inl rfl)) (pgs_cons (pg_name (i := 3) sc_l_schema.nd rfl (Or.inl rfl)) pgs_nil))) (pss_cons (ps_set (i := 4) sc_l_schema.nd rfl (Or.inl rfl) (pe_lst pa_nil))
        (pss_cons (ps_for PassesOwn.never rfl (pi_list (pv 3)) (pg_tup rfl (pgs_cons (pg_name (i := 5) sc_l_schema.nd rfl (Or.inl rfl)) (pgs_cons (pg_name (i := 6) sc_l_schema.nd rfl (Or.inl rfl)) (pgs_cons (pg_name (i := 7) sc_l_schema.nd rfl (Or.inl rfl)) (pgs_cons (pg_name (i := 8) sc_l_schema.nd rfl (Or.inl rfl)) (pgs_cons (pg_name (i := 9) sc_l_schema.nd rfl (Or.inl rfl)) (pgs_cons (pg_name (i := 10) sc_l_schema.nd rfl (Or.inl rfl)) pgs_nil))))))) (pss_one (ps_expr (pe_bm PySem.F.plainAttrs_list PySem.F.slot_list_append PySem.F.type_list_append mt_append (pv 4) (pa_cons (pe_makeK (n := 1) T.m_Column OC (hr.mono (by decide)) rfl T.g_Column (kb_Column FC) pass0 (pa_cons (pv 5) pa_nil) (pk_cons (pv 6) (pk_cons (pv 7) (pk_cons (pv 8) (pk_cons (pv 9) (pk_cons (pv 10) pk_nil)))))) pa_nil)))))
        (pss_one (ps_expr (pe_bm PySem.F.plainAttrs_list PySem.F.slot_list_append PySem.F.type_list_append mt_append (pv 1) (pa_cons (pe_tup (pa_cons (pv 2) (pa_cons (pv 4) pa_nil))) pa_nil)))))))
      (pss_one (ps_ret (pe_make T.m_Schema OS (hr.mono (by decide)) rfl T.g_Schema bS .nil pass0 (pa_cons (pv 1) pa_nil)))))), ?_⟩
    refine ⟨Nat.zero_le _, fun mp hmp => ?_⟩
    have s0 : Same H (upd H mp (.lst [])) := Same.new hmp
    refine ⟨_, rfl, p, rfl, ⟨_, SqL.of (s0 _ _ hp)⟩, ?_⟩
    refine for_list (K := K) (a := p) (xs := as.map V.ref) (fun i σ H1 => ∃ (bs : List Addr) (v2 v3 v4 v5 v6 v7 v8 v9 v10 : Option V), σ = [some (.ref p), some (.ref mp), v2, v3, v4, v5, v6, v7, v8, v9, v10] ∧ Same H H1 ∧ H1 mp = some (.lst (bs.map V.ref)) ∧ Paired (TabJ K mp H1) bs (d.take i))
      ⟨[], none, none, none, none, none, none, none, none, none, rfl, s0, upd_same, .nil⟩ (fun i σ H1 _ h => by
        obtain ⟨_, _, _, _, _, _, _, _, _, _, _, h, _⟩ := h
        exact SqL.of (h _ _ hp)) ?_ ?_
    · rintro i y σ H1 hi ⟨bs, v2, v3, v4, v5, v6, v7, v8, v9, v10, rfl, s1, hm1, pb⟩
      obtain ⟨a, e, q, rfl, he, ha, cas, hq, pcs⟩ := tabT_at pd hi
      have em := List.mem_of_getElem? he
      have cok := dok.ok e em
      have lb : bs.length = (d.take i).length := pb.length
      rw [List.length_take] at lb
      have lf := dok.few
      refine ⟨a, _, rfl, SqT.of (s1 _ _ ha), rfl, _, _, rfl, _, _, rfl, rfl, ?_⟩
      refine ⟨Nat.zero_le _, fun sp hsp => ?_⟩
      have nsm : sp ≠ mp := fun z => by
        rw [z, hm1] at hsp
        cases hsp
      refine ⟨_, rfl, q, rfl, ⟨_, SqL.of ((s1.trans (Same.new hsp)) _ _ hq)⟩, ?_⟩
      refine for_list (K := K) (a := q) (xs := cas.map V.ref) (fun j σ H2 => ∃ (ds : List Addr) (v5 v6 v7 v8 v9 v10 : Option V), σ = [some (.ref p), some (.ref mp), some (.str e.1), some (.ref q), some (.ref sp), v5, v6, v7, v8, v9, v10] ∧ Same H1 H2 ∧ H2 sp = some (.lst (ds.map V.ref)) ∧ Paired (ColI K H2) ds (e.2.take j))
        ⟨[], v5, v6, v7, v8, v9, v10, rfl, Same.new hsp, upd_same, .nil⟩ (fun i σ H1 _ h => by
          obtain ⟨_, _, _, _, _, _, _, _, h, _⟩ := h
          exact SqL.of (h _ _ (s1 _ _ hq))) ?_ ?_
      · rintro j z σ H2 hj ⟨ds, v5, v6, v7, v8, v9, v10, rfl, s3, hs2, pds⟩
        obtain ⟨ca, hca, rfl⟩ := map_at hj
        obtain ⟨c, hc, hcc⟩ := pAt pcs hca
        have ld : ds.length = (e.2.take j).length := pds.length
        rw [List.length_take] at ld
        have lf2 := cok.few
        refine ⟨ca, _, rfl, SqT.of (s3 _ _ (s1 _ _ hcc)), rfl, _, _, rfl, _, _, rfl, _, _, rfl, _, _, rfl, _, _, rfl, _, _, rfl, rfl, ?_⟩
        refine ⟨_, rfl, .inl ⟨rfl, _, SqL.of hs2⟩, _, rfl, _, rfl, _, rfl, _, rfl, _, rfl, _, rfl, rfl, rfl, fun x dx hx hdx ne => ?_⟩
        refine ⟨x, dx, d.map (·.1), c, rfl, upd_same, cok.ok c (List.mem_of_getElem? hc), fun s hs => ?_, fun H3 s4 => ⟨rfl, ?_⟩⟩
        · obtain ⟨e2, h2, rfl⟩ := List.mem_map.mp hs
          exact dok.word e2 h2
        · have hx' : upd H2 dx (.own x) x = none := by
            rw [upd_ne (Ne.symm ne)]
            exact hx
          have s5 : Same H2 (upd H3 x (.ins (CC K) dx (colF c))) := sWr (((Same.new hdx).trans (Same.new hx')).trans s4) hx
          refine ⟨sp, _, _, rfl, rfl, s5 _ _ hs2, by rw [List.length_map, sizeLine_eq]; omega, ?_⟩
          refine ⟨ds ++ [x], _, _, _, _, _, _, rfl, sWr (s3.trans s5) hsp, by rw [upd_same, List.map_append]; rfl, ?_⟩
          rw [take_snoc hc]
          refine pSnoc (pMap pds fun a c z => ?_) ⟨dx, upd_at upd_same (s5 _ _ hs2) nofun⟩
          obtain ⟨dy, z⟩ := z
          exact ⟨dy, upd_at (s5 _ _ z) (s5 _ _ hs2) nofun⟩
      · rintro σ H2 ⟨ds, v5, v6, v7, v8, v9, v10, rfl, s3, hs2, pds⟩
        rw [List.length_map, pcs.length, List.take_length] at pds
        refine ⟨_, rfl, .inl ⟨rfl, _, SqL.of (s3 _ _ hm1)⟩, _, rfl, _, rfl, by show 2 ≤ sizeLine; decide, fun t ht => ?_⟩
        have hm2 := at_new (u := .tup [.str e.1, .ref sp]) (s3 _ _ hm1) ht
        refine ⟨mp, _, _, rfl, rfl, hm2, by rw [List.length_map, sizeLine_eq]; omega, ?_⟩
        refine ⟨bs ++ [t], _, _, _, _, _, _, _, _, _, rfl, sWr (s1.trans (s3.trans (Same.new ht))) hmp, by rw [upd_same, List.map_append]; rfl, ?_⟩
        rw [take_snoc he]
        exact pSnoc (pMap pb fun a e z => (z.keep (.of_same (s3.trans (Same.new ht)))).wr hm2) ⟨sp, nsm, upd_at upd_same hm2 nofun, (ColsI.keep ⟨ds, hs2, pds⟩ (.new ht)).wrL hm2 nsm⟩
    · rintro σ H1 ⟨bs, v2, v3, v4, v5, v6, v7, v8, v9, v10, rfl, s1, hm1, pb⟩
      rw [List.length_map, pd.length, List.take_length] at pb
      refine ⟨_, rfl, fun x dx hx hdx ne => ?_⟩
      have hx' : upd H1 dx (.own x) x = none := by
        rw [upd_ne (Ne.symm ne)]
        exact hx
      have s2 := (Same.new (o := .own x) hdx).trans (Same.new (o := .ins (CS K) dx []) hx')
      refine ⟨x, dx, mp, d, rfl, upd_same, ⟨bs, s2 _ _ hm1, pMap pb fun a e z => ?_⟩, dok, fun H2 o s3 hsch => ⟨rfl, k _ x ?_ hsch⟩⟩
      · obtain ⟨q, z1, z2, z3⟩ := z.keep (.of_same s2)
        exact ⟨q, z2, z3⟩
      · exact sWr (s1.trans (s2.trans s3)) (s1.free hx)
end
end K16

/-! K16I: tables copied -/
namespace K16
open PySem PySem.Spec PyProof.Rows L2 He
section
variable {P : Program} {w : World} {K : Fr} {mg : Str → Option Value} {base : Heap}
structure TKeys (T : Tabs) : Prop where
  nd : (T.map (·.1)).Nodup
  few : T.length ≤ 60
  rn : ∀ t ∈ T, (t.2.map (·.1)).Nodup ∧ t.2.length ≤ 60
/-- a new dict of new rows: these rows -/
def NewRows (H1 : Hp) (D : Addr) (rs : Rows) (H : Hp) : Prop := Same H1 H ∧ ∃ C : List ARow, RowsD H D C ∧ plR C = rs ∧ (D :: footR C).Nodup ∧ ∀ a ∈ D :: footR C, H1 a = none
def NewTabs (H1 : Hp) (D : Addr) (T : Tabs) (H : Hp) : Prop := Same H1 H ∧ ∃ B : List ATab, TabsD H D B ∧ plT B = T ∧ (D :: foot B).Nodup ∧ ∀ a ∈ D :: foot B, H1 a = none
theorem NewRows.zero {H1 : Hp} {D : Addr} (h : H1 D = none) : NewRows H1 D [] (upd H1 D (.dK [])) :=
  ⟨Same.new h, [], ⟨upd_same, nofun⟩, rfl, by simp [footR], fun a ha => by
    rw [List.mem_singleton.mp ha]
    exact h⟩
theorem NewTabs.zero {H1 : Hp} {D : Addr} (h : H1 D = none) : NewTabs H1 D [] (upd H1 D (.dK [])) :=
  ⟨Same.new h, [], ⟨upd_same, nofun⟩, rfl, by simp [foot], fun a ha => by
    rw [List.mem_singleton.mp ha]
    exact h⟩
theorem nd_snoc {α : Type} {D : α} {l : List α} {xs : List α} (h : (D :: l).Nodup) (hx : xs.Nodup) (ne : ∀ x ∈ xs, ¬ x ∈ D :: l) : (D :: (l ++ xs)).Nodup := by
  rw [← List.cons_append, List.nodup_append]
  exact ⟨h, hx, fun a ha b hb e => ne b hb (e ▸ ha)⟩
theorem NewRows.add {H1 H H4 : Hp} {D b : Addr} {rs : Rows} {k : Int} {r : Row} (h : NewRows H1 D rs H) (s : Same H H4) (hb : H4 b = none) (nk : ¬ k ∈ rs.map (·.1)) : ∃ kvs, upd H4 b (.dK (rowK r)) D = some (.dK kvs) ∧ kvs.length = rs.length ∧
    NewRows H1 D (rs ++ [(k, r)]) (upd (upd H4 b (.dK (rowK r))) D (.dK (putK kvs (.inl k) (.ref b)))) := by
  obtain ⟨s1, C, ⟨c1, c2⟩, ep, nd, fr⟩ := h
  have s5 : Same H (upd H4 b (.dK (rowK r))) := s.trans (Same.new hb)
  have hbD : ∀ x ∈ D :: footR C, b ≠ x := fun x hx z => by
    subst z
    rcases List.mem_cons.mp hx with e | e
    · rw [e, s _ _ c1] at hb
      cases hb
    · obtain ⟨y, hy, ey⟩ := List.mem_map.mp e
      rw [← ey, s _ _ (c2 y hy)] at hb
      cases hb
  have gk : get C k = none := get_none.mpr (by rw [← plR_keys, ep]; exact nk)
  refine ⟨rowsK C, s5 _ _ c1, by rw [← ep]; unfold rowsK plR; rw [List.length_map, List.length_map], sWr (s1.trans s5) (fr D List.mem_cons_self), C ++ [(k, b, r)], ⟨?_, fun y hy => ?_⟩, ?_, ?_, ?_⟩
  · rw [upd_same, rowsK_put C k b r, put_new gk]
  · rcases List.mem_append.mp hy with e | e
    · have ne : y.2.1 ≠ D := fun z => (List.nodup_cons.mp nd).1 (by rw [← z]; exact List.mem_map.mpr ⟨y, e, rfl⟩)
      rw [upd_ne ne]
      exact s5 _ _ (c2 y e)
    · rw [List.mem_singleton.mp e]
      rw [upd_ne (hbD D List.mem_cons_self)]
      exact upd_same
  · rw [← ep]
    unfold plR
    rw [List.map_append]
    rfl
  · have e : footR (C ++ [(k, b, r)]) = footR C ++ [b] := by unfold footR; rw [List.map_append]; rfl
    rw [e]
    exact nd_snoc nd (by simp) fun x hx m => hbD x m (List.mem_singleton.mp hx).symm
  · intro a ha
    have e : footR (C ++ [(k, b, r)]) = footR C ++ [b] := by unfold footR; rw [List.map_append]; rfl
    rw [e, ← List.cons_append] at ha
    rcases List.mem_append.mp ha with z | z
    · exact fr a z
    · rw [List.mem_singleton.mp z]
      exact (s1.trans s).free hb
theorem NewRows.unlock {H H4 : Hp} {q d : Addr} {rs : Rows} {od : Obj} {u : HO} (h : NewRows (upd H d (.frz od u)) q rs H4) (hd : H d = some u) : NewRows H q rs (upd H4 d u) := by
  obtain ⟨s1, C, ⟨c1, c2⟩, ep, nd, fr⟩ := h
  have fr' : ∀ a ∈ q :: footR C, a ≠ d ∧ H a = none := fun a ha => upd_none (fr a ha)
  refine ⟨(unlockS s1 hd).2, C, ⟨?_, fun y hy => ?_⟩, ep, nd, fun a ha => (fr' a ha).2⟩
  · rw [upd_ne (fr' q List.mem_cons_self).1]
    exact c1
  · rw [upd_ne (fr' y.2.1 (List.mem_cons_of_mem _ (List.mem_map.mpr ⟨y, hy, rfl⟩))).1]
    exact c2 y hy
theorem NewTabs.unlock {H H4 : Hp} {q d : Addr} {T : Tabs} {od : Obj} {u : HO} (h : NewTabs (upd H d (.frz od u)) q T H4) (hd : H d = some u) : NewTabs H q T (upd H4 d u) := by
  obtain ⟨s1, B, ⟨c1, c2⟩, ep, nd, fr⟩ := h
  have fr' : ∀ a ∈ q :: foot B, a ≠ d ∧ H a = none := fun a ha => upd_none (fr a ha)
  refine ⟨(unlockS s1 hd).2, B, ⟨?_, fun t ht => ⟨?_, fun y hy => ?_⟩⟩, ep, nd, fun a ha => (fr' a ha).2⟩
  · rw [upd_ne (fr' q List.mem_cons_self).1]
    exact c1
  · rw [upd_ne (fr' _ (List.mem_cons_of_mem _ (foot_tab ht))).1]
    exact (c2 t ht).1
  · rw [upd_ne (fr' _ (List.mem_cons_of_mem _ (foot_row ht hy))).1]
    exact (c2 t ht).2 y hy
theorem foot_snoc (B : List ATab) (t : Str) (q : Addr) (C : List ARow) : foot (B ++ [(t, q, C)]) = foot B ++ (q :: footR C) := by
  unfold foot
  rw [List.flatMap_append]
  simp
theorem NewTabs.add {H1 H H2 H4 : Hp} {D q : Addr} {T : Tabs} {rs : Rows} {t : Str} (h : NewTabs H1 D T H) (s : Same H H2) (hq : NewRows H2 q rs H4) (nk : ¬ t ∈ T.map (·.1)) : ∃ kvs, H4 D = some (.dK kvs) ∧ kvs.length = T.length ∧
    NewTabs H1 D (T ++ [(t, rs)]) (upd H4 D (.dK (putK kvs (.inr t) (.ref q)))) := by
  obtain ⟨s1, B, ⟨b1, b2⟩, ep, nd, fr⟩ := h
  obtain ⟨s2, C, ⟨c1, c2⟩, eq, nc, fc⟩ := hq
  have s5 : Same H H4 := s.trans s2
  have there : ∀ x ∈ D :: foot B, ∃ o, H2 x = some o := fun x hx => by
    rcases List.mem_cons.mp hx with e | e
    · rw [e]
      exact ⟨_, s _ _ b1⟩
    · obtain ⟨y, hy, m⟩ := List.mem_flatMap.mp e
      rcases List.mem_cons.mp m with z | z
      · rw [z]
        exact ⟨_, s _ _ (b2 y hy).1⟩
      · obtain ⟨r, hr, er⟩ := List.mem_map.mp z
        rw [← er]
        exact ⟨_, s _ _ ((b2 y hy).2 r hr)⟩
  have apart : ∀ x ∈ q :: footR C, ¬ x ∈ D :: foot B := fun x hx m => by
    obtain ⟨o, e⟩ := there x m
    rw [fc x hx] at e
    cases e
  have gk : get B t = none := get_none.mpr (by rw [← plT_keys, ep]; exact nk)
  have neD : ∀ x ∈ q :: footR C, x ≠ D := fun x hx z => apart x hx (by rw [z]; exact List.mem_cons_self)
  have neB : ∀ x ∈ foot B, x ≠ D := fun x hx z => (List.nodup_cons.mp nd).1 (z ▸ hx)
  refine ⟨tabsK B, s5 _ _ b1, by rw [← ep]; unfold tabsK plT; rw [List.length_map, List.length_map], sWr (s1.trans s5) (fr D List.mem_cons_self), B ++ [(t, q, C)], ⟨?_, fun y hy => ?_⟩, ?_, ?_, ?_⟩
  · rw [upd_same, show putK (tabsK B) (.inr t) (.ref q) = tabsK (put B t (q, C)) from put_mapP inrI (fun x : Addr × List ARow => V.ref x.1) B t (q, C), put_new gk]
  · rcases List.mem_append.mp hy with e | e
    · refine ⟨?_, fun r hr => ?_⟩
      · rw [upd_ne (neB _ (foot_tab e))]
        exact s5 _ _ (b2 y e).1
      · rw [upd_ne (neB _ (foot_row e hr))]
        exact s5 _ _ ((b2 y e).2 r hr)
    · rw [List.mem_singleton.mp e]
      refine ⟨?_, fun r hr => ?_⟩
      · rw [upd_ne (neD _ List.mem_cons_self)]
        exact c1
      · rw [upd_ne (neD _ (List.mem_cons_of_mem _ (List.mem_map.mpr ⟨r, hr, rfl⟩)))]
        exact c2 r hr
  · rw [← ep, ← eq]
    unfold plT
    rw [List.map_append]
    rfl
  · rw [foot_snoc]
    exact nd_snoc nd nc apart
  · intro a ha
    rw [foot_snoc, ← List.cons_append] at ha
    rcases List.mem_append.mp ha with z | z
    · exact fr a z
    · exact (s1.trans s).free (fc a z)
theorem upd_comm {H : Hp} {a b : Addr} {o u : HO} (n : a ≠ b) : upd (upd H a o) b u = upd (upd H b u) a o := by
  funext c
  by_cases h1 : c = b
  · subst h1
    rw [upd_same, upd_ne (Ne.symm n), upd_same]
  · rw [upd_ne h1]
    by_cases h2 : c = a
    · subst h2
      rw [upd_same, upd_same]
    · rw [upd_ne h2, upd_ne h2, upd_ne h1]
theorem mergeK_nd : ∀ (kvs acc : List (Key × V)), ((acc ++ kvs).map (·.1)).Nodup → mergeK acc kvs = acc ++ kvs
  | [], acc, _ => (List.append_nil acc).symm
  | kv :: r, acc, nd => by
    have nk : ¬ kv.1 ∈ acc.map (·.1) := fun h => by
      rw [List.map_append, List.nodup_append] at nd
      exact nd.2.2 _ h _ (List.mem_map.mpr ⟨kv, List.mem_cons_self, rfl⟩) rfl
    show mergeK (putK acc kv.1 kv.2) r = _
    rw [putK_snoc nk]
    have e : acc ++ kv :: r = (acc ++ [(kv.1, kv.2)]) ++ r := by simp
    rw [e] at nd ⊢
    exact mergeK_nd r _ nd
theorem dget {H : Hp} {a : Addr} {kvs : List (Key × V)} {k : Key} {r : Option V} (h : Rd H a (.dK kvs)) (e : valV kvs k = r) : DGet H a (kV k) r := .inl ⟨kvs, k, h, rfl, e.symm⟩
theorem nd_inl {l : List Int} (h : l.Nodup) : (l.map (Sum.inl : Int → Key)).Nodup := by
  rw [List.nodup_iff_pairwise_ne] at h ⊢
  exact h.map _ (fun a b n z => n (Sum.inl.inj z))
theorem nd_inr {l : List Str} (h : l.Nodup) : (l.map (Sum.inr : Str → Key)).Nodup := by
  rw [List.nodup_iff_pairwise_ne] at h ⊢
  exact h.map _ (fun a b n z => n (Sum.inr.inj z))
theorem pair_at {kvs : List (Key × V)} {i : Nat} {x y : V} (ex : (kvs[i]?.map fun kv => kV kv.1) = some x) (ey : (kvs[i]?.map Prod.snd) = some y) : ∃ k, kvs[i]? = some (k, y) ∧ x = kV k := by
  cases e : kvs[i]? with
  | none =>
    rw [e] at ex
    cases ex
  | some kv =>
    rw [e] at ex ey
    cases ex
    cases ey
    exact ⟨kv.1, rfl, rfl⟩
theorem notin_takeK {κ β : Type} {l : List (κ × β)} {i : Nat} {x : κ × β} (nd : (l.map (·.1)).Nodup) (h : l[i]? = some x) : ¬ x.1 ∈ (l.take i).map (·.1) := by
  rw [List.map_take]
  exact notin_take nd (map_get h)
def spCopied : Sp := fun vs H Q _ => ∃ (p : Addr) (A : List ATab), vs = [.ref p] ∧ TabsD H p A ∧ TKeys (plT A) ∧
  ∀ H' p' B, Same H H' → TabsD H' p' B → plT B = plT A → (p' :: foot B).Nodup → (∀ a ∈ p' :: foot B, H a = none) → Q (.ref p') H'
theorem sc_copied : FnScope n_copied p_copied (defScope s_copied) := ⟨rfl, rfl, rfl, by decide +kernel, rfl, by decide +kernel, by decide +kernel⟩
theorem ok_copied (T : Txt K mg w) (F : ∃ fd, FnT K "copied" "copied" s_copied [] (a_copied K) fd) : OkD P w K mg base CX0 1 (a_copied K) p_copied spCopied := by
  refine okD F sc_copied (fun _ _ _ _ _ _ us hl => match us, hl with | [_], _ => rfl) (fun vs H Q E h => ?_) (fun cdv A outer s H vs Q E hr h => ?_)
  · obtain ⟨p, d, rfl, _⟩ := h
    rfl
  · obtain ⟨p, As, rfl, hp, tk, k⟩ := h
    refine ⟨_, (pss_one (ps_ret (pe_lock (pe_dc (own := [("word", 1), ("rows", 2)]) (g := (gTup K 2 (gCons (gName 1) (gCons (gName 2) gNil)))) (tt := tYes) rfl sc_copied.nd (pi_items (pv 0)) (blkOk_by (own := [("word", 1), ("rows", 2)]) (N := n_copied) (sc := defScope s_copied) (by decide +kernel)) (fun _ _ _ _ _ => (pg_tup rfl (pgs_cons (pg_name (i := 1) sc_copied.nd rfl (Or.inl rfl)) (pgs_cons (pg_name (i := 2) sc_copied.nd rfl (Or.inl rfl)) pgs_nil)))) (fun _ _ _ _ _ => pts_nil) (fun _ _ _ _ _ => (pv 1)) (fun _ _ _ _ _ => (pe_lock (pe_dc (own := [("key", 3), ("row", 4)]) (g := (gTup K 2 (gCons (gName 3) (gCons (gName 4) gNil)))) (tt := tYes) rfl sc_copied.nd (pi_items (pv 2)) (blkOk_by (own := [("key", 3), ("row", 4)]) (N := n_copied) (sc := _) (by rfl)) (fun _ _ _ _ _ => (pg_tup rfl (pgs_cons (pg_name (i := 3) sc_copied.nd rfl (Or.inl rfl)) (pgs_cons (pg_name (i := 4) sc_copied.nd rfl (Or.inl rfl)) pgs_nil)))) (fun _ _ _ _ _ => pts_nil) (fun _ _ _ _ _ => (pv 3)) (fun _ _ _ _ _ => (pe_callTy call_dictD (by rfl) T.z_dict (by decide +kernel) (pa_cons (pv 4) pa_nil)))))))))), ?_⟩
    refine ⟨p, _, hp.1, trivial, fun od => ?_⟩
    have hp0 := hp.1
    refine ⟨_, rfl, p, _, _, rfl, upd_same, fun D hD => ?_⟩
    generalize eH1 : upd H p (.frz od (.dK (tabsK As))) = H1 at hD ⊢
    have at1 : ∀ {a : Addr} {o : HO}, H a = some o → a ≠ p → H1 a = some o := fun {a o} h ne => by
      rw [← eH1, upd_ne ne]
      exact h
    refine dc_it walk_items (fun i Hc => NewTabs H1 D ((plT As).take i) Hc) (NewTabs.zero hD) (fun i Hc _ h => h.1 p _ (by rw [← eH1]; exact upd_same)) ?_ ?_
    · rintro i x Hc H' hi hN ⟨U, x1, y1, rfl, hU, rfl, ex, ey⟩
      obtain ⟨k0, hkv, rfl⟩ := pair_at ex ey
      obtain ⟨t, ht, rfl, rfl⟩ := tabsK_at hkv
      have tm := List.mem_of_getElem? ht
      obtain ⟨hq, hrows⟩ := hp.2 t tm
      have tpm : (t.1, plR t.2.2) ∈ plT As := List.mem_map.mpr ⟨t, tm, rfl⟩
      obtain ⟨rnd, rfew⟩ := tk.rn _ tpm
      dsimp only at rnd rfew
      have hq1 := at1 hq (tab_ne hp tm)
      have hqc := at_new (u := .tup [kV (.inr t.1), .ref t.2.1]) (hN.1 _ _ hq1) hU
      refine ⟨U, _, rfl, SqT.of upd_same, rfl, _, _, rfl, _, _, rfl, rfl, rfl, _, rfl, ?_⟩
      refine ⟨t.2.1, _, hqc, trivial, fun od2 => ?_⟩
      refine ⟨_, rfl, t.2.1, _, _, rfl, upd_same, fun D2 hD2 => ?_⟩
      have sU : Same Hc (upd Hc U (.tup [kV (.inr t.1), .ref t.2.1])) := Same.new hU
      generalize upd Hc U (.tup [kV (.inr t.1), .ref t.2.1]) = Hu at hqc sU hD2 ⊢
      generalize eH2 : upd Hu t.2.1 (.frz od2 (.dK (rowsK t.2.2))) = H2 at hD2 ⊢
      refine dc_it walk_items (fun j Hd => NewRows H2 D2 ((plR t.2.2).take j) Hd) (NewRows.zero hD2) (fun j Hd _ h => h.1 t.2.1 _ (by rw [← eH2]; exact upd_same)) ?_ ?_
      · rintro j x Hd H' hj hM ⟨U2, x2, y2, rfl, hU2, rfl, ex2, ey2⟩
        obtain ⟨k2, hkv2, rfl⟩ := pair_at ex2 ey2
        obtain ⟨r, hr', rfl, rfl⟩ := rowsK_at hkv2
        have rm := List.mem_of_getElem? hr'
        have rd : Rd Hd r.2.1 (.dK (rowK r.2.2)) := by
          have z0 : Rd H r.2.1 (.dK (rowK r.2.2)) := .inl (hrows r rm)
          have z1 := rdLock (od := od) z0 hp0
          rw [eH1] at z1
          have z2 := rdLock (od := od2) (Rd.sameK (Rd.sameK z1 hN.1) sU) hqc
          rw [eH2] at z2
          exact Rd.sameK z2 hM.1
        refine ⟨U2, _, rfl, SqT.of upd_same, rfl, _, _, rfl, _, _, rfl, rfl, rfl, _, rfl, _, rfl, r.2.1, _, rfl, Rd.sameK rd (Same.new hU2), fun b hb => ?_⟩
        have rp : (plR t.2.2)[j]? = some (r.1, r.2.2) := map_get hr'
        obtain ⟨kvs, e1, e2, e3⟩ := hM.add (k := r.1) (r := r.2.2) (Same.new hU2) hb (notin_takeK rnd rp)
        refine ⟨kvs, .inl r.1, rfl, e1, ?_, ?_⟩
        · rw [e2, List.length_take, sizeLine_eq]
          omega
        · rw [take_snoc rp]
          exact e3
      · intro Hd hM
        have eM : (plR t.2.2).take (rowsK t.2.2).length = plR t.2.2 := by
          apply List.take_of_length_le
          unfold plR rowsK
          rw [List.length_map, List.length_map]
          exact Nat.le_refl _
        rw [eM] at hM
        rw [← eH2] at hM
        refine ⟨hM.1 _ _ upd_same, ?_⟩
        have hM2 := hM.unlock hqc
        have tp : (plT As)[i]? = some (t.1, plR t.2.2) := map_get ht
        obtain ⟨kvs, e1, e2, e3⟩ := hN.add (t := t.1) sU hM2 (notin_takeK tk.nd tp)
        refine ⟨kvs, .inr t.1, rfl, e1, ?_, ?_⟩
        · have tf := tk.few
          rw [e2, List.length_take, sizeLine_eq]
          omega
        · rw [take_snoc tp]
          exact e3
    · intro Hc hN
      have eN : (plT As).take (tabsK As).length = plT As := by
        apply List.take_of_length_le
        unfold plT tabsK
        rw [List.length_map, List.length_map]
        exact Nat.le_refl _
      rw [eN] at hN
      rw [← eH1] at hN
      refine ⟨hN.1 _ _ upd_same, ?_⟩
      obtain ⟨s1, B, hB, ep, nd, fr⟩ := hN.unlock hp0
      exact k _ D B s1 hB ep nd fr
theorem sc_l_copied : FnScope n_l_copied p_l_copied (defScope s_l_copied) := ⟨rfl, rfl, rfl, by decide +kernel, rfl, by decide +kernel, by decide +kernel⟩
theorem ok_l_copied (T : Txt K mg w) (F : ∃ fd, FnT K "_law_copied" "_law_copied" s_l_copied [] (a_l_copied K) fd) : OkD P w K mg base CX0 1 (a_l_copied K) p_l_copied spCopied := by
  refine okD F sc_l_copied (fun _ _ _ _ _ _ us hl => match us, hl with | [_], _ => rfl) (fun vs H Q E h => ?_) (fun cdv A outer s H vs Q E hr h => ?_)
  · obtain ⟨p, d, rfl, _⟩ := h
    rfl
  · obtain ⟨p, As, rfl, hp, tk, k⟩ := h
    refine ⟨_, (pss_cons (ps_set (i := 1) sc_l_copied.nd rfl (Or.inl rfl) pe_dnewK)
      (pss_cons (ps_lock (ps_for PassesOwn.never rfl (pi_keys (pv 0)) (pg_name (i := 2) sc_l_copied.nd rfl (Or.inr rfl)) (pss_one (ps_dput (hu_of hr) (pv 1) (pv 2) (pe_callTy (call_dictP rfl) (by rfl) T.z_dict (by decide +kernel) (pa_cons (pe_lock (pe_lc (own := [("_law_key_here", 3)]) (g := (gName 3)) (tt := tYes) rfl sc_l_copied.nd (pi_keys (pe_dget (hu_of hr) (pv 0) (pv 2) (fun _ _ => rfl))) (blkOk_by (own := [("_law_key_here", 3)]) (N := n_l_copied) (sc := defScope s_l_copied) (by decide +kernel)) (fun _ _ _ _ _ => (pg_name (i := 3) sc_l_copied.nd rfl (Or.inl rfl))) (fun _ _ _ _ _ => pts_nil) (fun _ _ _ _ _ => (pe_tup (pa_cons (pv 3) (pa_cons (pe_callTy call_dictD (by rfl) T.z_dict (by decide +kernel) (pa_cons (pe_dget (hu_of hr) (pe_dget (hu_of hr) (pv 0) (pv 2) (fun _ _ => rfl)) (pv 3) (fun _ _ => rfl)) pa_nil)) pa_nil)))))) pa_nil)) rfl))))
      (pss_one (ps_ret (pv 1))))), ?_⟩
    have hp0 := hp.1
    intro D hD
    have pD : p ≠ D := ne_of_none hp0 hD
    refine ⟨p, _, at_new hp0 hD, trivial, fun od => ?_⟩
    rw [upd_comm (Ne.symm pD)]
    generalize eH1 : upd H p (.frz od (.dK (tabsK As))) = H1
    have hD1 : H1 D = none := by
      rw [← eH1, upd_ne (Ne.symm pD)]
      exact hD
    have hp1 : H1 p = some (.frz od (.dK (tabsK As))) := by
      rw [← eH1]
      exact upd_same
    have at1 : ∀ {a : Addr} {o : HO}, H a = some o → a ≠ p → H1 a = some o := fun {a o} h ne => by
      rw [← eH1, upd_ne ne]
      exact h
    have nz := NewTabs.zero hD1
    refine ⟨_, rfl, p, od, rfl, .inl ⟨_, nz.1 _ _ hp1, ?_⟩⟩
    refine for_it walk_keys (fun i σ Hc => ∃ v2 v3, σ = [some (.ref p), some (.ref D), v2, v3] ∧ NewTabs H1 D ((plT As).take i) Hc) ⟨none, none, rfl, nz⟩ (fun i σ Hc _ h => ?_) ?_ ?_
    · obtain ⟨_, _, _, h⟩ := h
      exact h.1 _ _ hp1
    · rintro i x σ Hz Hc hi ⟨v2, v3, rfl, hN⟩ ⟨rfl, k0, v0, hkv, rfl⟩
      obtain ⟨t, ht, rfl, rfl⟩ := tabsK_at hkv
      have tm := List.mem_of_getElem? ht
      obtain ⟨hq, hrows⟩ := hp.2 t tm
      have tpm : (t.1, plR t.2.2) ∈ plT As := List.mem_map.mpr ⟨t, tm, rfl⟩
      obtain ⟨rnd, rfew⟩ := tk.rn _ tpm
      dsimp only at rnd rfew
      have hqc := hN.1 _ _ (at1 hq (tab_ne hp tm))
      have tget : valV (tabsK As) (.inr t.1) = some (.ref t.2.1) := by
        rw [tabsK_get, mem_get (by rw [← plT_keys]; exact tk.nd) tm]
        rfl
      refine ⟨t.2.1, _, hqc, trivial, fun od2 => ?_⟩
      have rdp2 : Rd (upd Hc t.2.1 (.frz od2 (.dK (rowsK t.2.2)))) p (.dK (tabsK As)) := rdLock (rdF (hN.1 _ _ hp1)) hqc
      have hq2 : upd Hc t.2.1 (.frz od2 (.dK (rowsK t.2.2))) t.2.1 = some (.frz od2 (.dK (rowsK t.2.2))) := upd_same
      have rdrow : ∀ r ∈ t.2.2, Rd (upd Hc t.2.1 (.frz od2 (.dK (rowsK t.2.2)))) r.2.1 (.dK (rowK r.2.2)) := fun r hr => by
        have z0 : Rd H r.2.1 (.dK (rowK r.2.2)) := .inl (hrows r hr)
        have z1 := rdLock (od := od) z0 hp0
        rw [eH1] at z1
        exact rdLock (Rd.sameK z1 hN.1) hqc
      generalize eH2 : upd Hc t.2.1 (.frz od2 (.dK (rowsK t.2.2))) = H2 at rdp2 hq2 rdrow ⊢
      refine ⟨_, rfl, _, rfl, p, _, rfl, dget (k := .inr t.1) rdp2 tget, t.2.1, od2, rfl, .inl ⟨_, hq2, fun D2 hD2 => ?_⟩⟩
      refine lc_it walk_keys (fun j Hd => Same H2 Hd ∧ ∃ (us : List Addr) (C : List ARow), Hd D2 = some (.lst (us.map V.ref)) ∧ Paired (fun u (r : ARow) => Hd u = some (.tup [.int r.1, .ref r.2.1])) us C ∧ plR C = (plR t.2.2).take j ∧
          (∀ r ∈ C, Hd r.2.1 = some (.dK (rowK r.2.2))) ∧ (footR C).Nodup ∧ ∀ a ∈ footR C, H2 a = none) ⟨Same.new hD2, [], [], upd_same, .nil, rfl, nofun, List.nodup_nil, nofun⟩ (fun j Hd _ h => h.1 _ _ hq2) ?_ ?_
      · rintro j x Hz Hd hj ⟨s2, us, C, hD3, pu, ep, hC, nf, fr⟩ ⟨rfl, k2, v2', hkv2, rfl⟩
        obtain ⟨r, hr', rfl, rfl⟩ := rowsK_at hkv2
        have rm := List.mem_of_getElem? hr'
        have rget : valV (rowsK t.2.2) (.inl r.1) = some (.ref r.2.1) := by
          rw [rowsK_get, mem_get (by rw [← plR_keys]; exact rnd) rm]
          rfl
        have lC : C.length ≤ t.2.2.length := by
          have e := congrArg List.length ep
          rw [List.length_take] at e
          unfold plR at e
          rw [List.length_map, List.length_map] at e
          omega
        have rf2 : t.2.2.length ≤ 60 := by
          unfold plR at rfew
          rw [List.length_map] at rfew
          exact rfew
        refine ⟨rfl, _, rfl, _, rfl, _, rfl, p, _, rfl, dget (k := .inr t.1) (Rd.sameK rdp2 s2) tget, _, rfl, t.2.1, _, rfl, dget (k := .inl r.1) (rdF (s2 _ _ hq2)) rget, r.2.1, _, rfl, Rd.sameK (rdrow r rm) s2, fun b hb => ?_⟩
        refine ⟨by show 2 ≤ sizeLine; decide, fun u hu => ⟨_, at_new (at_new hD3 hb) hu, ?_, ?_⟩⟩
        · rw [List.length_map, pu.length, sizeLine_eq]
          omega
        · have s3 : Same Hd (upd (upd Hd b (.dK (rowK r.2.2))) u (.tup [kV (.inl r.1), .ref b])) := (Same.new hb).trans (Same.new hu)
          have hD4 := s3 _ _ hD3
          refine ⟨sWr (s2.trans s3) hD2, us ++ [u], C ++ [(r.1, b, r.2.2)], ?_, ?_, ?_, ?_, ?_, ?_⟩
          · rw [upd_same, List.map_append]
            rfl
          · exact pSnoc (pMap pu fun a c z => upd_at (s3 _ _ z) hD4 nofun) (upd_at upd_same hD4 nofun)
          · have rp : (plR t.2.2)[j]? = some (r.1, r.2.2) := map_get hr'
            rw [take_snoc rp, ← ep]
            unfold plR
            rw [List.map_append]
            rfl
          · intro y hy
            rcases List.mem_append.mp hy with e | e
            · exact upd_at (s3 _ _ (hC y e)) hD4 nofun
            · rw [List.mem_singleton.mp e]
              exact upd_at (at_new upd_same hu) hD4 nofun
          · have e : footR (C ++ [(r.1, b, r.2.2)]) = footR C ++ [b] := by unfold footR; rw [List.map_append]; rfl
            rw [e, List.nodup_append]
            refine ⟨nf, by simp, fun a ha b' hb' z => ?_⟩
            obtain ⟨y, hy, ey⟩ := List.mem_map.mp ha
            have z2 := hC y hy
            rw [ey, z, List.mem_singleton.mp hb', hb] at z2
            cases z2
          · intro a ha
            have e : footR (C ++ [(r.1, b, r.2.2)]) = footR C ++ [b] := by unfold footR; rw [List.map_append]; rfl
            rw [e] at ha
            rcases List.mem_append.mp ha with z | z
            · exact fr a z
            · rw [List.mem_singleton.mp z]
              exact s2.free hb
      · rintro Hd ⟨s2, us, C, hD3, pu, ep, hC, nf, fr⟩
        have eM : (plR t.2.2).take (rowsK t.2.2).length = plR t.2.2 := by
          apply List.take_of_length_le
          unfold plR rowsK
          rw [List.length_map, List.length_map]
          exact Nat.le_refl _
        rw [eM] at ep
        have s2' := s2
        rw [← eH2] at s2'
        obtain ⟨u1, u2⟩ := unlockS s2' hqc
        refine ⟨u1, ?_⟩
        have fr' : ∀ a ∈ footR C, a ≠ t.2.1 ∧ Hc a = none := fun a ha => upd_none (by rw [eH2]; exact fr a ha)
        have hC' : ∀ r ∈ C, upd Hd t.2.1 (.dK (rowsK t.2.2)) r.2.1 = some (.dK (rowK r.2.2)) := fun r hr => by
          rw [upd_ne (fr' _ (List.mem_map.mpr ⟨r, hr, rfl⟩)).1]
          exact hC r hr
        refine ⟨D2, us, rowsK C, rfl, SqL.of (upd_at hD3 u1 nofun), ?_, fun b hb => ?_⟩
        · unfold rowsK
          refine pMapR pu fun u r _ z => SqT.of (upd_at z u1 nofun)
        · have ndC : ((([] : List (Key × V)) ++ rowsK C).map (·.1)).Nodup := by
            rw [List.nil_append, rowsK_keys, ep]
            exact nd_inl rnd
          rw [mergeK_nd _ [] ndC, List.nil_append]
          have hNR : NewRows Hc b (plR t.2.2) (upd (upd Hd t.2.1 (.dK (rowsK t.2.2))) b (.dK (rowsK C))) := by
            refine ⟨u2.trans (Same.new hb), C, ⟨upd_same, fun r hr => at_new (hC' r hr) hb⟩, ep, List.nodup_cons.mpr ⟨fun m => ?_, nf⟩, fun a ha => ?_⟩
            · obtain ⟨y, hy, ey⟩ := List.mem_map.mp m
              have z := hC' y hy
              rw [ey, hb] at z
              cases z
            · rcases List.mem_cons.mp ha with z | z
              · rw [z]
                exact u2.free hb
              · exact (fr' a z).2
          have tp : (plT As)[i]? = some (t.1, plR t.2.2) := map_get ht
          obtain ⟨kvs, e1, e2, e3⟩ := hN.add (t := t.1) (Same.refl _) hNR (notin_takeK tk.nd tp)
          have tf := tk.few
          refine ⟨_, rfl, _, rfl, D, _, rfl, DPut.k (k := .inr t.1) e1 (by rw [e2, List.length_take, sizeLine_eq]; omega), _, _, rfl, ?_⟩
          rw [take_snoc tp]
          exact e3
    · intro σ Hc hh
      obtain ⟨v2, v3, rfl, hN⟩ := hh
      have eN : (plT As).take (tabsK As).length = plT As := by
        apply List.take_of_length_le
        unfold plT tabsK
        rw [List.length_map, List.length_map]
        exact Nat.le_refl _
      rw [eN] at hN
      rw [← eH1] at hN
      refine ⟨hN.1 _ _ upd_same, ?_⟩
      obtain ⟨s1, B, hB, ep, nd, fr⟩ := hN.unlock hp0
      exact ⟨_, rfl, k _ D B s1 hB ep nd fr⟩
end
end K16

/-! K16J: who holds a row -/
namespace K16
open PySem PySem.Spec PyProof.Rows L2 He
section
variable {P : Program} {w : World} {K : Fr} {mg : Str → Option Value} {base : Heap}
theorem srt_eq {ys ks : List Int} (h : ys.Perm ks) (p : ys.Pairwise (· ≤ ·)) : ys = srt ks := by
  have h2 := List.mergeSort_perm ks (fun a b => decide (a ≤ b))
  have p2 := List.pairwise_mergeSort (le := fun a b : Int => decide (a ≤ b)) (fun a b c h1 h2 => decide_eq_true (Int.le_trans (of_decide_eq_true h1) (of_decide_eq_true h2))) (fun a b => by
    rcases Int.le_total a b with z | z
    · simp [z]
    · simp [z]) ks
  have p3 : (srt ks).Pairwise (· ≤ ·) := p2.imp fun z => of_decide_eq_true z
  exact (h.trans h2.symm).eq_of_pairwise (fun a b _ _ h1 h2 => Int.le_antisymm h1 h2) p p3
/-- a schema with tables of it -/
structure Tb (K : Fr) (H : Hp) (x p : Addr) (d : Desc) (As : List ATab) : Prop where
  sch : SchI K H x d
  dok : DescOk d
  tabs : TabsD H p As
  tok : TabsOk d 60 (plT As)
theorem Tb.same {H H' : Hp} {x p : Addr} {d : Desc} {As : List ATab} (h : Tb K H x p d As) (s : Same H H') : Tb K H' x p d As := ⟨h.sch.keep (.of_same s), h.dok, h.tabs.keep (.of_same s), h.tok⟩
theorem names_nd {d : Desc} {As : List ATab} (dok : DescOk d) {n : Nat} (tok : TabsOk d n (plT As)) : (As.map (·.1)).Nodup := by
  rw [← plT_keys, tabs_names tok]
  exact dok.nd
theorem tabD_at {H : Hp} {p : Addr} {d : Desc} {As : List ATab} {n : Nat} (dok : DescOk d) (tabs : TabsD H p As) (tok : TabsOk d n (plT As)) {t : Str} {cs : Cols} (hm : (t, cs) ∈ d) :
    ∃ q rs, (t, q, rs) ∈ As ∧ get As t = some (q, rs) ∧ valV (tabsK As) (.inr t) = some (.ref q) ∧ RowsD H q rs ∧ plR rs = rowsOf (plT As) t ∧ RowsOk n cs (plR rs) := by
  obtain ⟨rs0, h1, h2, h3⟩ := tab_of dok tok hm
  rw [plT_get] at h1
  cases e : get As t with
  | none =>
    rw [e] at h1
    cases h1
  | some v =>
    obtain ⟨q, rs⟩ := v
    rw [e] at h1
    have ep : plR rs = rs0 := Option.some.inj h1
    have hm2 := get_mem e
    refine ⟨q, rs, hm2, rfl, by rw [tabsK_get, e]; rfl, tabs.2 _ hm2, ?_, ep ▸ h3⟩
    unfold rowsOf
    rw [plT_get, e]
    rfl
theorem row_at {H : Hp} {q : Addr} {rs : List ARow} (h : RowsD H q rs) {k : Int} {r : Row} (e : get (plR rs) k = some r) : ∃ a, (k, a, r) ∈ rs ∧ valV (rowsK rs) (.inl k) = some (.ref a) ∧ H a = some (.dK (rowK r)) := by
  rw [plR_get] at e
  cases z : get rs k with
  | none =>
    rw [z] at e
    cases e
  | some v =>
    obtain ⟨a, r2⟩ := v
    rw [z] at e
    cases e
    have m := get_mem z
    exact ⟨a, m, by rw [rowsK_get, z]; rfl, h.2 _ m⟩
theorem rowOk_at {cs : Cols} {r : Row} (h : RowOk cs r) {c : Col} (hc : c ∈ cs) : get r c.nm = some (atN r c.nm) := by
  cases e : get r c.nm with
  | some v =>
    unfold atN
    rw [e]
    rfl
  | none =>
    refine absurd ?_ (get_none.mp e)
    rw [rowOk_keys h]
    exact List.mem_map.mpr ⟨c, hc, rfl⟩
/-! ### places -/
def plc (d : Desc) (T : Tabs) : List (Str × Int) := d.flatMap fun e => (srt ((rowsOf T e.1).map (·.1))).map fun o => (e.1, o)
def PlT (H : Hp) (us : List Addr) (ps : List (Str × Int)) : Prop := Paired (fun u (q : Str × Int) => H u = some (.tup [.str q.1, .int q.2])) us ps
def spPlaces (K : Fr) : Sp := fun vs H Q _ => ∃ (x p : Addr) (d : Desc) (As : List ATab), vs = [.ref x, .ref p] ∧ Tb K H x p d As ∧ ∀ H' l us, Same H H' → H l = none → H' l = some (.lst (us.map V.ref)) → PlT H' us (plc d (plT As)) → Q (.ref l) H'
theorem plc_few {d : Desc} {T : Tabs} (dok : DescOk d) (tok : TabsOk d 60 T) (i : Nat) : (plc (d.take i) T).length ≤ 180 := by
  have key : ∀ l : Desc, (∀ e ∈ l, e ∈ d) → (plc l T).length ≤ 60 * l.length := by
    intro l
    induction l with
    | nil => intro _; exact Nat.zero_le _
    | cons e r ih =>
      intro hl
      have ih := ih fun x hx => hl x (List.mem_cons_of_mem _ hx)
      obtain ⟨rs, h1, _, h3⟩ := tab_of dok tok (t := e.1) (cs := e.2) (hl e List.mem_cons_self)
      have e2 : rowsOf T e.1 = rs := by unfold rowsOf; rw [h1]; rfl
      have e3 : plc (e :: r) T = (srt ((rowsOf T e.1).map (·.1))).map (fun o => (e.1, o)) ++ plc r T := rfl
      have few := h3.few
      rw [e3, List.length_append, List.length_map, e2, List.length_cons]
      unfold srt
      rw [List.length_mergeSort, List.length_map]
      omega
  have h := key (d.take i) fun e he => List.mem_of_mem_take he
  have hd := dok.few.2
  have hl : (d.take i).length ≤ 3 := by rw [List.length_take]; omega
  omega
theorem sc_places : FnScope n_places p_places (defScope s_places) := ⟨rfl, rfl, rfl, by decide +kernel, rfl, by decide +kernel, by decide +kernel⟩
theorem ok_places (T : Txt K mg w) (O_Schema_words : OkD P w K mg base CX0 1 (a_Schema_words K) p_Schema_words (spSWords K)) (F : ∃ fd, FnT K "places" "places" s_places [] (a_places K) fd) : OkD P w K mg base CX0 2 (a_places K) p_places (spPlaces K) := by
  refine okD F sc_places (fun _ _ _ _ _ _ us hl => match us, hl with | [_, _], _ => rfl) (fun vs H Q E h => ?_) (fun cdv A outer s H vs Q E hr h => ?_)
  · obtain ⟨x, p, d, As, rfl, _⟩ := h
    rfl
  · obtain ⟨x, p, d, As, rfl, tb, k⟩ := h
    obtain ⟨dx, f, ps, h1, h2, h3⟩ := id tb.sch
    refine ⟨_, (pss_one (ps_ret (pe_lc2 (own := [("word", 2), ("key", 3)]) (vs1 := [3]) (g := (gName 2)) (tt := tYes) (g1 := (gName 3)) (tt1 := tYes) rfl sc_places.nd (pi_list (pe_ownM0 O_Schema_words (pv 0) T.c_Schema T.h_Schema_words (hr.mono (by decide)))) (blkOk_by (own := [("word", 2), ("key", 3)]) (N := n_places) (sc := defScope s_places) (by decide +kernel)) (by decide) (fun _ _ _ _ _ => (pg_name (i := 2) sc_places.nd rfl (Or.inl rfl))) (fun _ _ _ _ _ => pts_nil) (fun _ _ _ _ _ => (show PI _ _ _ (iList K _) from (pi_list (pe_callB (call_sortedDI rfl) (by rfl) T.z_sorted (by decide +kernel) (pa_cons (pe_dget (hu_of hr) (pv 1) (pv 2) (fun _ _ => rfl)) pa_nil))))) (fun _ _ _ _ _ => (pg_name (i := 3) sc_places.nd rfl (Or.inl rfl))) (fun _ _ _ _ _ => pts_nil) (fun _ _ _ _ _ => (pe_tup (pa_cons (pv 2) (pa_cons (pv 3) pa_nil))))))), ?_⟩
    refine ⟨_, rfl, x, dx, _, rfl, h1, rfl, x, d, rfl, tb.sch, fun H1 l s1 hl => ⟨l, rfl, ⟨_, SqL.of hl⟩, fun D hD => ?_⟩⟩
    refine ⟨fun i m H2 => m = d.length - i ∧ i ≤ d.length ∧ Same H1 H2 ∧ ∃ us, H2 D = some (.lst (us.map V.ref)) ∧ PlT H2 us (plc (d.take i) (plT As)), ⟨_, rfl, Nat.zero_le _, Same.new hD, [], upd_same, .nil⟩, ?_⟩
    rintro i m H2 ⟨rfl, hi, s2, us, hu, pu⟩
    have hl2 := s2 _ _ hl
    by_cases lt : i < d.length
    · refine .inr ⟨⟨_, V.str (d[i]).1, SqL.of hl2, by simp [lt]⟩, fun H3 => Same H1 H3 ∧ ∃ us, H3 D = some (.lst (us.map V.ref)) ∧ PlT H3 us (plc (d.take (i + 1)) (plT As)), fun H3 z => ⟨_, by omega, rfl, lt, z⟩, ?_⟩
      rintro x1 H3 ⟨rfl, hx1⟩
      have hx2 := hx1 _ (SqL.of hl2)
      obtain ⟨wd, hwd, rfl⟩ := map_at hx2
      obtain ⟨e, he, rfl⟩ := map_at hwd
      have em := List.mem_of_getElem? he
      obtain ⟨q, rs, hm, hg, hv, hrs, er, rok⟩ := tabD_at tb.dok (tb.tabs.keep (.of_same (s1.trans s2))) tb.tok (t := e.1) (cs := e.2) em
      refine ⟨rfl, _, rfl, _, rfl, p, _, rfl, dget (k := .inr e.1) (.inl ((s1.trans s2) _ _ tb.tabs.1)) hv, q, _, (plR rs).map (·.1), rfl, .inl hrs.1, rowsK_keys rs, ?_, fun ys sp hperm hpw hsp => ?_⟩
      · have := rok.few
        rw [List.length_map]
        omega
      have ey := srt_eq hperm hpw
      rw [er] at ey
      subst ey
      have eplc : plc (d.take (i + 1)) (plT As) = plc (d.take i) (plT As) ++ (srt ((rowsOf (plT As) e.1).map (·.1))).map (fun o => (e.1, o)) := by
        unfold plc
        rw [take_snoc he, List.flatMap_append]
        simp
      have fw := plc_few tb.dok tb.tok (i + 1)
      rw [eplc, List.length_append, List.length_map] at fw
      rw [eplc]
      generalize srt ((rowsOf (plT As) e.1).map (·.1)) = ys at hsp fw ⊢
      refine ⟨sp, rfl, ⟨_, SqL.of upd_same⟩, ?_⟩
      refine ⟨fun j k H4 => k = ys.length - j ∧ j ≤ ys.length ∧ Same H1 H4 ∧ H4 sp = some (.lst (ys.map V.int)) ∧ ∃ us, H4 D = some (.lst (us.map V.ref)) ∧ PlT H4 us (plc (d.take i) (plT As) ++ (ys.take j).map fun o => (e.1, o)), ⟨_, rfl, Nat.zero_le _, s2.trans (Same.new hsp), upd_same, us, at_new hu hsp, ?_⟩, ?_⟩
      · rw [List.take_zero, List.map_nil, List.append_nil]
        exact pMap pu fun u c z => at_new z hsp
      · rintro j k4 H4 ⟨rfl, hj, s4, hsp4, us4, hu4, pu4⟩
        by_cases lj : j < ys.length
        · refine .inr ⟨⟨_, V.int ys[j], SqL.of hsp4, by simp [lj]⟩, fun H5 => Same H1 H5 ∧ H5 sp = some (.lst (ys.map V.int)) ∧ ∃ us, H5 D = some (.lst (us.map V.ref)) ∧ PlT H5 us (plc (d.take i) (plT As) ++ (ys.take (j + 1)).map fun o => (e.1, o)), fun H5 z => ⟨_, by omega, rfl, lj, z⟩, ?_⟩
          rintro x5 H5 ⟨rfl, hx5⟩
          obtain ⟨o, ho, rfl⟩ := map_at (hx5 _ (SqL.of hsp4))
          have lu := pu4.length
          rw [List.length_append, List.length_map, List.length_take] at lu
          refine ⟨rfl, _, rfl, _, rfl, by show 2 ≤ sizeLine; decide, fun u hu' => ⟨_, at_new hu4 hu', by rw [List.length_map, sizeLine_eq]; omega, ?_⟩⟩
          have hD5 := at_new (u := .tup [.str e.1, .int o]) hu4 hu'
          have nsD : sp ≠ D := fun z => by
            rw [z, hu] at hsp
            cases hsp
          refine ⟨?_, ?_, us4 ++ [u], ?_, ?_⟩
          · exact sWr (s4.trans (Same.new hu')) hD
          · rw [upd_ne nsD]
            exact at_new hsp4 hu'
          · rw [upd_same, List.map_append]
            rfl
          · rw [take_snoc ho, List.map_append, ← List.append_assoc]
            exact pSnoc (pMap pu4 fun a c z => upd_at (at_new z hu') hD5 nofun) (upd_at upd_same hD5 nofun)
        · have ej : j = ys.length := by omega
          rw [ej, List.take_length] at pu4
          exact .inl ⟨⟨_, SqL.of hsp4, by rw [List.length_map]; omega⟩, s4, us4, hu4, pu4⟩
    · have e : i = d.length := by omega
      rw [e, List.take_length] at pu
      exact .inl ⟨⟨_, SqL.of hl2, by rw [List.length_map, List.length_map]; omega⟩, k _ D us (s1.trans s2) (s1.free hD) hu pu⟩
end
end K16

/-! K16K: links, holders, what is amiss in a row -/
namespace K16
open PySem PySem.Spec PyProof.Rows L2 He
section
variable {P : Program} {w : World} {K : Fr} {mg : Str → Option Value} {base : Heap}
def toC (c : Col) : Bool := !decide (c.goal = .non)
def LnT (K : Fr) (H : Hp) (us : List Addr) (cs : Cols) (r : Row) : Prop := Paired (fun u (c : Col) => ∃ ca u2 dx, H u = some (.tup [.ref ca, .ref u2]) ∧ H u2 = some (.tup [c.goal, atN r c.nm]) ∧ H ca = some (.ins (CC K) dx (colF c))) us cs
theorem LnT.same {H H' : Hp} {us : List Addr} {cs : Cols} {r : Row} (h : LnT K H us cs r) (s : Same H H') : LnT K H' us cs r := pMap h fun u c z => by
  obtain ⟨ca, u2, dx, z1, z2, z3⟩ := z
  exact ⟨ca, u2, dx, s _ _ z1, s _ _ z2, s _ _ z3⟩
theorem LnT.wr {H : Hp} {us : List Addr} {cs : Cols} {r : Row} {D : Addr} {xs : List V} {o : HO} (h : LnT K H us cs r) (hd : H D = some (.lst xs)) : LnT K (upd H D o) us cs r := pMap h fun u c z => by
  obtain ⟨ca, u2, dx, z1, z2, z3⟩ := z
  exact ⟨ca, u2, dx, upd_at z1 hd nofun, upd_at z2 hd nofun, upd_at z3 hd nofun⟩
theorem filter_snoc {α : Type} {f : α → Bool} {l : List α} {i : Nat} {x : α} (h : l[i]? = some x) : (l.take (i + 1)).filter f = (l.take i).filter f ++ (if f x = true then [x] else []) := by
  rw [take_snoc h, List.filter_append]
  congr 1
  cases e : f x <;> simp [e]
def spLinks (K : Fr) : Sp := fun vs H Q _ => ∃ (x p : Addr) (d : Desc) (As : List ATab) (wd : Str) (o : Int) (cs : Cols) (r : Row), vs = [.ref x, .ref p, .str wd, .int o] ∧ Tb K H x p d As ∧ (wd, cs) ∈ d ∧ get (rowsOf (plT As) wd) o = some r ∧
  ∀ H' l us, Same H H' → H l = none → H' l = some (.lst (us.map V.ref)) → LnT K H' us (cs.filter toC) r → Q (.ref l) H'
theorem sc_links_of : FnScope n_links_of p_links_of (defScope s_links_of) := ⟨rfl, rfl, rfl, by decide +kernel, rfl, by decide +kernel, by decide +kernel⟩
theorem ok_links_of (T : Txt K mg w) (O_Schema_columns : OkD P w K mg base CX0 1 (a_Schema_columns K) p_Schema_columns (spSCols K)) (F : ∃ fd, FnT K "links_of" "links_of" s_links_of [] (a_links_of K) fd) : OkD P w K mg base CX0 2 (a_links_of K) p_links_of (spLinks K) := by
  refine okD F sc_links_of (fun _ _ _ _ _ _ us hl => match us, hl with | [_, _, _, _], _ => rfl) (fun vs H Q E h => ?_) (fun cdv A outer s H vs Q E hr h => ?_)
  · obtain ⟨x, p, d, As, wd, o, cs, r, rfl, _⟩ := h
    rfl
  · obtain ⟨x, p, d, As, wd, o, cs, r, rfl, tb, hm, hg, k⟩ := h
    obtain ⟨dx, f, ps, h1, h2, h3⟩ := id tb.sch
    obtain ⟨q, rs, _, _, hv, hrs, er, rok⟩ := tabD_at tb.dok tb.tabs tb.tok hm
    rw [← er] at hg
    obtain ⟨ra, ram, rv, hra⟩ := row_at hrs hg
    have cok := tb.dok.ok _ hm
    have rok1 : RowOk cs r := rok.ok (o, r) (get_mem hg)
    refine ⟨_, (pss_cons (ps_set (i := 4) sc_links_of.nd rfl (Or.inr rfl) (pe_dget (hu_of hr) (pe_dget (hu_of hr) (pv 1) (pv 2) (fun _ _ => rfl)) (pv 3) (fun _ _ => rfl)))
      (pss_one (ps_ret (pe_lc (own := [("column", 5)]) (g := (gName 5)) rfl sc_links_of.nd (pi_list (pe_ownM O_Schema_columns (pv 0) T.c_Schema T.h_Schema_columns (hr.mono (by decide)) (pa_cons (pv 2) pa_nil))) (blkOk_by (own := [("column", 5)]) (N := n_links_of) (sc := defScope s_links_of) (by decide +kernel)) (fun _ _ _ _ _ => (pg_name (i := 5) sc_links_of.nd rfl (Or.inl rfl))) (fun _ _ _ _ _ => (pts_one (pt_cmpR op_notN (show PE _ _ (tFld K _ _) from (pe_fld (pv 5) rfl)) pe_non (nomark _)))) (fun _ _ _ _ _ => (pe_tup (pa_cons (pv 5) (pa_cons (pe_tup (pa_cons (show PE _ _ (tFld K _ _) from (pe_fld (pv 5) rfl)) (pa_cons (pe_dget (hu_of hr) (pv 4) (show PE _ _ (tFld K _ _) from (pe_fld (pv 5) rfl)) (fun _ _ => rfl)) pa_nil))) pa_nil)))))))), ?_⟩
    refine ⟨_, rfl, _, rfl, p, _, rfl, dget (k := .inr wd) (.inl tb.tabs.1) hv, _, rfl, q, _, rfl, dget (k := .inl o) (.inl hrs.1) rv, ?_⟩
    refine ⟨_, rfl, x, dx, _, rfl, h1, rfl, _, rfl, x, d, wd, cs, rfl, tb.sch, tb.dok.nd, hm, fun H1 l s1 hc => ?_⟩
    obtain ⟨as, hl, pc⟩ := hc
    have ln := pc.length
    have few := cok.few
    dsimp only at few
    refine ⟨l, rfl, ⟨_, SqL.of hl⟩, fun D hD => ?_⟩
    refine lc_it (walk_list (xs := as.map V.ref)) (fun i H2 => Same H1 H2 ∧ ∃ us, H2 D = some (.lst (us.map V.ref)) ∧ LnT K H2 us ((cs.take i).filter toC) r) ⟨Same.new hD, [], upd_same, .nil⟩ (fun i H2 _ h => SqL.of (h.1 _ _ hl)) ?_ ?_
    · rintro i y H2 H3 hi ⟨s2, us, hu, pu⟩ ⟨rfl, hy⟩
      obtain ⟨ca, c, dc, rfl, hc, hca⟩ := col_at pc hy
      have hca2 := s2 _ _ hca
      have cm := List.mem_of_getElem? hc
      have lu := pu.length
      have lf : ((cs.take i).filter toC).length ≤ 5 := by
        refine Nat.le_trans (List.length_filter_le _ _) ?_
        rw [List.length_take]
        omega
      refine ⟨rfl, _, rfl, ca, _, dc, _, _, rfl, hca2, T.c_Column, T.n_Column_to, lk_to c, rfl, _, rfl, ?_⟩
      rw [filter_snoc hc]
      show if toC c = true then _ else _
      cases ht : toC c with
      | false =>
        refine iteF ⟨s2, us, hu, ?_⟩
        rw [if_neg Bool.false_ne_true, List.append_nil]
        exact pu
      | true =>
        refine iteT ?_
        refine ⟨_, rfl, _, rfl, ca, _, dc, _, _, rfl, hca2, T.c_Column, T.n_Column_to, lk_to c, _, rfl, _, rfl, ca, _, dc, _, _, rfl, hca2, T.c_Column, T.n_Column_name, lk_name c, ra, _, rfl,
          dget (k := .inr c.nm) (.inl ((s1.trans s2) _ _ hra)) (by rw [rowK_get]; exact rowOk_at rok1 cm), by show 2 ≤ sizeLine; decide, fun u2 hu2 => ⟨by show 2 ≤ sizeLine; decide, fun u hu' => ?_⟩⟩
        have s3 : Same H3 (upd (upd H3 u2 (.tup [c.goal, atN r c.nm])) u (.tup [.ref ca, .ref u2])) := (Same.new hu2).trans (Same.new hu')
        have hD4 := s3 _ _ hu
        refine ⟨_, hD4, by rw [List.length_map, sizeLine_eq]; omega, sWr (s2.trans s3) hD, us ++ [u], by rw [upd_same, List.map_append]; rfl, ?_⟩
        rw [if_pos rfl]
        exact pSnoc ((pu.same s3).wr hD4) ⟨ca, u2, dc, upd_at upd_same hD4 nofun, upd_at (at_new upd_same hu') hD4 nofun, upd_at (s3 _ _ hca2) hD4 nofun⟩
    · rintro H2 ⟨s2, us, hu, pu⟩
      rw [List.length_map, ln, List.take_length] at pu
      exact k _ D us (s1.trans s2) (s1.free hD) hu pu
/-! ### who holds -/
def heldAt (d : Desc) (T : Tabs) (tab : Str) (key : Int) (q : Str × Int) : List (List V) := ((colsOf d q.1).filter (heldOne T tab key q.1 q.2)).map fun c => [.str q.1, .int q.2, .str c.nm]
theorem held_plc {d : Desc} (dok : DescOk d) (T : Tabs) (tab : Str) (key : Int) : (plc d T).flatMap (heldAt d T tab key) = heldBy d T tab key := by
  unfold plc heldBy
  rw [List.flatMap_assoc]
  have e : ∀ l : Desc, (∀ e ∈ l, e ∈ d) → (l.flatMap fun e => ((srt ((rowsOf T e.1).map (·.1))).map fun o => (e.1, o)).flatMap (heldAt d T tab key)) = l.flatMap fun e => (srt ((rowsOf T e.1).map (·.1))).flatMap fun o => (e.2.filter (heldOne T tab key e.1 o)).map fun c => [V.str e.1, .int o, .str c.nm] := by
    intro l
    induction l with
    | nil => intro _; rfl
    | cons e r ih =>
      intro hl
      rw [List.flatMap_cons, List.flatMap_cons, ih fun x hx => hl x (List.mem_cons_of_mem _ hx)]
      congr 1
      have ec := colsOf_eq dok.nd (t := e.1) (cs := e.2) (hl e List.mem_cons_self)
      rw [List.flatMap_map]
      unfold heldAt
      dsimp only
      rw [ec]
  exact e d fun e he => he
theorem plc_mem {d : Desc} {T : Tabs} (dok : DescOk d) {n : Nat} (tok : TabsOk d n T) {q : Str × Int} (h : q ∈ plc d T) : ∃ cs r, (q.1, cs) ∈ d ∧ get (rowsOf T q.1) q.2 = some r := by
  obtain ⟨e, he, h2⟩ := List.mem_flatMap.mp h
  obtain ⟨o, ho, rfl⟩ := List.mem_map.mp h2
  refine ⟨e.2, ?_⟩
  have hk : o ∈ (rowsOf T e.1).map (·.1) := (List.mergeSort_perm _ _).mem_iff.mp ho
  cases z : get (rowsOf T e.1) o with
  | none => exact absurd hk (get_none.mp z)
  | some r => exact ⟨r, he, rfl⟩
theorem dp2 {H : Hp} {u : Addr} {a b : V} {da db : PyData} (h : H u = some (.tup [a, b])) (ha : Dp K H a da) (hb : Dp K H b db) : Dp K H (.ref u) (.tuple [da, db]) := .tup (SqT.of h) (.cons ha (.cons hb .nil))
theorem eqv_place (wd tab : Str) (o key : Int) : PyData.eqv (.tuple [.str wd, .int o]) (.tuple [.str tab, .int key]) = (decide (wd = tab) && decide (o = key)) := by
  show ((wd == tab) && ((o == key) && true)) = _
  rw [Bool.and_true]
  rfl
theorem word_ok {s : Str} (h : Word s) : PyData.strOk s = true := by
  have hl : ∀ c ∈ LETTERS.cps.toList, c < 0x110000 := by decide +kernel
  unfold PyData.strOk
  rw [← Array.all_toList, List.all_eq_true]
  exact fun c hc => decide_eq_true (hl c (h.2.2 c hc))
theorem shaped2 {g : Str} {dv : PyData} (h : PyData.strOk g = true) (hd : dv = .none ∨ ∃ i, dv = .int i) : SeqAt.shaped (.tuple [.str g, dv]) = true := by
  rcases hd with rfl | ⟨i, rfl⟩ <;> simp [SeqAt.shaped, PyData.canLay0, PyData.canLayAll0, PyData.depth, PyData.depthAll, h]
theorem eqv_goal {kd : Str} {v : V} (hk : kd = "link") (hv : v = .non ∨ WOk kd v) {g : Str} (hg : PyData.strOk g = true) (tab : Str) (key : Int) : ∃ dv, (∀ H, Dp K H v dv) ∧ SeqAt.shaped (.tuple [.str g, dv]) = true ∧ PyData.eqv (.tuple [.str g, dv]) (.tuple [.str tab, .int key]) = (decide (V.str g = V.str tab) && decide (v = .int key)) := by
  have e0 : decide (V.str g = V.str tab) = (g == tab) := by
    by_cases h : g = tab
    · subst h
      simp
    · have h2 : ¬ V.str g = V.str tab := fun z => h (V.str.inj z)
      simp [h, h2]
  rcases hv with rfl | hw
  · exact ⟨.none, fun H => .non, shaped2 hg (.inl rfl), by rw [e0]; rfl⟩
  · subst hk
    rcases hw with ⟨e, _⟩ | ⟨e, _⟩ | ⟨e, _⟩ | ⟨_, i, rfl, _⟩
    · exact absurd e (by decide +kernel)
    · exact absurd e (by decide +kernel)
    · exact absurd e (by decide +kernel)
    · refine ⟨.int i, fun H => .int i, shaped2 hg (.inr ⟨i, rfl⟩), ?_⟩
      have e1 : decide (V.int i = V.int key) = (i == key) := dec_int
      rw [e0, e1]
      show ((g == tab) && ((i == key) && true)) = _
      rw [Bool.and_true]
theorem heldAt_few {d : Desc} {T : Tabs} {tab : Str} {key : Int} (dok : DescOk d) (l : List (Str × Int)) (h : ∀ q ∈ l, ∃ cs, (q.1, cs) ∈ d) : (l.flatMap (heldAt d T tab key)).length ≤ 5 * l.length := by
  induction l with
  | nil => exact Nat.zero_le _
  | cons q r ih =>
    have ih := ih fun x hx => h x (List.mem_cons_of_mem _ hx)
    obtain ⟨cs, hm⟩ := h q List.mem_cons_self
    have e := colsOf_eq dok.nd hm
    have few := (dok.ok _ hm).few.2
    dsimp only at few
    have h1 : (heldAt d T tab key q).length ≤ 5 := by
      unfold heldAt
      rw [List.length_map, e]
      exact Nat.le_trans (List.length_filter_le _ _) few
    rw [List.flatMap_cons, List.length_append, List.length_cons]
    omega
def spHolders (K : Fr) : Sp := fun vs H Q _ => ∃ (x p : Addr) (d : Desc) (As : List ATab) (tab : Str) (key : Int), vs = [.ref x, .ref p, .str tab, .int key] ∧ Tb K H x p d As ∧ tab ∈ d.map (·.1) ∧
  ∀ H' l us, Same H H' → H' l = some (.lst (us.map V.ref)) → Paired (fun u (c : List V) => H' u = some (.tup c)) us (heldBy d (plT As) tab key) → Q (.ref l) H'
theorem sc_holders : FnScope n_holders p_holders (defScope s_holders) := ⟨rfl, rfl, rfl, by decide +kernel, rfl, by decide +kernel, by decide +kernel⟩
theorem ok_holders (T : Txt K mg w) (O_places : OkD P w K mg base CX0 2 (a_places K) p_places (spPlaces K)) (O_links_of : OkD P w K mg base CX0 2 (a_links_of K) p_links_of (spLinks K)) (F : ∃ fd, FnT K "holders" "holders" s_holders [] (a_holders K) fd) : OkD P w K mg base CX0 3 (a_holders K) p_holders (spHolders K) := by
  refine okD F sc_holders (fun _ _ _ _ _ _ us hl => match us, hl with | [_, _, _, _], _ => rfl) (fun vs H Q E h => ?_) (fun cdv A outer s H vs Q E hr h => ?_)
  · obtain ⟨x, p, d, As, tab, key, rfl, _⟩ := h
    rfl
  · obtain ⟨x, p, d, As, tab, key, rfl, tb, htab, k⟩ := h
    have okw : ∀ s ∈ d.map (·.1), PyData.strOk s = true := fun s hs => by
      obtain ⟨e, he, rfl⟩ := List.mem_map.mp hs
      exact word_ok (tb.dok.word e he)
    refine ⟨_, (pss_cons (ps_set (i := 4) sc_holders.nd rfl (Or.inl rfl) (pe_lst pa_nil))
      (pss_cons (ps_for PassesOwn.never rfl (pi_list (pe_own O_places (hr.mono (by decide)) T.g_places (pa_cons (pv 0) (pa_cons (pv 1) pa_nil)))) (pg_tup rfl (pgs_cons (pg_name (i := 5) sc_holders.nd rfl (Or.inl rfl)) (pgs_cons (pg_name (i := 6) sc_holders.nd rfl (Or.inl rfl)) pgs_nil))) (pss_one (ps_for PassesOwn.never rfl (pi_list (pe_own O_links_of (hr.mono (by decide)) T.g_links_of (pa_cons (pv 0) (pa_cons (pv 1) (pa_cons (pv 5) (pa_cons (pv 6) pa_nil)))))) (pg_tup rfl (pgs_cons (pg_name (i := 7) sc_holders.nd rfl (Or.inl rfl)) (pgs_cons (pg_name (i := 8) sc_holders.nd rfl (Or.inl rfl)) pgs_nil))) (pss_one (ps_if (pt_mid (PW.pt (pw_and (pt_cmpR (op_eqD hr.units) (pv 8) (pe_tup (pa_cons (pv 2) (pa_cons (pv 3) pa_nil))) (nomark _)) (pw_and1 (pt_cmpR (op_neD hr.units) (pe_tup (pa_cons (pv 5) (pa_cons (pv 6) pa_nil))) (pe_tup (pa_cons (pv 2) (pa_cons (pv 3) pa_nil))) (nomark _)))))) (pss_one (ps_expr (pe_bm PySem.F.plainAttrs_list PySem.F.slot_list_append PySem.F.type_list_append mt_append (pv 4) (pa_cons (pe_tup (pa_cons (pv 5) (pa_cons (pv 6) (pa_cons (pe_fld (pv 7) rfl) pa_nil)))) pa_nil)))) pss_nil)))))
      (pss_one (ps_ret (pv 4))))), ?_⟩
    refine ⟨Nat.zero_le _, fun fp hfp => ?_⟩
    have s0 : Same H (upd H fp (.lst [])) := Same.new hfp
    refine ⟨_, rfl, _, rfl, x, p, d, As, rfl, tb.same s0, fun H1 l us s1 nl hl pl => ?_⟩
    refine ⟨l, rfl, ⟨_, SqL.of hl⟩, ?_⟩
    have fp1 := s1 fp _ upd_same
    have nlf : l ≠ fp := (upd_none nl).1
    refine for_list (K := K) (a := l) (xs := us.map V.ref) (fun i σ H2 => ∃ hs v5 v6 v7 v8, σ = [some (.ref x), some (.ref p), some (.str tab), some (.int key), some (.ref fp), v5, v6, v7, v8] ∧ Same H H2 ∧ H2 l = some (.lst (us.map V.ref)) ∧ PlT H2 us (plc d (plT As)) ∧
        H2 fp = some (.lst (hs.map V.ref)) ∧ Paired (fun u (c : List V) => H2 u = some (.tup c)) hs (((plc d (plT As)).take i).flatMap (heldAt d (plT As) tab key)))
      ⟨[], none, none, none, none, rfl, s0.trans s1, hl, pl, fp1, .nil⟩ (fun i σ H2 _ h => ?_) ?_ ?_
    · obtain ⟨_, _, _, _, _, _, _, h, _⟩ := h
      exact SqL.of h
    · rintro i y σ H2 hi ⟨hs, v5, v6, v7, v8, rfl, s2, hl2, pl2, hf2, ph2⟩
      obtain ⟨u, hu, rfl⟩ := map_at hi
      obtain ⟨⟨wd, o⟩, hq, hut⟩ := pAt pl2 hu
      have qm := List.mem_of_getElem? hq
      obtain ⟨cs, r, hm, hg⟩ := plc_mem tb.dok tb.tok qm
      dsimp only at hm hg hut
      have cok := tb.dok.ok _ hm
      refine ⟨u, _, rfl, SqT.of hut, rfl, _, _, rfl, _, _, rfl, rfl, ?_⟩
      refine ⟨_, rfl, _, rfl, _, rfl, _, rfl, x, p, d, As, wd, o, cs, r, rfl, tb.same s2, hm, hg, fun H3 l3 us3 s3 nl3 hl3 pl3 => ?_⟩
      have nl3f : l3 ≠ fp := fun z => by
        rw [z, hf2] at nl3
        cases nl3
      have nl3l : l3 ≠ l := fun z => by
        rw [z, hl2] at nl3
        cases nl3
      have rq : rowOf (rowsOf (plT As) wd) o = r := by unfold rowOf; rw [hg]; rfl
      have rok1 : RowOk cs r := by
        obtain ⟨rs, h1, h2, h3⟩ := tab_of tb.dok tb.tok hm
        have e2 : rowsOf (plT As) wd = rs := by unfold rowsOf; rw [h1]; rfl
        rw [e2] at hg
        exact h3.ok _ (get_mem hg)
      have ecs : colsOf d wd = cs := colsOf_eq tb.dok.nd hm
      have elst : ((plc d (plT As)).take (i + 1)).flatMap (heldAt d (plT As) tab key) = ((plc d (plT As)).take i).flatMap (heldAt d (plT As) tab key) ++ ((cs.filter toC).filter (heldOne (plT As) tab key wd o)).map (fun c => [V.str wd, .int o, .str c.nm]) := by
        rw [take_snoc hq, List.flatMap_append]
        congr 1
        rw [List.flatMap_cons, List.flatMap_nil, List.append_nil]
        unfold heldAt
        dsimp only
        rw [ecs, List.filter_filter]
        congr 1
        apply List.filter_congr
        intro c _
        unfold heldOne toC
        by_cases z : c.goal = .non
        · have z2 : ¬ c.goal = .str tab := fun e => by
            rw [z] at e
            cases e
          simp [z2]
        · simp [z]
      have fewb : (((plc d (plT As)).take i).flatMap (heldAt d (plT As) tab key)).length ≤ 900 := by
        have h1 := heldAt_few (T := plT As) (tab := tab) (key := key) tb.dok ((plc d (plT As)).take i) fun q hq => by
          obtain ⟨cs, r, hm, _⟩ := plc_mem tb.dok tb.tok (List.mem_of_mem_take hq)
          exact ⟨cs, hm⟩
        have h2 := plc_few tb.dok tb.tok d.length
        rw [List.take_length] at h2
        rw [List.length_take] at h1
        omega
      rw [elst]
      generalize ((plc d (plT As)).take i).flatMap (heldAt d (plT As) tab key) = bs at ph2 fewb ⊢
      have fewc : (cs.filter toC).length ≤ 5 := by
        have few := cok.few.2
        dsimp only at few
        exact Nat.le_trans (List.length_filter_le _ _) few
      refine ⟨l3, rfl, ⟨_, SqL.of hl3⟩, ?_⟩
      refine for_list (K := K) (a := l3) (xs := us3.map V.ref) (fun j σ H4 => ∃ hs v7 v8, σ = [some (.ref x), some (.ref p), some (.str tab), some (.int key), some (.ref fp), some (.str wd), some (.int o), v7, v8] ∧ Same H H4 ∧ H4 l = some (.lst (us.map V.ref)) ∧ PlT H4 us (plc d (plT As)) ∧
          H4 l3 = some (.lst (us3.map V.ref)) ∧ LnT K H4 us3 (cs.filter toC) r ∧ H4 fp = some (.lst (hs.map V.ref)) ∧ Paired (fun u (c : List V) => H4 u = some (.tup c)) hs (bs ++ (((cs.filter toC).take j).filter (heldOne (plT As) tab key wd o)).map (fun c => [V.str wd, .int o, .str c.nm])))
        ⟨hs, v7, v8, rfl, s2.trans s3, s3 _ _ hl2, pMap pl2 fun a c z => s3 _ _ z, hl3, pl3, s3 _ _ hf2, ?_⟩ (fun j σ H4 _ h => ?_) ?_ ?_
      · rw [List.take_zero, List.filter_nil, List.map_nil, List.append_nil]
        exact pMap ph2 fun a c z => s3 _ _ z
      · obtain ⟨_, _, _, _, _, _, _, h, _⟩ := h
        exact SqL.of h
      · rintro j y σ H4 hj ⟨hs, v7, v8, rfl, s4, hl4, pl4, hl34, ln4, hf4, ph4⟩
        obtain ⟨u3, hu3, rfl⟩ := map_at hj
        obtain ⟨c, hc, ca, u2, dx, z1, z2, z3⟩ := pAt ln4 hu3
        obtain ⟨cm, ct⟩ := List.mem_filter.mp (List.mem_of_getElem? hc)
        have ck := cok.ok c cm
        have lhs := ph4.length
        rw [List.length_append, List.length_map] at lhs
        have lj : (((cs.filter toC).take j).filter (heldOne (plT As) tab key wd o)).length ≤ 5 := Nat.le_trans (List.length_filter_le _ _) (by rw [List.length_take]; omega)
        obtain ⟨lk, g, eg, gm⟩ : c.kd = "link" ∧ ∃ g, c.goal = .str g ∧ g ∈ d.map (·.1) := by
          rcases ck.goal with ⟨h1, g, h2, h3⟩ | ⟨_, h2⟩
          · exact ⟨h1, g, h2, h3⟩
          · unfold toC at ct
            rw [h2] at ct
            cases ct
        obtain ⟨dv, dpv, shv, eqv⟩ := eqv_goal lk (atN_ok cok.nd rok1 cm) (okw g gm) tab key
        have eH : heldOne (plT As) tab key wd o c = ((decide (V.str g = V.str tab) && decide (atN r c.nm = .int key)) && !(decide (wd = tab) && decide (o = key))) := by
          unfold heldOne
          rw [decide_eq_true lk, eg, rq, Bool.true_and, Bool.and_assoc]
        refine ⟨u3, _, rfl, SqT.of z1, rfl, _, _, rfl, _, _, rfl, rfl, ?_⟩
        refine ⟨fun b H5 => b = heldOne (plT As) tab key wd o c ∧ Same H4 H5, ?_, ?_⟩
        · refine ⟨_, rfl, _, rfl, _, rfl, by show 2 ≤ sizeLine; decide, fun t1 ht1 => ?_⟩
          refine ⟨_, _, dp2 (at_new (u := .tup [.str tab, .int key]) (eg ▸ z2) ht1) (.str g) (dpv _), dp2 upd_same (.str tab) (.int key), shv, shaped2 (okw tab htab) (.inr ⟨key, rfl⟩), _, rfl, ?_⟩
          rw [eqv, eH]
          refine ite2 (fun e => ?_) (fun e => ?_)
          · refine ⟨_, rfl, _, rfl, by show 2 ≤ sizeLine; decide, fun t2 ht2 => ⟨_, rfl, _, rfl, by show 2 ≤ sizeLine; decide, fun t3 ht3 => ?_⟩⟩
            refine ⟨_, _, dp2 (at_new upd_same ht3) (.str wd) (.int o), dp2 upd_same (.str tab) (.int key), shaped2 (okw wd (List.mem_map.mpr ⟨_, hm, rfl⟩)) (.inr ⟨o, rfl⟩), shaped2 (okw tab htab) (.inr ⟨key, rfl⟩), _, rfl, ?_, ((Same.new ht1).trans (Same.new ht2)).trans (Same.new ht3)⟩
            rw [eqv_place, e, Bool.true_and]
          · have e2 : (decide (V.str g = V.str tab) && decide (atN r c.nm = .int key)) = false := by
              cases z : (decide (V.str g = V.str tab) && decide (atN r c.nm = .int key))
              · rfl
              · exact absurd z e
            rw [e2]
            exact ⟨rfl, Same.new ht1⟩
        · rintro b H5 ⟨rfl, s5⟩
          have hf5 := s5 _ _ hf4
          rw [filter_snoc hc]
          cases eh : heldOne (plT As) tab key wd o c with
          | false =>
            refine iteF ⟨hs, _, _, rfl, s4.trans s5, s5 _ _ hl4, pMap pl4 fun a c z => s5 _ _ z, s5 _ _ hl34, ln4.same s5, hf5, ?_⟩
            rw [if_neg Bool.false_ne_true, List.append_nil]
            exact pMap ph4 fun a c z => s5 _ _ z
          | true =>
            refine iteT ?_
            refine ⟨_, rfl, .inl ⟨rfl, _, SqL.of hf5⟩, _, rfl, _, rfl, _, rfl, ca, _, dx, _, _, rfl, s5 _ _ z3, T.c_Column, T.n_Column_name, lk_name c, by show 3 ≤ sizeLine; decide, fun u hu => ?_⟩
            have s6 : Same H4 (upd H5 u (.tup [.str wd, .int o, .str c.nm])) := s5.trans (Same.new hu)
            have hf6 := s6 _ _ hf4
            refine ⟨fp, _, _, rfl, rfl, hf6, by rw [List.length_map, sizeLine_eq]; omega, ?_⟩
            refine ⟨hs ++ [u], _, _, rfl, sWr (s4.trans s6) hfp, ?_, pMap pl4 fun a c z => upd_at (s6 _ _ z) hf6 nofun, ?_, (ln4.same s6).wr hf6, by rw [upd_same, List.map_append]; rfl, ?_⟩
            · rw [upd_ne nlf]
              exact s6 _ _ hl4
            · rw [upd_ne nl3f]
              exact s6 _ _ hl34
            · rw [if_pos rfl, List.map_append, ← List.append_assoc]
              exact pSnoc (pMap ph4 fun a c z => upd_at (s6 _ _ z) hf6 nofun) (upd_at upd_same hf6 nofun)
      · rintro σ H4 ⟨hs, v7, v8, rfl, s4, hl4, pl4, hl34, ln4, hf4, ph4⟩
        rw [List.length_map, pl3.length, List.take_length] at ph4
        exact ⟨hs, _, _, _, _, rfl, s4, hl4, pl4, hf4, ph4⟩
    · rintro σ H2 ⟨hs, v5, v6, v7, v8, rfl, s2, hl2, pl2, hf2, ph2⟩
      rw [List.length_map, pl.length, List.take_length, held_plc tb.dok] at ph2
      exact ⟨_, rfl, k _ fp hs s2 hf2 ph2⟩
end
end K16

/-! K16L: what is amiss in a row -/
namespace K16
open PySem PySem.Spec PyProof.Rows L2 He
section
variable {P : Program} {w : World} {K : Fr} {mg : Str → Option Value} {base : Heap}
def spIsBare (K : Fr) : Sp := fun vs H Q _ => ∃ (ca dx ra : Addr) (cs : Cols) (c : Col) (r : Row), vs = [.ref ca, .ref ra] ∧ H ca = some (.ins (CC K) dx (colF c)) ∧ H ra = some (.dK (rowK r)) ∧ RowOk cs r ∧ c ∈ cs ∧ Q (.bl (bareC r c)) H
theorem sc_is_bare : FnScope n_is_bare p_is_bare (defScope s_is_bare) := ⟨rfl, rfl, rfl, by decide +kernel, rfl, by decide +kernel, by decide +kernel⟩
theorem ok_is_bare (T : Txt K mg w) (F : ∃ fd, FnT K "is_bare" "is_bare" s_is_bare [] (a_is_bare K) fd) : OkD P w K mg base CX0 1 (a_is_bare K) p_is_bare (spIsBare K) := by
  refine okD F sc_is_bare (fun _ _ _ _ _ _ us hl => match us, hl with | [_, _], _ => rfl) (fun vs H Q E h => ?_) (fun cdv A outer s H vs Q E hr h => ?_)
  · obtain ⟨ca, dx, ra, cs, c, r, rfl, _⟩ := h
    rfl
  · obtain ⟨ca, dx, ra, cs, c, r, rfl, hca, hra, ro, hc, k⟩ := h
    have gt : valV (rowK r) (.inr c.nm) = some (atN r c.nm) := by rw [rowK_get]; exact rowOk_at ro hc
    refine ⟨_, (pss_one (ps_ret (pe_and (pe_cmpR op_isN (pe_dget (hu_of hr) (pv 1) (pe_fld (pv 0) rfl) (fun _ _ => rfl)) pe_non (nomark _)) (pe_one (pe_not (pe_fld (pv 0) rfl)))))), ?_⟩
    refine ⟨_, rfl, _, rfl, ca, _, dx, _, _, rfl, hca, T.c_Column, T.n_Column_name, lk_name c, ra, _, rfl, dget (k := .inr c.nm) (.inl hra) gt, rfl, _, rfl, ?_⟩
    unfold bareC at k
    cases e : decide (atN r c.nm = .non) with
    | false =>
      rw [e] at k
      exact iteF k
    | true =>
      rw [e] at k
      exact iteT ⟨_, rfl, ca, _, dx, _, _, rfl, hca, T.c_Column, T.n_Column_empty, lk_empty c, c.bare, rfl, k⟩
structure TbR (H : Hp) (p : Addr) (d : Desc) (As : List ATab) : Prop where
  dok : DescOk d
  tabs : TabsD H p As
  tok : TabsOk d 60 (plT As)
theorem TbR.same {H H' : Hp} {p : Addr} {d : Desc} {As : List ATab} (h : TbR H p d As) (s : Same H H') : TbR H' p d As := ⟨h.dok, h.tabs.keep (.of_same s), h.tok⟩
theorem Tb.r {H : Hp} {x p : Addr} {d : Desc} {As : List ATab} (h : Tb K H x p d As) : TbR H p d As := ⟨h.dok, h.tabs, h.tok⟩
theorem worth_key {kd : Str} {v : V} (lk : kd = "link") (h : v = .non ∨ WOk kd v) (n : decide (v = .non) = false) : ∃ i, v = .int i := by
  rcases h with e | h
  · rw [decide_eq_true e] at n
    cases n
  · subst lk
    rcases h with ⟨e, _⟩ | ⟨e, _⟩ | ⟨e, _⟩ | ⟨_, i, rfl, _⟩
    · exact absurd e (by decide +kernel)
    · exact absurd e (by decide +kernel)
    · exact absurd e (by decide +kernel)
    · exact ⟨i, rfl⟩
def spIsMissing (K : Fr) : Sp := fun vs H Q _ => ∃ (ca dx p ra : Addr) (d : Desc) (As : List ATab) (wd : Str) (cs : Cols) (c : Col) (r : Row), vs = [.ref ca, .ref p, .ref ra] ∧ TbR H p d As ∧ (wd, cs) ∈ d ∧ H ca = some (.ins (CC K) dx (colF c)) ∧ H ra = some (.dK (rowK r)) ∧ RowOk cs r ∧ c ∈ cs ∧ Q (.bl (missC (plT As) r c)) H
theorem sc_is_missing : FnScope n_is_missing p_is_missing (defScope s_is_missing) := ⟨rfl, rfl, rfl, by decide +kernel, rfl, by decide +kernel, by decide +kernel⟩
theorem ok_is_missing (T : Txt K mg w) (F : ∃ fd, FnT K "is_missing" "is_missing" s_is_missing [] (a_is_missing K) fd) : OkD P w K mg base CX0 1 (a_is_missing K) p_is_missing (spIsMissing K) := by
  refine okD F sc_is_missing (fun _ _ _ _ _ _ us hl => match us, hl with | [_, _, _], _ => rfl) (fun vs H Q E h => ?_) (fun cdv A outer s H vs Q E hr h => ?_)
  · obtain ⟨ca, dx, p, ra, d, As, wd, cs, c, r, rfl, _⟩ := h
    rfl
  · obtain ⟨ca, dx, p, ra, d, As, wd, cs, c, r, rfl, tb, hm, hca, hra, ro, hc, k⟩ := h
    have gt : valV (rowK r) (.inr c.nm) = some (atN r c.nm) := by rw [rowK_get]; exact rowOk_at ro hc
    have cok := tb.dok.ok _ hm
    refine ⟨_, (pss_cons (ps_set (i := 3) sc_is_missing.nd rfl (Or.inl rfl) (pe_dget (hu_of hr) (pv 2) (pe_fld (pv 0) rfl) (fun _ _ => rfl)))
      (pss_one (ps_ret (pe_and (pe_cmpR op_notN (pe_fld (pv 0) rfl) pe_non (nomark _)) (pe_and (pe_cmpR op_notN (pv 3) pe_non (nomark _)) (pe_one (pe_cmp (pc_dnotin (hu_of hr) (pv 3) (pe_dget (hu_of hr) (pv 1) (pe_fld (pv 0) rfl) (fun _ _ => rfl)))))))))), ?_⟩
    refine ⟨_, rfl, _, rfl, ca, _, dx, _, _, rfl, hca, T.c_Column, T.n_Column_name, lk_name c, ra, _, rfl, dget (k := .inr c.nm) (.inl hra) gt, ?_⟩
    refine ⟨_, rfl, ca, _, dx, _, _, rfl, hca, T.c_Column, T.n_Column_to, lk_to c, rfl, _, rfl, ?_⟩
    unfold missC at k
    rcases (cok.ok c hc).goal with ⟨lk, g, hg, hgw⟩ | ⟨nl, hg⟩
    · rw [decide_eq_true lk, Bool.true_and, hg] at k
      rw [hg]
      refine iteT ⟨_, rfl, rfl, _, rfl, ?_⟩
      cases e : decide (atN r c.nm = .non) with
      | true =>
        rw [e] at k
        exact iteF k
      | false =>
        rw [e, Bool.not_false, Bool.true_and] at k
        obtain ⟨i, hi⟩ := worth_key lk (atN_ok cok.nd ro hc) e
        obtain ⟨e2, he2, rfl⟩ := List.mem_map.mp hgw
        obtain ⟨q, rs, _, _, hv, hrs, er, rok⟩ := tabD_at tb.dok tb.tabs tb.tok (t := e2.1) (cs := e2.2) he2
        have dg : DGet H p c.goal (some (.ref q)) := by
          rw [hg]
          exact dget (k := .inr e2.1) (.inl tb.tabs.1) hv
        have di : DGet H q (atN r c.nm) (valV (rowsK rs) (.inl i)) := by
          rw [hi]
          exact dget (k := .inl i) (.inl hrs.1) rfl
        rw [hi] at k
        refine iteT ⟨_, rfl, _, rfl, _, rfl, ca, _, dx, _, _, rfl, hca, T.c_Column, T.n_Column_to, lk_to c, p, _, rfl, dg, q, _, rfl, di, ?_⟩
        have eo : (valV (rowsK rs) (.inl i)).isSome = hasKey (plT As) (.str e2.1) (.int i) := by
          show _ = (get (rowsOf (plT As) e2.1) i).isSome
          rw [← er, rowsK_get, plR_get]
          cases get rs i <;> rfl
        rw [eo]
        exact k
    · rw [decide_eq_false nl] at k
      rw [hg]
      exact iteF k
theorem scal_ok {kd : Str} {x y : V} (hx : x = .non ∨ WOk kd x) (hy : y = .non ∨ WOk kd y) : scal x y = true := by
  have kinds : ∀ {v : V}, (v = .non ∨ WOk kd v) → v = .non ∨ (kd = "whole" ∧ ∃ i, v = .int i) ∨ (kd = "text" ∧ ∃ s, v = .str s) ∨ (kd = "truth" ∧ ∃ b, v = .bl b) ∨ (kd = "link" ∧ ∃ i, v = .int i) := fun h => by
    rcases h with h | ⟨h1, h2⟩ | ⟨h1, s, h2, _⟩ | ⟨h1, h2⟩ | ⟨h1, i, h2, _⟩
    · exact .inl h
    · exact .inr (.inl ⟨h1, h2⟩)
    · exact .inr (.inr (.inl ⟨h1, s, h2⟩))
    · exact .inr (.inr (.inr (.inl ⟨h1, h2⟩)))
    · exact .inr (.inr (.inr (.inr ⟨h1, i, h2⟩)))
  rcases kinds hx with rfl | ⟨e1, i, rfl⟩ | ⟨e1, s, rfl⟩ | ⟨e1, b, rfl⟩ | ⟨e1, i, rfl⟩ <;> rcases kinds hy with rfl | ⟨e2, j, rfl⟩ | ⟨e2, z, rfl⟩ | ⟨e2, c, rfl⟩ | ⟨e2, j, rfl⟩ <;> first | rfl | (rw [e1] at e2; exact absurd e2 (by decide +kernel))
def spIsTwice (K : Fr) : Sp := fun vs H Q _ => ∃ (ca dx p : Addr) (d : Desc) (As : List ATab) (tab : Str) (key : Int) (cs : Cols) (c : Col) (r : Row), vs = [.ref ca, .ref p, .str tab, .int key] ∧ TbR H p d As ∧ (tab, cs) ∈ d ∧ H ca = some (.ins (CC K) dx (colF c)) ∧ get (rowsOf (plT As) tab) key = some r ∧ c ∈ cs ∧
  ∀ H', Same H H' → Q (.bl (twiceC (rowsOf (plT As) tab) key r c)) H'
theorem sc_is_twice : FnScope n_is_twice p_is_twice (defScope s_is_twice) := ⟨rfl, rfl, rfl, by decide +kernel, rfl, by decide +kernel, by decide +kernel⟩
theorem ok_is_twice (T : Txt K mg w) (F : ∃ fd, FnT K "is_twice" "is_twice" s_is_twice [] (a_is_twice K) fd) : OkD P w K mg base CX0 1 (a_is_twice K) p_is_twice (spIsTwice K) := by
  refine okD F sc_is_twice (fun _ _ _ _ _ _ us hl => match us, hl with | [_, _, _, _], _ => rfl) (fun vs H Q E h => ?_) (fun cdv A outer s H vs Q E hr h => ?_)
  · obtain ⟨ca, dx, p, d, As, tab, key, cs, c, r, rfl, _⟩ := h
    rfl
  · obtain ⟨ca, dx, p, d, As, tab, key, cs, c, r, rfl, tb, hm, hca, hg, hc, k⟩ := h
    have cok := tb.dok.ok _ hm
    obtain ⟨q, rs, tm, _, hv, hrs, er, rok⟩ := tabD_at tb.dok tb.tabs tb.tok hm
    rw [← er] at hg k
    obtain ⟨ra, ram, rv, hra⟩ := row_at hrs hg
    have ro : RowOk cs r := rok.ok (key, r) (get_mem hg)
    have gt : valV (rowK r) (.inr c.nm) = some (atN r c.nm) := by rw [rowK_get]; exact rowOk_at ro hc
    refine ⟨_, (pss_cons (ps_set (i := 4) sc_is_twice.nd rfl (Or.inr rfl) (pe_dget (hu_of hr) (pe_dget (hu_of hr) (pe_dget (hu_of hr) (pv 1) (pv 2) (fun _ _ => rfl)) (pv 3) (fun _ _ => rfl)) (pe_fld (pv 0) rfl) (fun _ _ => rfl)))
      (pss_cons (ps_if (pt_mid (PW.pt (pw_or (pt_not (pt_val (pe_fld (pv 0) rfl))) (pw_or1 (pt_cmpR op_isN (pv 4) pe_non (nomark _)))))) (pss_one (ps_ret pe_bl)) pss_nil)
      (pss_one (ps_ret (pe_callB (cr_any rfl) (by rfl) T.z_any (by decide +kernel) (pa_cons (pe_lock (pe_lc (own := [("other", 5), ("row", 6)]) (g := (gTup K 2 (gCons (gName 5) (gCons (gName 6) gNil)))) (tt := tYes) rfl sc_is_twice.nd (pi_items (pe_dget (hu_of hr) (pv 1) (pv 2) (fun _ _ => rfl))) (blkOk_by (own := [("other", 5), ("row", 6)]) (N := n_is_twice) (sc := defScope s_is_twice) (by decide +kernel)) (fun _ _ _ _ _ => (pg_tup rfl (pgs_cons (pg_name (i := 5) sc_is_twice.nd rfl (Or.inl rfl)) (pgs_cons (pg_name (i := 6) sc_is_twice.nd rfl (Or.inl rfl)) pgs_nil)))) (fun _ _ _ _ _ => pts_nil) (fun _ _ _ _ _ => (pe_and (pe_cmpR op_ne (pv 5) (pv 3) (nomark _)) (pe_one (pe_cmpR op_eq (pe_dget (hu_of hr) (pv 6) (show PE _ _ (tFld K _ _) from (pe_fld (pv 0) rfl)) (fun _ _ => rfl)) (pv 4) (nomark _))))))) pa_nil)))))), ?_⟩
    refine ⟨_, rfl, _, rfl, p, _, rfl, dget (k := .inr tab) (.inl tb.tabs.1) hv, _, rfl, q, _, rfl, dget (k := .inl key) (.inl hrs.1) rv, _, rfl, ca, _, dx, _, _, rfl, hca, T.c_Column, T.n_Column_name, lk_name c, ra, _, rfl, dget (k := .inr c.nm) (.inl hra) gt, ?_⟩
    refine ⟨fun b H2 => b = (!c.lone || decide (atN r c.nm = .non)) ∧ H2 = H, ?_, ?_⟩
    · refine ⟨_, rfl, ca, _, dx, _, _, rfl, hca, T.c_Column, T.n_Column_once, lk_once c, c.lone, rfl, ?_⟩
      cases c.lone with
      | false => exact iteT ⟨rfl, rfl⟩
      | true => exact iteF ⟨_, rfl, rfl, _, rfl, rfl, rfl⟩
    · rintro b H2 ⟨rfl, rfl⟩
      unfold twiceC at k
      cases e : (!c.lone || decide (atN r c.nm = .non)) with
      | true =>
        refine iteT ?_
        have e2 : (c.lone && (!decide (atN r c.nm = .non) && (plR rs).any fun x => !decide (x.1 = key) && decide (atN x.2 c.nm = atN r c.nm))) = false := by
          cases h1 : c.lone <;> cases h2 : decide (atN r c.nm = .non) <;> rw [h1, h2] at e <;> first | rfl | cases e
        rw [e2] at k
        exact k _ (Same.refl _)
      | false =>
        refine iteF ?_
        have e2 : (c.lone && (!decide (atN r c.nm = .non) && (plR rs).any fun x => !decide (x.1 = key) && decide (atN x.2 c.nm = atN r c.nm))) = (plR rs).any fun x => !decide (x.1 = key) && decide (atN x.2 c.nm = atN r c.nm) := by
          cases h1 : c.lone <;> cases h2 : decide (atN r c.nm = .non) <;> rw [h1, h2] at e <;> first | rfl | cases e
        rw [e2] at k
        refine ⟨q, _, hrs.1, trivial, fun od => ?_⟩
        refine ⟨_, rfl, _, rfl, p, _, rfl, dget (k := .inr tab) (rdLock (.inl tb.tabs.1) hrs.1) hv, q, _, _, rfl, upd_same, fun D hD => ?_⟩
        have rdr : ∀ x ∈ rs, Rd (upd H2 q (.frz od (.dK (rowsK rs)))) x.2.1 (.dK (rowK x.2.2)) := fun x hx => rdLock (.inl (hrs.2 x hx)) hrs.1
        have hca1 : upd H2 q (.frz od (.dK (rowsK rs))) ca = some (.ins (CC K) dx (colF c)) := upd_at hca hrs.1 nofun
        have hq1 : upd H2 q (.frz od (.dK (rowsK rs))) q = some (.frz od (.dK (rowsK rs))) := upd_same
        generalize eH1 : upd H2 q (.frz od (.dK (rowsK rs))) = H1 at hD rdr hca1 hq1 ⊢
        have few := rok.few
        unfold plR at few
        rw [List.length_map] at few
        refine lc_map walk_items (((plR rs).map fun x => !decide (x.1 = key) && decide (atN x.2 c.nm = atN r c.nm)).map V.bl) (by unfold plR rowsK; simp) (by unfold rowsK; rw [List.length_map]; omega) hD (fun H s => s _ _ hq1) ?_ ?_
        · rintro i z x H3 H' Nx Ad hz s3 ⟨U, x1, y1, rfl, hU, rfl, ex, ey⟩ qd
          obtain ⟨k0, hkv, rfl⟩ := pair_at ex ey
          obtain ⟨rr, hrr, rfl, rfl⟩ := rowsK_at hkv
          have rrm := List.mem_of_getElem? hrr
          obtain ⟨zb, hzb, rfl⟩ := map_at hz
          obtain ⟨zr, hzr, rfl⟩ := map_at hzb
          have hpr : (plR rs)[i]? = some (rr.1, rr.2.2) := map_get hrr
          rw [hpr] at hzr
          cases hzr
          have ror : RowOk cs rr.2.2 := rok.ok (rr.1, rr.2.2) (List.mem_of_getElem? hpr)
          have gtr : valV (rowK rr.2.2) (.inr c.nm) = some (atN rr.2.2 c.nm) := by rw [rowK_get]; exact rowOk_at ror hc
          have sU : Same H3 (upd H3 U (.tup [kV (.inl rr.1), .ref rr.2.1])) := Same.new hU
          have en : (!decide (V.int rr.1 = V.int key)) = (!decide (rr.1 = key)) := by rw [dec_int]; rfl
          refine ⟨U, _, rfl, SqT.of upd_same, rfl, _, _, rfl, _, _, rfl, rfl, rfl, _, rfl, _, rfl, rfl, _, rfl, ?_⟩
          rw [show (!decide (kV (.inl rr.1) = V.int key)) = (!decide (rr.1 = key)) from en]
          cases h1 : decide (rr.1 = key) with
          | true =>
            refine iteF ?_
            have z := qd _ sU
            rw [h1] at z
            exact z
          | false =>
            refine iteT ⟨_, rfl, _, rfl, ca, _, dx, _, _, rfl, sU _ _ (s3 _ _ hca1), T.c_Column, T.n_Column_name, lk_name c, _, _, rfl, dget (k := .inr c.nm) (Rd.sameK (Rd.sameK (rdr rr rrm) s3) sU) gtr, _, rfl, scal_ok (atN_ok cok.nd ror hc) (atN_ok cok.nd ro hc), ?_⟩
            have z := qd _ sU
            rw [h1] at z
            exact z
        · intro H3 s3 hD3
          rw [← eH1] at s3
          obtain ⟨u1, u2⟩ := unlockS s3 hrs.1
          refine ⟨u1, D, _, rfl, SqL.of (upd_at hD3 u1 nofun), ?_⟩
          rw [show ((plR rs).map fun x => !decide (x.1 = key) && decide (atN x.2 c.nm = atN r c.nm)).any id = (plR rs).any fun x => !decide (x.1 = key) && decide (atN x.2 c.nm = atN r c.nm) by rw [List.any_map]; rfl]
          exact k _ u2
end
end K16

/-! K16Tup: tuples whose object is known: tuple(l), t[:n], dict(t) -/
namespace K16
open PySem PySem.Spec PyProof.Rows L2 He
section
variable {X : Cx}
theorem sqF {K : Fr} {H : Hp} {a : Addr} {ob : Obj} {xs : List V} (h : H a = some (.frz ob (.tup xs))) : SqT K H a xs := .inl (.inr ⟨ob, h⟩)
def rTupF (K : Fr) : List V → Hp → VK → Prop := fun xs H Q => ∃ (p : Addr) (ys : List V), xs = [.ref p] ∧ SqL K H p ys ∧ ∀ l ob, H l = none → ob.dict = none → Q (.ref l) (upd H l (.frz ob (.tup ys)))
theorem call_tupleF : CallR X (.type "tuple") (rTupF X.K) := by
  intro pins s σ H xs us Q I r h
  obtain ⟨p, ys, rfl, hq, q⟩ := h
  obtain ⟨u, rfl, rx⟩ := vals1 r
  cases rx
  obtain ⟨its, r', pl, hz⟩ := I.list hq
  have hlen := r'.length
  refine call_tuple_list pl.isList (fun h' kp => ?_) (by simp only [List.size_toArray]; omega)
  have I1 : Inv X pins σ H { s with heap := h' } := I.kept (t' := s.toks) kp
  exact ⟨.ref h'.objs.size, _, I1.laid (t' := s.toks) (o := .frz { cls := .type "tuple", data := .seq its.toArray } (.tup ys)) (fun b o e => Heap.get?_push_of_some _ e) (Nat.le_refl _) ⟨Heap.get?_push_size _ rfl, hz, its, r', IsTup.new _ _⟩, rfl, q _ _ (I1.hok.fresh (Nat.le_refl _)) rfl⟩
def rSlF : V → Option Int → Option Int → Hp → VK → Prop := fun x lo hi H Q => ∃ (a : Addr) (xs : List V) (ob : Obj), x = .ref a ∧ H a = some (.frz ob (.tup xs)) ∧ (HT.sIx xs.length 0 lo = 0 ∧ HT.sIx xs.length xs.length hi = xs.length → Q (.ref a) H) ∧
  (¬ (HT.sIx xs.length 0 lo = 0 ∧ HT.sIx xs.length xs.length hi = xs.length) → ∀ p ob', H p = none → ob'.dict = none → Q (.ref p) (upd H p (.frz ob' (.tup (cutV xs lo hi)))))
theorem sl_tupF : SlR X rSlF := by
  intro pins s σ H x v vl vu lo hi sl Q I rx hs pl pu h
  obtain ⟨a, xs, ob, rfl, ha, q1, q2⟩ := h
  cases rx
  obtain ⟨its, r, ht, hz⟩ := I.tuple (sqF ha)
  have hl : its.toArray.size = xs.length := by rw [List.size_toArray]; exact r.length.symm
  refine ⟨"tuple", _, PyProof.Rows.slot_tuple_getitem.lookup, ht.typeIs, ?_⟩
  by_cases hw : HT.sIx xs.length 0 lo = 0 ∧ HT.sIx xs.length xs.length hi = xs.length
  · exact getItem_tuple_whole ht hs pl pu (by rw [hl]; exact hw) ⟨.ref a, H, I, rfl, q1 hw⟩
  · refine HT.getItem_tuple_cut ht hs pl pu (by rw [hl]; exact hw) ?_ (by rw [hl]; exact hz)
    rw [hl]
    refine ⟨.ref s.heap.objs.size, _, I.laid (t' := s.toks) (o := .frz { cls := .type "tuple", data := .seq ((its.toArray.toList.drop (HT.sIx xs.length 0 lo)).take (HT.sIx xs.length xs.length hi - HT.sIx xs.length 0 lo)).toArray } (.tup (cutV xs lo hi))) (fun b o q => Heap.get?_push_of_some _ q) (Nat.le_refl _) ?_, rfl, q2 hw _ _ (I.hok.fresh (Nat.le_refl _)) rfl⟩
    exact ⟨Heap.get?_push_size _ rfl, Nat.le_trans (cutV_length xs lo hi) hz, _, (r.drop (HT.sIx xs.length 0 lo)).take (HT.sIx xs.length xs.length hi - HT.sIx xs.length 0 lo), IsTup.new _ _⟩
theorem pairs_two {pins : List (Addr × Obj)} {σ : L2.St} {H : Hp} {s : Shared} (I : Inv X pins σ H s) : ∀ {ps : List Addr} {kvs : List (Key × V)}, Paired (fun p kv => SqT X.K H p [kV kv.1, kv.2]) ps kvs →
    ∃ (us : List (Value × Value)) (prs : List (Key × Value)), KV kvs prs ∧ us.length = ps.length ∧ prs.length = ps.length ∧ ∀ (j : Nat) (k v : Value), us[j]? = some (k, v) → ∃ (b : Addr) (kk : Key), ps[j]? = some b ∧ prs[j]? = some (kk, v) ∧ IsTup s.heap b #[k, v] ∧ (mixKind X.prog X.w).is kk k = true
  | _, _, .nil => ⟨[], [], .nil, rfl, rfl, fun j k v e => by simp at e⟩
  | _, _, .cons (a := p) (b := kv) h t => by
    obtain ⟨us, prs, r, l1, l2, hp⟩ := pairs_two I t
    obtain ⟨its, rv, ht, _⟩ := I.tuple h
    obtain ⟨u, y, ei, ru, ry⟩ := vals2 rv
    subst ei
    refine ⟨(u, y) :: us, (kv.1, y) :: prs, .cons ⟨rfl, ry⟩ r, by rw [List.length_cons, List.length_cons, l1], by rw [List.length_cons, List.length_cons, l2], fun j k v e => ?_⟩
    cases j with
    | zero =>
      cases (show (u, y) = (k, v) from Option.some.inj e)
      exact ⟨p, kv.1, rfl, rfl, ht, kV_is ru⟩
    | succ j =>
      obtain ⟨b, kk, e1, e2, e3, e4⟩ := hp j k v (by simpa using e)
      exact ⟨b, kk, by simpa using e1, by simpa using e2, e3, e4⟩
/-- dict(t) of a tuple of pairs -/
def rDictT (K : Fr) : List V → Hp → VK → Prop := fun xs H Q => ∃ (a : Addr) (ps : List Addr) (kvs : List (Key × V)) (ob : Obj), xs = [.ref a] ∧ H a = some (.frz ob (.tup (ps.map V.ref))) ∧ ob.dict = none ∧ Paired (fun p kv => SqT K H p [kV kv.1, kv.2]) ps kvs ∧
    ∀ p, H p = none → Q (.ref p) (upd H p (.dK (mergeK [] kvs)))
theorem call_dictT (hcalm : X.calm = true) : CallR X (.type "dict") (rDictT X.K) := by
  intro pins s σ H xs us Q I r h
  obtain ⟨a, ps, kvs, ob, rfl, ha, hd, hp, q⟩ := h
  obtain ⟨u, rfl, rx⟩ := vals1 r
  cases rx
  obtain ⟨ho, hz, its, rv, o2, ho2, hc, n, hdat⟩ : s.heap.get? a = some ob ∧ (ps.map V.ref).length ≤ sizeLine ∧ ∃ its : List Value, Vals (ps.map V.ref) its ∧ IsTup s.heap a its.toArray := I.hok a _ ha
  have eo : o2 = ob := Option.some.inj (ho2.symm.trans ho)
  subst eo
  have ei := refs_at rv
  subst ei
  rw [List.length_map] at hz
  obtain ⟨us, prs, rel, l1, l2, hpr⟩ := pairs_two I hp
  have items : PairItems s.heap (ps.map Value.ref).toArray (fun j => ps.getD j 0) us := by
    refine ⟨by simp [l1], fun j k v e => ?_⟩
    obtain ⟨b, kk, e1, e2, e3, e4⟩ := hpr j k v e
    have eb : ps.getD j 0 = b := by rw [List.getD_eq_getElem?_getD, e1]; rfl
    refine ⟨by simp [e1], ?_⟩
    show PairAt s.heap (ps.getD j 0) k v
    rw [eb]
    exact .inl e3
  refine PySem.call_dict_pairs (knd := mixKind X.prog X.w) (kvs := prs) (PairArg.tuple a (ps.map Value.ref).toArray (fun j => ps.getD j 0) us) (I.ok.hd hcalm) ⟨⟨o2, n, ho, hc, hd, hdat⟩, items⟩ ⟨l2.trans l1.symm, fun i key v e => ?_⟩ (by omega) fun h' tk hd' k => ?_
  · obtain ⟨b, kk, e1, e2, e3, e4⟩ := hpr i key v e
    exact ⟨kk, e2, e4⟩
  · have hm : (s.heap.objs.size == sysModules) = false := beq_eq_false_iff_ne.mpr (Nat.ne_of_gt I.big)
    have hlen : (mergeK [] kvs).length ≤ sizeLine := by
      refine Nat.le_trans (length_mergeK kvs []) ?_
      rw [List.length_nil, Nat.zero_add, rel.length, l2]
      exact hz
    exact ⟨.ref s.heap.objs.size, upd H s.heap.objs.size (.dK (mergeK [] kvs)), I.laid (t' := tk) (fun b o e => k b o (by simp) e) (Nat.le_refl _) (show ObjOk X.prog X.w _ _ _ (.dK (mergeK [] kvs)) from ⟨hlen, hm, merged [] prs, KV.merge rel .nil, hd'⟩), rfl, q _ (I.hok.fresh (Nat.le_refl _))⟩
end
end K16

/-! K16N: a statement asked -/
namespace K16
open PySem PySem.Spec PyProof.Rows L2 He
section
variable {P : Program} {w : World} {K : Fr} {mg : Str → Option Value} {base : Heap}
def kdn : Kd → Str
  | .put => "put"
  | .set => "set"
  | .drop => "drop"
/-- a statement in the heap -/
def StmV (H : Hp) (sa : Addr) (s : Stm) : Prop := (∃ q, s.kd ≠ .drop ∧ H sa = some (.tup [.str (kdn s.kd), .str s.tab, .int s.key, .ref q]) ∧ PrsT H q s.prs) ∨ (s.kd = .drop ∧ H sa = some (.tup [.str (kdn s.kd), .str s.tab, .int s.key]) ∧ s.prs = [])
theorem StmV.keep {H H' : Hp} {sa : Addr} {s : Stm} (h : StmV H sa s) (k : Keep H H') : StmV H' sa s := by
  rcases h with ⟨q, h1, h2, h3⟩ | ⟨h1, h2, h3⟩
  · exact .inl ⟨q, h1, k.get _ _ h2 rfl, h3.keep k⟩
  · exact .inr ⟨h1, k.get _ _ h2 rfl, h3⟩
theorem StmV.same {H H' : Hp} {sa : Addr} {s : Stm} (h : StmV H sa s) (k : Same H H') : StmV H' sa s := h.keep (.of_same k)
theorem StmV.at_ {H : Hp} {sa : Addr} {s : Stm} (h : StmV H sa s) : ∃ r, H sa = some (.tup (.str (kdn s.kd) :: .str s.tab :: .int s.key :: r)) ∧ r.length ≤ 1 := by
  rcases h with ⟨q, h1, h2, h3⟩ | ⟨h1, h2, h3⟩
  · exact ⟨_, h2, Nat.le_refl _⟩
  · exact ⟨_, h2, Nat.zero_le _⟩
def spPairsOf : Sp := fun vs H Q _ => ∃ (sa : Addr) (s : Stm), vs = [.ref sa] ∧ StmV H sa s ∧ (s.prs.map (·.1)).Nodup ∧ ∀ H' g, Same H H' → H g = none → H' g = some (.dK (rowK s.prs)) → Q (.ref g) H'
theorem sc_pairs_of : FnScope n_pairs_of p_pairs_of (defScope s_pairs_of) := ⟨rfl, rfl, rfl, by decide +kernel, rfl, by decide +kernel, by decide +kernel⟩
theorem ok_pairs_of (T : Txt K mg w) (F : ∃ fd, FnT K "pairs_of" "pairs_of" s_pairs_of [] (a_pairs_of K) fd) : OkD P w K mg base CX0 1 (a_pairs_of K) p_pairs_of spPairsOf := by
  refine okD F sc_pairs_of (fun _ _ _ _ _ _ us hl => match us, hl with | [_], _ => rfl) (fun vs H Q E h => ?_) (fun cdv A outer s H vs Q E hr h => ?_)
  · obtain ⟨sa, s, rfl, _⟩ := h
    rfl
  · obtain ⟨sa, st, rfl, hs, nd, k⟩ := h
    refine ⟨_, (pss_cons (ps_asg (pv 0) (pg_star rfl (pgs_cons (pg_name (i := 1) sc_pairs_of.nd rfl (Or.inl rfl)) (pgs_cons (pg_name (i := 2) sc_pairs_of.nd rfl (Or.inl rfl)) (pgs_cons (pg_name (i := 3) sc_pairs_of.nd rfl (Or.inl rfl)) (pgs_star (pg_name (i := 4) sc_pairs_of.nd rfl (Or.inl rfl))))))))
      (pss_cons (ps_if (pt_cmpR op_eq (pe_callB call_len_seq (by rfl) T.z_len (by decide +kernel) (pa_cons (pv 4) pa_nil)) pe_int (nomark _)) (pss_one (ps_ret pe_dnewK)) pss_nil)
      (pss_one (ps_ret (pe_callTy (call_dictT rfl) (by rfl) T.z_dict (by decide +kernel) (pa_cons (pe_ix ix_list (pv 4) pe_int (fun _ _ => rfl)) pa_nil)))))), ?_⟩
    rcases hs with ⟨q, h1, h2, ob, as, hob, hq, pp⟩ | ⟨h1, h2, h3⟩
    · refine ⟨_, rfl, sa, _, rfl, SqT.of h2, by show 3 ≤ 4; decide, by show 4 ≤ 100; decide, fun gp hgp => ?_⟩
      refine ⟨_, _, rfl, _, _, rfl, _, _, rfl, _, _, rfl, rfl, ?_⟩
      refine ⟨_, rfl, gp, _, rfl, .inl (SqL.of upd_same), rfl, _, rfl, ifF rfl ?_⟩
      refine ⟨_, rfl, gp, _, 0, .ref q, rfl, rfl, SqL.of upd_same, at_of (j := 0) rfl rfl, q, as, rowK st.prs, ob, rfl, at_new hq hgp, hob, ?_, fun g hg => ?_⟩
      · exact pMapR pp fun a x _ z => SqT.of (at_new z hgp)
      · rw [mergeK_nd _ [] (by rw [List.nil_append, rowK_keys]; exact nd_inr nd), List.nil_append]
        exact k _ g ((Same.new hgp).trans (Same.new hg)) (upd_none hg).2 upd_same
    · refine ⟨_, rfl, sa, _, rfl, SqT.of h2, by show 3 ≤ 3; decide, by show 3 ≤ 100; decide, fun gp hgp => ?_⟩
      refine ⟨_, _, rfl, _, _, rfl, _, _, rfl, _, _, rfl, rfl, ?_⟩
      refine ⟨_, rfl, gp, _, rfl, .inl (SqL.of upd_same), rfl, _, rfl, ifT rfl fun g hg => ?_⟩
      refine k _ g ((Same.new hgp).trans (Same.new hg)) (upd_none hg).2 ?_
      rw [h3]
      exact upd_same
theorem rowK_at {r : Row} {i : Nat} {k : Key} {v : V} (h : (rowK r)[i]? = some (k, v)) : ∃ n, r[i]? = some (n, v) ∧ k = .inr n := by
  obtain ⟨q, hq, e⟩ := map_at h
  cases e
  exact ⟨q.1, hq, rfl⟩
def spAskPairs (K : Fr) : Sp := fun vs H Q _ => ∃ (x sa : Addr) (d : Desc) (s : Stm), vs = [.ref x, .ref sa] ∧ SchI K H x d ∧ DescOk d ∧ StmV H sa s ∧ StmOk d s ∧ ∀ H', Same H H' → Q .non H'
theorem sc_ask_pairs : FnScope n_ask_pairs p_ask_pairs (defScope s_ask_pairs) := ⟨rfl, rfl, rfl, by decide +kernel, rfl, by decide +kernel, by decide +kernel⟩
theorem ok_ask_pairs (T : Txt K mg w) (O_Schema_columns : OkD P w K mg base CX0 1 (a_Schema_columns K) p_Schema_columns (spSCols K)) (O_Schema_told : OkD P w K mg base CX0 2 (a_Schema_told K) p_Schema_told (spSTold K)) (O_pairs_of : OkD P w K mg base CX0 1 (a_pairs_of K) p_pairs_of spPairsOf) (O_of_kind : OkD P w K mg base CX0 3 (a_of_kind K) p_of_kind spOfKind)
    (F : ∃ fd, FnT K "ask_pairs" "ask_pairs" s_ask_pairs [] (a_ask_pairs K) fd) : OkD P w K mg base CX0 4 (a_ask_pairs K) p_ask_pairs (spAskPairs K) := by
  refine okD F sc_ask_pairs (fun _ _ _ _ _ _ us hl => match us, hl with | [_, _], _ => rfl) (fun vs H Q E h => ?_) (fun cdv A outer s H vs Q E hr h => ?_)
  · obtain ⟨x, sa, d, s, rfl, _⟩ := h
    rfl
  · obtain ⟨x, sa, d, st, rfl, sch, dok, sv, sok, k⟩ := h
    obtain ⟨r0, hsa, _⟩ := sv.at_
    obtain ⟨cs, hm, hp⟩ := sok.has
    have cok := dok.ok _ hm
    dsimp only at cok
    obtain ⟨dx, f, ps, h1, _⟩ := id sch
    refine ⟨_, (pss_cons (ps_set (i := 2) sc_ask_pairs.nd rfl (Or.inl rfl) (pe_ix ix_tup (pv 1) pe_int (fun _ _ => rfl)))
      (pss_cons (ps_set (i := 3) sc_ask_pairs.nd rfl (Or.inl rfl) (pe_ownM O_Schema_columns (pv 0) T.c_Schema T.h_Schema_columns (hr.mono (by decide)) (pa_cons (pv 2) pa_nil)))
      (pss_cons (ps_set (i := 4) sc_ask_pairs.nd rfl (Or.inl rfl) (pe_own O_pairs_of (hr.mono (by decide)) T.g_pairs_of (pa_cons (pv 1) pa_nil)))
      (pss_cons (ps_lock (ps_for PassesOwn.never rfl (pi_keys (pv 4)) (pg_name (i := 5) sc_ask_pairs.nd rfl (Or.inl rfl)) (pss_one (ps_expr (pe_ownM O_Schema_told (pv 0) T.c_Schema T.h_Schema_told (hr.mono (by decide)) (pa_cons (pv 2) (pa_cons (pv 5) pa_nil)))))))
      (pss_one (ps_for PassesOwn.never rfl (pi_list (pv 3)) (pg_name (i := 6) sc_ask_pairs.nd rfl (Or.inl rfl)) (pss_cons (ps_set (i := 7) sc_ask_pairs.nd rfl (Or.inl rfl) (pe_dget1 (hu_of hr) (pv 4) (pe_fld (pv 6) rfl) ⟨rfl, rfl, rfl, rfl⟩))
        (pss_one (ps_if (pt_mid (PW.pt (pw_and (pt_cmpR op_notN (pv 7) pe_non (nomark _)) (pw_and1 (pt_not (pt_val (pe_own O_of_kind (hr.mono (by decide)) T.g_of_kind (pa_cons (pe_fld (pv 6) rfl) (pa_cons (pv 7) pa_nil))))))))) (pss_one ps_never) pss_nil))))))))), ?_⟩
    refine ⟨_, rfl, sa, _, 1, .str st.tab, rfl, rfl, SqT.of hsa, at_of (j := 1) rfl rfl, ?_⟩
    refine ⟨_, rfl, x, dx, _, rfl, h1, rfl, _, rfl, x, d, st.tab, cs, rfl, sch, dok.nd, hm, fun H1 l s1 hc => ?_⟩
    refine ⟨_, rfl, sa, st, rfl, sv.same s1, sok.nd, fun H2 g s2 ng hg => ?_⟩
    refine ⟨g, _, hg, trivial, fun od => ?_⟩
    have sL : Same H1 (upd H2 g (.frz od (.dK (rowK st.prs)))) := sWr s2 ng
    have hgL : upd H2 g (.frz od (.dK (rowK st.prs))) g = some (.frz od (.dK (rowK st.prs))) := upd_same
    generalize eL : upd H2 g (.frz od (.dK (rowK st.prs))) = HL at sL hgL ⊢
    refine ⟨_, rfl, g, od, rfl, .inl ⟨_, hgL, ?_⟩⟩
    refine for_it walk_keys (fun i σ H3 => ∃ v5 v6 v7, σ = [some (.ref x), some (.ref sa), some (.str st.tab), some (.ref l), some (.ref g), v5, v6, v7] ∧ Same HL H3) ⟨none, none, none, rfl, Same.refl _⟩ (fun i σ H3 _ h => ?_) ?_ ?_
    · obtain ⟨_, _, _, _, h⟩ := h
      exact h _ _ hgL
    · rintro i y σ Hz H3 hi ⟨v5, v6, v7, rfl, s3⟩ ⟨rfl, k0, v0, hkv, rfl⟩
      obtain ⟨nm, hnm, rfl⟩ := rowK_at hkv
      obtain ⟨c, hc, ec, _⟩ := hp _ (List.mem_of_getElem? hnm)
      have s13 := s1.trans (sL.trans s3)
      refine ⟨_, rfl, x, dx, _, rfl, s13 _ _ h1, rfl, _, rfl, _, rfl, x, d, st.tab, nm, cs, rfl, sch.keep (.of_same s13), dok.nd, hm, List.mem_map.mpr ⟨c, hc, ec⟩, fun H4 a s4 => ⟨_, _, _, rfl, s3.trans s4⟩⟩
    · rintro σ H3 ⟨v5, v6, v7, rfl, s3⟩
      rw [← eL] at s3
      obtain ⟨u1, u2⟩ := unlockS s3 hg
      refine ⟨u1, ?_⟩
      generalize upd H3 g (.dK (rowK st.prs)) = H4 at u2 ⊢
      obtain ⟨as, hl, pc⟩ := hc.keep (.of_same (s2.trans u2))
      have hg4 := u2 _ _ hg
      refine ⟨_, rfl, l, rfl, ⟨_, SqL.of hl⟩, ?_⟩
      refine for_list (K := K) (a := l) (xs := as.map V.ref) (fun i σ H5 => ∃ v5 v6 v7, σ = [some (.ref x), some (.ref sa), some (.str st.tab), some (.ref l), some (.ref g), v5, v6, v7] ∧ Same H4 H5) ⟨_, _, _, rfl, Same.refl _⟩ (fun i σ H5 _ h => ?_) ?_ ?_
      · obtain ⟨_, _, _, _, h⟩ := h
        exact SqL.of (h _ _ hl)
      · rintro i y σ H5 hi ⟨v5, v6, v7, rfl, s5⟩
        obtain ⟨a, c, dc, rfl, hcc, ha⟩ := col_at pc hi
        have cm := List.mem_of_getElem? hcc
        have ha5 := s5 _ _ ha
        have hg5 := s5 _ _ hg4
        have wv : (get st.prs c.nm).getD .non = .non ∨ WOk c.kd ((get st.prs c.nm).getD .non) := by
          cases e : get st.prs c.nm with
          | none => exact .inl rfl
          | some v =>
            obtain ⟨c2, h2, n2, w2⟩ := hp _ (get_mem e)
            rw [col_uniq cok.nd h2 cm n2] at w2
            exact w2
        refine ⟨_, rfl, g, rfl, .inl ⟨_, .inl hg5⟩, _, rfl, a, _, dc, _, _, rfl, ha5, T.c_Column, T.n_Column_name, lk_name c, get st.prs c.nm, dget (k := .inr c.nm) (.inl hg5) (rowK_get _ _), ?_⟩
        refine ⟨fun b H6 => b = false ∧ Same H5 H6, ?_, ?_⟩
        · refine ⟨_, rfl, rfl, _, rfl, ?_⟩
          rcases wv with e | wv
          · rw [e]
            exact iteF ⟨rfl, Same.refl _⟩
          · refine ite2 (fun _ => ?_) (fun _ => ⟨rfl, Same.refl _⟩)
            exact ⟨_, rfl, a, _, dc, _, _, rfl, ha5, T.c_Column, T.n_Column_kind, lk_kind c, _, rfl, c.kd, _, rfl, wv, fun H6 s6 => ⟨true, rfl, rfl, s6⟩⟩
        · rintro b H6 ⟨rfl, s6⟩
          exact iteF ⟨_, _, _, rfl, s5.trans s6⟩
      · rintro σ H5 ⟨v5, v6, v7, rfl, s5⟩
        exact k _ (s1.trans (s2.trans (u2.trans s5)))
/-- an exception that tells r -/
def XAt (K : Fr) (H : Hp) (r : List V) : XK := fun cls d H' => ∃ (nm : Str) (t1 t2 t3 : V) (fs : List (Str × V)) (dd : Addr), Ex t1 t2 t3 nm fs r ∧ cls = .ref (ga K nm) ∧ d = some dd ∧ Same H H' ∧ H' dd = some (.xd fs)
theorem XAt.pre {H H1 : Hp} {r : List V} {cls : Value} {d : Option Addr} {H' : Hp} (h : XAt K H1 r cls d H') (s : Same H H1) : XAt K H r cls d H' := by
  obtain ⟨nm, t1, t2, t3, fs, dd, h1, h2, h3, h4, h5⟩ := h
  exact ⟨nm, t1, t2, t3, fs, dd, h1, h2, h3, s.trans h4, h5⟩
def spAskKey (K : Fr) : Sp := fun vs H Q E => ∃ (p sa : Addr) (d : Desc) (As : List ATab) (s : Stm), vs = [.ref p, .ref sa] ∧ TbR H p d As ∧ StmV H sa s ∧ StmOk d s ∧ (mKey (plT As) s = [] → ∀ H', Same H H' → Q .non H') ∧ (∀ r, mKey (plT As) s = r → r ≠ [] → ∀ cls d H', XAt K H r cls d H' → E cls d H')
theorem sc_ask_key : FnScope n_ask_key p_ask_key (defScope s_ask_key) := ⟨rfl, rfl, rfl, by decide +kernel, rfl, by decide +kernel, by decide +kernel⟩
theorem ok_ask_key (T : Txt K mg w) (O_is_key : OkD P w K mg base CX0 2 (a_is_key K) p_is_key spKey) {f1 f2 : FuncData} (OTaken : FnOk P w K mg base CX0 1 (a_Taken_init K) f1 p_Taken_init (spEx2 (ga K "Taken"))) (bTaken : Binds K f1 p_Taken_init [])
    (ONoRow : FnOk P w K mg base CX0 1 (a_NoRow_init K) f2 p_NoRow_init (spEx2 (ga K "NoRow"))) (bNoRow : Binds K f2 p_NoRow_init [])
    (F : ∃ fd, FnT K "ask_key" "ask_key" s_ask_key [] (a_ask_key K) fd) : OkD P w K mg base (L2.CX P w) 3 (a_ask_key K) p_ask_key (spAskKey K) := by
  refine okX F sc_ask_key (fun _ _ _ _ _ _ us hl => match us, hl with | [_, _], _ => rfl) (fun vs H Q E h => ?_) (fun cdv A outer s H vs Q E hr h => ?_)
  · obtain ⟨p, sa, d, As, s, rfl, _⟩ := h
    rfl
  · obtain ⟨p, sa, d, As, st, rfl, tb, sv, sok, kq, ke⟩ := h
    have tk : Takes (cxOf (L2.CX P w) P w K mg base n_ask_key "ask_key" (defScope s_ask_key) (a_ask_key K) cdv A outer s H E) (fun cls d _ H => E cls d H) := takes_of rfl rfl rfl rfl
    obtain ⟨r0, hsa, hr0⟩ := sv.at_
    obtain ⟨cs, hm, _⟩ := sok.has
    obtain ⟨q, rs, _, _, hv, hrs, er, rok⟩ := tabD_at tb.dok tb.tabs tb.tok hm
    have eo : (valV (rowsK rs) (.inl st.key)).isSome = (get (rowsOf (plT As) st.tab) st.key).isSome := by
      rw [← er, rowsK_get, plR_get]
      cases get rs st.key <;> rfl
    refine ⟨_, (pss_cons (ps_asg (pv 1) (pg_star rfl (pgs_cons (pg_name (i := 2) sc_ask_key.nd rfl (Or.inl rfl)) (pgs_cons (pg_name (i := 3) sc_ask_key.nd rfl (Or.inl rfl)) (pgs_cons (pg_name (i := 4) sc_ask_key.nd rfl (Or.inl rfl)) (pgs_star (pg_name (i := 5) sc_ask_key.nd rfl (Or.inl rfl))))))))
      (pss_cons (ps_if (pt_mid (PW.pt (pw_and (pt_cmpR op_eq (pv 2) pe_str (nomark _)) (pw_and1 (pt_not (pt_val (pe_own O_is_key (hr.mono (by decide)) T.g_is_key (pa_cons (pv 4) pa_nil)))))))) (pss_one ps_never) pss_nil)
      (pss_cons (ps_if (pt_mid (PW.pt (pw_and (pt_cmpR op_eq (pv 2) pe_str (nomark _)) (pw_and1 (pt_cmp (pc_din (hu_of hr) (pv 4) (pe_dget (hu_of hr) (pv 0) (pv 3) (fun _ _ => rfl)))))))) (pss_one (ps_raise rfl tk (pmk_oex T.o_Taken T.j_Taken.1 T.j_Taken.2 OTaken (hr.mono (by decide)) bTaken .nil pass0 rfl T.g_Taken (pa_cons (pv 3) (pa_cons (pv 4) pa_nil))))) pss_nil)
      (pss_one (ps_if (pt_mid (PW.pt (pw_and (pt_cmpR op_ne (pv 2) pe_str (nomark _)) (pw_and1 (pt_cmp (pc_dnotin (hu_of hr) (pv 4) (pe_dget (hu_of hr) (pv 0) (pv 3) (fun _ _ => rfl)))))))) (pss_one (ps_raise rfl tk (pmk_oex T.o_NoRow T.j_NoRow.1 T.j_NoRow.2 ONoRow (hr.mono (by decide)) bNoRow .nil pass0 rfl T.g_NoRow (pa_cons (pv 3) (pa_cons (pv 4) pa_nil))))) pss_nil))))), ?_⟩
    refine ⟨_, rfl, sa, _, rfl, SqT.of hsa, by show 3 ≤ r0.length + 3; omega, by show r0.length + 3 ≤ 100; omega, fun gp hgp => ?_⟩
    refine ⟨_, _, rfl, _, _, rfl, _, _, rfl, _, _, rfl, rfl, ?_⟩
    have sg : Same H (upd H gp (.lst r0)) := Same.new hgp
    have tb1 := tb.same sg
    have hq1 := sg _ _ hrs.1
    show tSeq _ _ _ _ (upd H gp (.lst r0))
    generalize upd H gp (.lst r0) = H1 at sg tb1 hq1 ⊢
    have isput : ∀ {A B : Prop}, (st.kd = .put → A) → (st.kd ≠ .put → B) → if decide (V.str (kdn st.kd) = V.str "put") = true then A else B := fun {A B} a b => by
      cases ek : st.kd with
      | put => exact ifT rfl (a ek)
      | set => exact ifF (by decide +kernel) (b (by rw [ek]; nofun))
      | drop => exact ifF (by decide +kernel) (b (by rw [ek]; nofun))
    refine ⟨fun b H2 => b = false ∧ Same H1 H2, ?_, ?_⟩
    · refine ⟨_, rfl, rfl, _, rfl, isput (fun _ => ?_) (fun _ => ⟨rfl, Same.refl _⟩)⟩
      exact ⟨_, rfl, st.key, rfl, sok.key.1, sok.key.2, true, rfl, rfl, Same.refl _⟩
    · rintro b H2 ⟨rfl, s2⟩
      refine iteF ?_
      have tb2 := tb1.same s2
      have hq2 := s2 _ _ hq1
      refine ⟨fun b H3 => H3 = H2 ∧ b = (decide (st.kd = .put) && (get (rowsOf (plT As) st.tab) st.key).isSome), ?_, ?_⟩
      · refine ⟨_, rfl, rfl, _, rfl, isput (fun ek => ?_) (fun ek => ?_)⟩
        · refine ⟨_, rfl, _, rfl, _, rfl, p, _, rfl, dget (k := .inr st.tab) (.inl tb2.tabs.1) hv, q, _, rfl, dget (k := .inl st.key) (.inl hq2) rfl, _, rfl, rfl, ?_⟩
          rw [eo, ek]
          rfl
        · refine ⟨rfl, ?_⟩
          rw [decide_eq_false ek]
          rfl
      · rintro b H3 ⟨rfl, eb⟩
        cases hb : (decide (st.kd = .put) && (get (rowsOf (plT As) st.tab) st.key).isSome) with
        | true =>
          rw [hb] at eb
          rw [eb]
          rw [Bool.and_eq_true] at hb
          have ek : st.kd = .put := of_decide_eq_true hb.1
          have er0 : mKey (plT As) st = [.str "Taken", .str st.tab, .int st.key] := by
            unfold mKey
            rw [ek]
            exact if_pos hb.2
          refine iteT ⟨_, rfl, _, rfl, mk2 fun dd H4 s4 hx => ke _ er0 nofun _ _ _ ⟨"Taken", .str st.tab, .int st.key, .non, _, dd, .taken, rfl, rfl, (sg.trans s2).trans s4, hx⟩⟩
        | false =>
          rw [hb] at eb
          rw [eb]
          refine iteF ?_
          refine ⟨fun b H4 => H4 = H3 ∧ b = (!decide (st.kd = .put) && !(get (rowsOf (plT As) st.tab) st.key).isSome), ?_, ?_⟩
          · refine ⟨_, rfl, rfl, _, rfl, ?_⟩
            by_cases ek : st.kd = .put
            · rw [ek]
              exact iteF ⟨rfl, rfl⟩
            · have e1 : (!decide (V.str (kdn st.kd) = V.str "put")) = true := by
                cases z : st.kd with
                | put => exact absurd z ek
                | set => decide +kernel
                | drop => decide +kernel
              refine ifT e1 ⟨_, rfl, _, rfl, _, rfl, p, _, rfl, dget (k := .inr st.tab) (.inl tb2.tabs.1) hv, q, _, rfl, dget (k := .inl st.key) (.inl hq2) rfl, _, rfl, rfl, ?_⟩
              rw [eo, decide_eq_false ek]
              rfl
          · rintro b H4 ⟨rfl, rfl⟩
            cases hb2 : (!decide (st.kd = .put) && !(get (rowsOf (plT As) st.tab) st.key).isSome) with
            | true =>
              rw [Bool.and_eq_true] at hb2
              have er0 : mKey (plT As) st = [.str "NoRow", .str st.tab, .int st.key] := by
                have n2 : ¬ (get (rowsOf (plT As) st.tab) st.key).isSome = true := by
                  have := hb2.2
                  intro z
                  rw [z] at this
                  cases this
                unfold mKey
                cases ek : st.kd with
                | put =>
                  rw [ek] at hb2
                  cases hb2.1
                | set => exact if_neg n2
                | drop => exact if_neg n2
              refine iteT ⟨_, rfl, _, rfl, mk2 fun dd H5 s5 hx => ke _ er0 nofun _ _ _ ⟨"NoRow", .str st.tab, .int st.key, .non, _, dd, .norow, rfl, rfl, (sg.trans s2).trans s5, hx⟩⟩
            | false =>
              refine iteF (kq ?_ _ (sg.trans s2))
              unfold mKey
              cases ek : st.kd with
              | put =>
                rw [ek] at hb
                have n2 : ¬ (get (rowsOf (plT As) st.tab) st.key).isSome = true := fun z => by
                  rw [z] at hb
                  cases hb
                exact if_neg n2
              | set =>
                rw [ek] at hb2
                cases z : (get (rowsOf (plT As) st.tab) st.key).isSome with
                | true => exact if_pos rfl
                | false =>
                  rw [z] at hb2
                  cases hb2
              | drop =>
                rw [ek] at hb2
                cases z : (get (rowsOf (plT As) st.tab) st.key).isSome with
                | true => exact if_pos rfl
                | false =>
                  rw [z] at hb2
                  cases hb2
end
end K16

/-! K16O: a row asked, a statement done -/
namespace K16
open PySem PySem.Spec PyProof.Rows L2 He
section
variable {P : Program} {w : World} {K : Fr} {mg : Str → Option Value} {base : Heap}
theorem find_first {α : Type} {f : α → Bool} {l : List α} {i : Nat} {c : α} (h : l[i]? = some c) (no : ∀ x ∈ l.take i, f x = false) (y : f c = true) : l.find? f = some c := by
  induction l generalizing i with
  | nil => simp at h
  | cons a r ih =>
    cases i with
    | zero =>
      cases (show a = c by simpa using h)
      rw [List.find?_cons, y]
    | succ i =>
      have n0 := no a (by simp)
      rw [List.find?_cons, n0]
      exact ih (by simpa using h) fun x hx => no x (by rw [List.take_succ_cons]; exact List.mem_cons_of_mem _ hx)
theorem find_nil {α : Type} {f : α → Bool} {l : List α} (no : ∀ x ∈ l, f x = false) : l.find? f = none := List.find?_eq_none.mpr fun x hx z => by
  rw [no x hx] at z
  cases z
theorem no_snoc {α : Type} {f : α → Bool} {l : List α} {i : Nat} {c : α} (h : l[i]? = some c) (no : ∀ x ∈ l.take i, f x = false) (n : f c = false) : ∀ x ∈ l.take (i + 1), f x = false := fun x hx => by
  rw [take_snoc h] at hx
  rcases List.mem_append.mp hx with z | z
  · exact no x z
  · rw [List.mem_singleton.mp z]
    exact n
def spAskRow (K : Fr) : Sp := fun vs H Q E => ∃ (x p : Addr) (d : Desc) (As : List ATab) (tab : Str) (key : Int) (cs : Cols) (r : Row), vs = [.ref x, .ref p, .str tab, .int key] ∧ Tb K H x p d As ∧ (tab, cs) ∈ d ∧ get (rowsOf (plT As) tab) key = some r ∧
  (mRow d (plT As) tab key = [] → ∀ H', Same H H' → Q .non H') ∧ (∀ rr, mRow d (plT As) tab key = rr → rr ≠ [] → ∀ cls dd H', XAt K H rr cls dd H' → E cls dd H')
theorem sc_ask_row : FnScope n_ask_row p_ask_row (defScope s_ask_row) := ⟨rfl, rfl, rfl, by decide +kernel, rfl, by decide +kernel, by decide +kernel⟩
theorem ok_ask_row (T : Txt K mg w) (O_Schema_columns : OkD P w K mg base CX0 1 (a_Schema_columns K) p_Schema_columns (spSCols K)) (O_is_bare : OkD P w K mg base CX0 1 (a_is_bare K) p_is_bare (spIsBare K)) (O_is_missing : OkD P w K mg base CX0 1 (a_is_missing K) p_is_missing (spIsMissing K)) (O_is_twice : OkD P w K mg base CX0 1 (a_is_twice K) p_is_twice (spIsTwice K))
    {f1 f2 f3 : FuncData} (OBare : FnOk P w K mg base CX0 1 (a_Bare_init K) f1 p_Bare_init (spEx3 (ga K "Bare"))) (bBare : Binds K f1 p_Bare_init []) (OMissing : FnOk P w K mg base CX0 1 (a_Missing_init K) f2 p_Missing_init (spEx3 (ga K "Missing"))) (bMissing : Binds K f2 p_Missing_init [])
    (OTwice : FnOk P w K mg base CX0 1 (a_Twice_init K) f3 p_Twice_init (spEx3 (ga K "Twice"))) (bTwice : Binds K f3 p_Twice_init [])
    (F : ∃ fd, FnT K "ask_row" "ask_row" s_ask_row [] (a_ask_row K) fd) : OkD P w K mg base (L2.CX P w) 3 (a_ask_row K) p_ask_row (spAskRow K) := by
  refine okX F sc_ask_row (fun _ _ _ _ _ _ us hl => match us, hl with | [_, _, _, _], _ => rfl) (fun vs H Q E h => ?_) (fun cdv A outer s H vs Q E hr h => ?_)
  · obtain ⟨x, p, d, As, tab, key, cs, r, rfl, _⟩ := h
    rfl
  · obtain ⟨x, p, d, As, tab, key, cs, r, rfl, tb, hm, hg, kq, ke⟩ := h
    have tk : Takes (cxOf (L2.CX P w) P w K mg base n_ask_row "ask_row" (defScope s_ask_row) (a_ask_row K) cdv A outer s H E) (fun cls d _ H => E cls d H) := takes_of rfl rfl rfl rfl
    obtain ⟨q, rs, _, _, hv, hrs, er, rok⟩ := tabD_at tb.dok tb.tabs tb.tok hm
    have hg0 := hg
    rw [← er] at hg0
    obtain ⟨ra, ram, rv, hra⟩ := row_at hrs hg0
    have ro : RowOk cs r := rok.ok (key, r) (get_mem hg0)
    have cok := tb.dok.ok _ hm
    dsimp only at cok
    obtain ⟨dx, f, ps, h1, _⟩ := id tb.sch
    have ec : colsOf d tab = cs := colsOf_eq tb.dok.nd hm
    have erow : rowOf (rowsOf (plT As) tab) key = r := by unfold rowOf; rw [hg]; rfl
    refine ⟨_, (pss_cons (ps_set (i := 4) sc_ask_row.nd rfl (Or.inl rfl) (pe_dget (hu_of hr) (pe_dget (hu_of hr) (pv 1) (pv 2) (fun _ _ => rfl)) (pv 3) (fun _ _ => rfl)))
      (pss_cons (ps_for PassesOwn.leaving rfl (pi_list (pe_ownM O_Schema_columns (pv 0) T.c_Schema T.h_Schema_columns (hr.mono (by decide)) (pa_cons (pv 2) pa_nil))) (pg_name (i := 5) sc_ask_row.nd rfl (Or.inl rfl)) (pss_one (ps_if (pt_val (pe_own O_is_bare (hr.mono (by decide)) T.g_is_bare (pa_cons (pv 5) (pa_cons (pv 4) pa_nil)))) (pss_one (ps_raise rfl tk (pmk_oex T.o_Bare T.j_Bare.1 T.j_Bare.2 OBare (hr.mono (by decide)) bBare .nil pass0 rfl T.g_Bare (pa_cons (pv 2) (pa_cons (pv 3) (pa_cons (pe_fld (pv 5) rfl) pa_nil)))))) pss_nil)))
      (pss_cons (ps_for PassesOwn.leaving rfl (pi_list (pe_ownM O_Schema_columns (pv 0) T.c_Schema T.h_Schema_columns (hr.mono (by decide)) (pa_cons (pv 2) pa_nil))) (pg_name (i := 5) sc_ask_row.nd rfl (Or.inl rfl)) (pss_one (ps_if (pt_val (pe_own O_is_missing (hr.mono (by decide)) T.g_is_missing (pa_cons (pv 5) (pa_cons (pv 1) (pa_cons (pv 4) pa_nil))))) (pss_one (ps_raise rfl tk (pmk_oex T.o_Missing T.j_Missing.1 T.j_Missing.2 OMissing (hr.mono (by decide)) bMissing .nil pass0 rfl T.g_Missing (pa_cons (pv 2) (pa_cons (pv 3) (pa_cons (pe_fld (pv 5) rfl) pa_nil)))))) pss_nil)))
      (pss_one (ps_for PassesOwn.leaving rfl (pi_list (pe_ownM O_Schema_columns (pv 0) T.c_Schema T.h_Schema_columns (hr.mono (by decide)) (pa_cons (pv 2) pa_nil))) (pg_name (i := 5) sc_ask_row.nd rfl (Or.inl rfl)) (pss_one (ps_if (pt_val (pe_own O_is_twice (hr.mono (by decide)) T.g_is_twice (pa_cons (pv 5) (pa_cons (pv 1) (pa_cons (pv 2) (pa_cons (pv 3) pa_nil)))))) (pss_one (ps_raise rfl tk (pmk_oex T.o_Twice T.j_Twice.1 T.j_Twice.2 OTwice (hr.mono (by decide)) bTwice .nil pass0 rfl T.g_Twice (pa_cons (pv 2) (pa_cons (pv 3) (pa_cons (pe_fld (pv 5) rfl) pa_nil)))))) pss_nil))))))), ?_⟩
    refine ⟨_, rfl, _, rfl, p, _, rfl, dget (k := .inr tab) (.inl tb.tabs.1) hv, _, rfl, q, _, rfl, dget (k := .inl key) (.inl hrs.1) rv, ?_⟩
    -- bare
    refine ⟨_, rfl, x, dx, _, rfl, h1, rfl, _, rfl, x, d, tab, cs, rfl, tb.sch, tb.dok.nd, hm, fun H1 l1 s1 hc1 => ?_⟩
    obtain ⟨as1, hl1, pc1⟩ := hc1
    refine ⟨l1, rfl, ⟨_, SqL.of hl1⟩, ?_⟩
    refine for_list (K := K) (a := l1) (xs := as1.map V.ref) (fun i σ H2 => ∃ v5, σ = [some (.ref x), some (.ref p), some (.str tab), some (.int key), some (.ref ra), v5] ∧ Same H1 H2 ∧ ∀ c ∈ cs.take i, bareC r c = false) ⟨none, rfl, Same.refl _, nofun⟩ (fun i σ H2 _ h => ?_) ?_ ?_
    · obtain ⟨_, _, h, _⟩ := h
      exact SqL.of (h _ _ hl1)
    · rintro i y σ H2 hi ⟨v5, rfl, s2, no⟩
      obtain ⟨a, c, dc, rfl, hcc, ha⟩ := col_at pc1 hi
      have cm := List.mem_of_getElem? hcc
      have s02 := s1.trans s2
      refine ⟨_, rfl, _, rfl, a, dc, ra, cs, c, r, rfl, s2 _ _ ha, s02 _ _ hra, ro, cm, _, rfl, ?_⟩
      cases hb : bareC r c with
      | false => exact iteF ⟨_, rfl, s2, no_snoc hcc no hb⟩
      | true =>
        have e0 : mRow d (plT As) tab key = [.str "Bare", .str tab, .int key, .str c.nm] := by
          unfold mRow
          rw [ec, erow, find_first hcc no hb]
        refine iteT ⟨_, rfl, _, rfl, _, rfl, a, _, dc, _, _, rfl, s2 _ _ ha, T.c_Column, T.n_Column_name, lk_name c, mk3 fun dd H3 s3 hx => ke _ e0 nofun _ _ _ ⟨"Bare", _, _, _, _, dd, .bare, rfl, rfl, s02.trans s3, hx⟩⟩
    rintro σ H2 ⟨v5, rfl, s2, no1⟩
    rw [List.length_map, pc1.length, List.take_length] at no1
    have f1' := find_nil no1
    have s02 := s1.trans s2
    -- missing
    refine ⟨_, rfl, x, dx, _, rfl, s02 _ _ h1, rfl, _, rfl, x, d, tab, cs, rfl, (tb.same s02).sch, tb.dok.nd, hm, fun H3 l3 s3 hc3 => ?_⟩
    obtain ⟨as3, hl3, pc3⟩ := hc3
    have s03 := s02.trans s3
    refine ⟨l3, rfl, ⟨_, SqL.of hl3⟩, ?_⟩
    refine for_list (K := K) (a := l3) (xs := as3.map V.ref) (fun i σ H4 => ∃ v5, σ = [some (.ref x), some (.ref p), some (.str tab), some (.int key), some (.ref ra), v5] ∧ Same H3 H4 ∧ ∀ c ∈ cs.take i, missC (plT As) r c = false) ⟨_, rfl, Same.refl _, nofun⟩ (fun i σ H4 _ h => ?_) ?_ ?_
    · obtain ⟨_, _, h, _⟩ := h
      exact SqL.of (h _ _ hl3)
    · rintro i y σ H4 hi ⟨v5, rfl, s4, no⟩
      obtain ⟨a, c, dc, rfl, hcc, ha⟩ := col_at pc3 hi
      have cm := List.mem_of_getElem? hcc
      have s04 := s03.trans s4
      refine ⟨_, rfl, _, rfl, _, rfl, a, dc, p, ra, d, As, tab, cs, c, r, rfl, (tb.same s04).r, hm, s4 _ _ ha, s04 _ _ hra, ro, cm, _, rfl, ?_⟩
      cases hb : missC (plT As) r c with
      | false => exact iteF ⟨_, rfl, s4, no_snoc hcc no hb⟩
      | true =>
        have e0 : mRow d (plT As) tab key = [.str "Missing", .str tab, .int key, .str c.nm] := by
          unfold mRow
          rw [ec, erow, f1', find_first hcc no hb]
        refine iteT ⟨_, rfl, _, rfl, _, rfl, a, _, dc, _, _, rfl, s4 _ _ ha, T.c_Column, T.n_Column_name, lk_name c, mk3 fun dd H5 s5 hx => ke _ e0 nofun _ _ _ ⟨"Missing", _, _, _, _, dd, .missing, rfl, rfl, s04.trans s5, hx⟩⟩
    rintro σ H4 ⟨v5', rfl, s4, no3⟩
    rw [List.length_map, pc3.length, List.take_length] at no3
    have f3' := find_nil no3
    have s04 := s03.trans s4
    -- twice
    refine ⟨_, rfl, x, dx, _, rfl, s04 _ _ h1, rfl, _, rfl, x, d, tab, cs, rfl, (tb.same s04).sch, tb.dok.nd, hm, fun H5 l5 s5 hc5 => ?_⟩
    obtain ⟨as5, hl5, pc5⟩ := hc5
    have s05 := s04.trans s5
    refine ⟨l5, rfl, ⟨_, SqL.of hl5⟩, ?_⟩
    refine for_list (K := K) (a := l5) (xs := as5.map V.ref) (fun i σ H6 => ∃ v5, σ = [some (.ref x), some (.ref p), some (.str tab), some (.int key), some (.ref ra), v5] ∧ Same H5 H6 ∧ ∀ c ∈ cs.take i, twiceC (rowsOf (plT As) tab) key r c = false) ⟨_, rfl, Same.refl _, nofun⟩ (fun i σ H6 _ h => ?_) ?_ ?_
    · obtain ⟨_, _, h, _⟩ := h
      exact SqL.of (h _ _ hl5)
    · rintro i y σ H6 hi ⟨v5, rfl, s6, no⟩
      obtain ⟨a, c, dc, rfl, hcc, ha⟩ := col_at pc5 hi
      have cm := List.mem_of_getElem? hcc
      have s06 := s05.trans s6
      refine ⟨_, rfl, _, rfl, _, rfl, _, rfl, a, dc, p, d, As, tab, key, cs, c, r, rfl, (tb.same s06).r, hm, s6 _ _ ha, hg, cm, fun H7 s7 => ⟨_, rfl, ?_⟩⟩
      cases hb : twiceC (rowsOf (plT As) tab) key r c with
      | false => exact iteF ⟨_, rfl, s6.trans s7, no_snoc hcc no hb⟩
      | true =>
        have e0 : mRow d (plT As) tab key = [.str "Twice", .str tab, .int key, .str c.nm] := by
          unfold mRow
          rw [ec, erow, f1', f3', find_first hcc no hb]
        refine iteT ⟨_, rfl, _, rfl, _, rfl, a, _, dc, _, _, rfl, s7 _ _ (s6 _ _ ha), T.c_Column, T.n_Column_name, lk_name c, mk3 fun dd H8 s8 hx => ke _ e0 nofun _ _ _ ⟨"Twice", _, _, _, _, dd, .twice, rfl, rfl, (s06.trans s7).trans s8, hx⟩⟩
    · rintro σ H6 ⟨v5, rfl, s6, no5⟩
      rw [List.length_map, pc5.length, List.take_length] at no5
      refine kq ?_ _ (s05.trans s6)
      unfold mRow
      rw [ec, erow, f1', f3', find_nil no5]
theorem tkeys_of {d : Desc} (dok : DescOk d) {n : Nat} {T : Tabs} (tok : TabsOk d n T) (hn : n ≤ 60) : TKeys T := by
  refine ⟨by rw [tabs_names tok]; exact dok.nd, ?_, fun t ht => ?_⟩
  · have e : T.length = d.length := tok.length.symm
    have := dok.few
    omega
  · obtain ⟨i, hi, ei⟩ := List.getElem_of_mem ht
    obtain ⟨e, _, z⟩ := pAt2 tok (List.getElem?_eq_getElem hi)
    rw [ei] at z
    have := z.2.few
    exact ⟨z.2.nd, by omega⟩
theorem held_form {d : Desc} {T : Tabs} {tab : Str} {key : Int} {c : List V} (h : c ∈ heldBy d T tab key) : ∃ (wd : Str) (o : Int) (nm : Str), c = [.str wd, .int o, .str nm] := by
  obtain ⟨e, _, h⟩ := List.mem_flatMap.mp h
  obtain ⟨o, _, h⟩ := List.mem_flatMap.mp h
  obtain ⟨c2, _, rfl⟩ := List.mem_map.mp h
  exact ⟨e.1, o, c2.nm, rfl⟩
theorem why_key {d : Desc} {T : Tabs} {s : Stm} {r : List V} (h : mKey T s = r) (n : r ≠ []) : mWhy d T s = r := by
  unfold mWhy
  rw [h]
  cases r with
  | nil => exact absurd rfl n
  | cons a l => rfl
theorem why_two {d : Desc} {T : Tabs} {s : Stm} (h : mKey T s = []) : mWhy d T s = mWhy2 d T s := by
  unfold mWhy
  rw [h]
theorem edT_rows {T : Tabs} {t : Str} {f : Rows → Rows} {rs : Rows} (h : get T t = some rs) : rowsOf (edT T t f) t = f rs := by
  have e : get (edT T t f) t = some (f rs) := by
    unfold edT
    induction T with
    | nil => cases h
    | cons x r ih =>
      rw [List.map_cons]
      by_cases z : x.1 = t
      · rw [get_pos z] at h
        cases h
        rw [if_pos z]
        exact get_pos (p := (x.1, f x.2)) z
      · rw [get_neg z] at h
        rw [if_neg z, get_neg z]
        exact ih h
  unfold rowsOf
  rw [e]
  rfl
theorem rowsOf_get {T : Tabs} {t : Str} {rs : Rows} (h : get T t = some rs) : rowsOf T t = rs := by
  unfold rowsOf
  rw [h]
  rfl
def spDone (K : Fr) : Sp := fun vs H Q E => ∃ (x p sa : Addr) (d : Desc) (As : List ATab) (s : Stm), vs = [.ref x, .ref p, .ref sa] ∧ SchI K H x d ∧ DescOk d ∧ TabsD H p As ∧ TabsOk d 59 (plT As) ∧ StmV H sa s ∧ StmOk d s ∧
  (mWhy d (plT As) s = [] → ∀ H' p' B, Same H H' → TabsD H' p' B → plT B = mTabs d (plT As) s → Q (.ref p') H') ∧ (∀ rr, mWhy d (plT As) s = rr → rr ≠ [] → ∀ cls dd H', XAt K H rr cls dd H' → E cls dd H')
theorem sc_done : FnScope n_done p_done (defScope s_done) := ⟨rfl, rfl, rfl, by decide +kernel, rfl, by decide +kernel, by decide +kernel⟩
theorem ok_done (T : Txt K mg w) (O_ask_pairs : OkD P w K mg base CX0 4 (a_ask_pairs K) p_ask_pairs (spAskPairs K)) (O_ask_key : OkD P w K mg base (L2.CX P w) 3 (a_ask_key K) p_ask_key (spAskKey K)) (O_copied : OkD P w K mg base CX0 1 (a_copied K) p_copied spCopied) (O_holders : OkD P w K mg base CX0 3 (a_holders K) p_holders (spHolders K))
    (O_pairs_of : OkD P w K mg base CX0 1 (a_pairs_of K) p_pairs_of spPairsOf) (O_Schema_columns : OkD P w K mg base CX0 1 (a_Schema_columns K) p_Schema_columns (spSCols K)) (O_ask_row : OkD P w K mg base (L2.CX P w) 3 (a_ask_row K) p_ask_row (spAskRow K))
    {f1 : FuncData} (OHeld : FnOk P w K mg base CX0 1 (a_Held_init K) f1 p_Held_init (spEx3 (ga K "Held"))) (bHeld : Binds K f1 p_Held_init [])
    (F : ∃ fd, FnT K "done" "done" s_done [] (a_done K) fd) : OkD P w K mg base (L2.CX P w) 5 (a_done K) p_done (spDone K) := by
  refine okX F sc_done (fun _ _ _ _ _ _ us hl => match us, hl with | [_, _, _], _ => rfl) (fun vs H Q E h => ?_) (fun cdv A outer s H vs Q E hr h => ?_)
  · obtain ⟨x, p, sa, d, As, s, rfl, _⟩ := h
    rfl
  · obtain ⟨x, p, sa, d, As, st, rfl, sch, dok, tabs, tok, sv, sok, kq, ke⟩ := h
    have tk : Takes (cxOf (L2.CX P w) P w K mg base n_done "done" (defScope s_done) (a_done K) cdv A outer s H E) (fun cls d _ H => E cls d H) := takes_of rfl rfl rfl rfl
    refine ⟨_, (pss_cons (ps_asg (pv 2) (pg_star rfl (pgs_cons (pg_name (i := 3) sc_done.nd rfl (Or.inl rfl)) (pgs_cons (pg_name (i := 4) sc_done.nd rfl (Or.inl rfl)) (pgs_cons (pg_name (i := 5) sc_done.nd rfl (Or.inl rfl)) (pgs_star (pg_name (i := 6) sc_done.nd rfl (Or.inl rfl))))))))
      (pss_cons (ps_expr (pe_own O_ask_pairs (hr.mono (by decide)) T.g_ask_pairs (pa_cons (pv 0) (pa_cons (pv 2) pa_nil))))
      (pss_cons (ps_expr (pe_ownX (W := fun cls d _ H => E cls d H) (E := E) O_ask_key (hr.mono (by decide)) T.g_ask_key tk (fun _ _ _ _ h => h) (pa_cons (pv 1) (pa_cons (pv 2) pa_nil))))
      (pss_cons (ps_set (i := 7) sc_done.nd rfl (Or.inl rfl) (pe_own O_copied (hr.mono (by decide)) T.g_copied (pa_cons (pv 1) pa_nil)))
      (pss_cons (ps_if (pt_cmpR op_eq (pv 3) pe_str (nomark _)) (pss_cons (ps_for PassesOwn.leaving rfl (pi_list (pe_own O_holders (hr.mono (by decide)) T.g_holders (pa_cons (pv 0) (pa_cons (pv 1) (pa_cons (pv 4) (pa_cons (pv 5) pa_nil)))))) (pg_tup rfl (pgs_cons (pg_name (i := 8) sc_done.nd rfl (Or.inl rfl)) (pgs_cons (pg_name (i := 9) sc_done.nd rfl (Or.inl rfl)) (pgs_cons (pg_name (i := 10) sc_done.nd rfl (Or.inl rfl)) pgs_nil)))) (pss_one (ps_raise rfl tk (pmk_oex T.o_Held T.j_Held.1 T.j_Held.2 OHeld (hr.mono (by decide)) bHeld .nil pass0 rfl T.g_Held (pa_cons (pv 8) (pa_cons (pv 9) (pa_cons (pv 10) pa_nil)))))))
        (pss_cons (ps_expr (pe_dpop1 (pe_dget (hu_of hr) (pv 7) (pv 4) (fun _ _ => rfl)) (pv 5) ⟨rfl, rfl, rfl, rfl⟩))
        (pss_one (ps_ret (pv 7))))) pss_nil)
      (pss_cons (ps_set (i := 11) sc_done.nd rfl (Or.inr rfl) (pe_dget2 (hu_of hr) (pe_dget (hu_of hr) (pv 7) (pv 4) (fun _ _ => rfl)) (pv 5) pe_dnewK ⟨rfl, rfl, rfl, rfl⟩))
      (pss_cons (ps_set (i := 12) sc_done.nd rfl (Or.inr rfl) (pe_own O_pairs_of (hr.mono (by decide)) T.g_pairs_of (pa_cons (pv 2) pa_nil)))
      (pss_cons (ps_dput (hu_of hr) (pe_dget (hu_of hr) (pv 7) (pv 4) (fun _ _ => rfl)) (pv 5) (pe_dc (own := [("column", 13)]) (g := (gName 13)) (tt := tYes) rfl sc_done.nd (pi_list (pe_ownM O_Schema_columns (pv 0) T.c_Schema T.h_Schema_columns (hr.mono (by decide)) (pa_cons (pv 4) pa_nil))) (blkOk_by (own := [("column", 13)]) (N := n_done) (sc := defScope s_done) (by decide +kernel)) (fun _ _ _ _ _ => (pg_name (i := 13) sc_done.nd rfl (Or.inl rfl))) (fun _ _ _ _ _ => pts_nil) (fun _ _ _ _ _ => (show PE _ _ (tFld K _ _) from (pe_fld (pv 13) rfl))) (fun _ _ _ _ _ => (pe_dget2 (hu_of hr) (pv 12) (show PE _ _ (tFld K _ _) from (pe_fld (pv 13) rfl)) (pe_dget1 (hu_of hr) (pv 11) (show PE _ _ (tFld K _ _) from (pe_fld (pv 13) rfl)) ⟨rfl, rfl, rfl, rfl⟩) ⟨rfl, rfl, rfl, rfl⟩))) rfl)
      (pss_cons (ps_expr (pe_ownX (W := fun cls d _ H => E cls d H) (E := E) O_ask_row (hr.mono (by decide)) T.g_ask_row tk (fun _ _ _ _ h => h) (pa_cons (pv 0) (pa_cons (pv 7) (pa_cons (pv 4) (pa_cons (pv 5) pa_nil))))))
      (pss_one (ps_ret (pv 7)))))))))))), ?_⟩
    obtain ⟨r0, hsa, hr0⟩ := sv.at_
    obtain ⟨cs, hm, hp⟩ := sok.has
    have cok := dok.ok _ hm
    dsimp only at cok
    have tok60 := tok.mono (show 59 ≤ 60 by decide)
    have ec : colsOf d st.tab = cs := colsOf_eq dok.nd hm
    have tabIn : st.tab ∈ d.map (·.1) := List.mem_map.mpr ⟨_, hm, rfl⟩
    refine ⟨_, rfl, sa, _, rfl, SqT.of hsa, by show 3 ≤ r0.length + 3; omega, by show r0.length + 3 ≤ 100; omega, fun gp hgp => ?_⟩
    refine ⟨_, _, rfl, _, _, rfl, _, _, rfl, _, _, rfl, rfl, ?_⟩
    have sg : Same H (upd H gp (.lst r0)) := Same.new hgp
    show tSeq _ _ _ _ (upd H gp (.lst r0))
    generalize upd H gp (.lst r0) = H1 at sg ⊢
    refine ⟨_, rfl, _, rfl, x, sa, d, st, rfl, sch.keep (.of_same sg), dok, sv.same sg, sok, fun H2 s2 => ?_⟩
    have s02 := sg.trans s2
    refine ⟨_, rfl, _, rfl, p, sa, d, As, st, rfl, ⟨dok, tabs.keep (.of_same s02), tok60⟩, sv.same s02, sok, fun hk H3 s3 => ?_, fun rr hrr hne cls dd H' hx => ke rr (why_key hrr hne) hne _ _ _ (hx.pre s02)⟩
    have s03 := s02.trans s3
    refine ⟨_, rfl, p, As, rfl, tabs.keep (.of_same s03), tkeys_of dok tok (by decide), fun H4 fp B s4 hB ep nd fr => ?_⟩
    have s04 := s03.trans s4
    have frH : ∀ a ∈ fp :: foot B, H a = none := fun a ha => s03.free (fr a ha)
    rw [← ep] at hk
    obtain ⟨q, rs, bm, hgB, hv, hrs, er, rok⟩ := tabD_at dok hB (by rw [ep]; exact tok) hm
    have ndB : (B.map (·.1)).Nodup := names_nd dok (by rw [ep]; exact tok)
    have qf : H q = none := frH _ (List.mem_cons_of_mem _ (foot_tab bm))
    have gT : get (plT As) st.tab = some (plR rs) := by
      rw [← ep, plT_get, hgB]
      rfl
    have few := rok.few
    unfold plR at few
    rw [List.length_map] at few
    rw [ep] at hk
    have kn : ∀ {A : Prop} {b : Bool}, decide (V.str (kdn st.kd) = V.str "drop") = b → (b = decide (st.kd = .drop)) := fun {A b} e => by
      rw [← e]
      cases st.kd <;> decide +kernel
    cases ek : decide (st.kd = .drop) with
    | true =>
      have ekd : st.kd = .drop := of_decide_eq_true ek
      have e1 : decide (V.str (kdn st.kd) = V.str "drop") = true := by
        rw [ekd]
        decide +kernel
      refine ⟨_, rfl, rfl, _, rfl, ifT e1 ?_⟩
      have tb4 : Tb K H4 x p d As := ⟨sch.keep (.of_same s04), dok, tabs.keep (.of_same s04), tok60⟩
      refine ⟨_, rfl, _, rfl, _, rfl, _, rfl, x, p, d, As, st.tab, st.key, rfl, tb4, tabIn, fun H5 l us s5 hl ph => ⟨l, rfl, ⟨_, SqL.of hl⟩, ?_⟩⟩
      have s05 := s04.trans s5
      refine for_list (K := K) (a := l) (xs := us.map V.ref) (tb := fun _ σ H => tMkO (ga K "Held") (spEx3 (ga K "Held")) [] (tCons (tVar 8) (tCons (tVar 9) (tCons (tVar 10) tNil))) σ H fun cls d H' => E cls d H') (fun i σ H6 => i = 0 ∧ H6 = H5 ∧ ∃ v8 v9 v10 v11 v12 v13, σ = [some (.ref x), some (.ref p), some (.ref sa), some (.str (kdn st.kd)), some (.str st.tab), some (.int st.key), some (.ref gp), some (.ref fp), v8, v9, v10, v11, v12, v13])
        ⟨rfl, rfl, none, none, none, none, none, none, rfl⟩ (fun i σ H6 _ h => ?_) ?_ ?_
      · obtain ⟨_, rfl, _⟩ := h
        exact SqL.of hl
      · rintro i y σ H6 hi ⟨rfl, rfl, v8, v9, v10, v11, v12, v13, rfl⟩
        obtain ⟨u, hu, rfl⟩ := map_at hi
        obtain ⟨c, hc, hut⟩ := pAt ph hu
        obtain ⟨wd, o, nm, rfl⟩ := held_form (List.mem_of_getElem? hc)
        have eh : mHeld d (plT As) st.tab st.key = [.str wd, .int o, .str nm] := by
          unfold mHeld
          cases z : heldBy d (plT As) st.tab st.key with
          | nil =>
            rw [z] at hc
            cases hc
          | cons a r =>
            rw [z] at hc
            exact Option.some.inj hc
        have e0 : mWhy d (plT As) st = [.str "Held", .str wd, .int o, .str nm] := by
          rw [why_two hk]
          unfold mWhy2
          rw [ekd]
          dsimp only
          rw [eh]
        refine ⟨u, _, rfl, SqT.of hut, rfl, _, _, rfl, _, _, rfl, _, _, rfl, rfl, ?_⟩
        exact ⟨_, rfl, _, rfl, _, rfl, mk3 fun dd H7 s7 hx => ke _ e0 nofun _ _ _ ⟨"Held", _, _, _, _, dd, .held, rfl, rfl, s05.trans s7, hx⟩⟩
      · rintro σ H6 ⟨i0, rfl, v8, v9, v10, v11, v12, v13, rfl⟩
        have eh : mHeld d (plT As) st.tab st.key = [] := by
          rw [List.length_map, ph.length] at i0
          unfold mHeld
          rw [List.length_eq_zero_iff.mp i0]
        have e0 : mWhy d (plT As) st = [] := by
          rw [why_two hk]
          unfold mWhy2
          rw [ekd]
          dsimp only
          rw [eh]
        have hq6 := s5 _ _ hrs.1
        have pres : (get rs st.key).isSome = true := by
          unfold mKey at hk
          rw [ekd] at hk
          dsimp only at hk
          rw [rowsOf_get gT, plR_get] at hk
          cases z : get rs st.key with
          | some v => rfl
          | none =>
            rw [z] at hk
            cases hk
        obtain ⟨v, hvv⟩ := Option.isSome_iff_exists.mp pres
        refine ⟨_, rfl, _, rfl, fp, _, rfl, dget (k := .inr st.tab) (.inl (s5 _ _ hB.1)) hv, q, rfl, .inl ⟨_, .inl hq6⟩, _, rfl, rowsK rs, .inl st.key, .ref v.1, hq6, rfl, by rw [rowsK_get, hvv]; rfl, _, rfl, ?_⟩
        rw [rowsK_cut]
        have hB6 := hB.keep (.of_same s5)
        refine kq e0 _ fp (edA B st.tab q (cut rs st.key)) (sWr s05 qf) ?_ ?_
        · refine TabsD.edit hB6 ndB nd hgB ⟨upd_same, fun r hr => ?_⟩ fun a n1 n2 o ho => by rw [upd_ne n1]; exact ho
          have rm := (List.mem_filter.mp hr).1
          rw [upd_ne (row_ne (hrs.keep (.of_same s5)) rm)]
          exact (hrs.keep (.of_same s5)).2 r rm
        · rw [edA_plT (f := mEd d st) ndB hgB, ep]
          · rfl
          · unfold mEd
            rw [ekd]
            exact plR_cut rs st.key
    | false =>
      have ekd : st.kd ≠ .drop := of_decide_eq_false ek
      have e1 : decide (V.str (kdn st.kd) = V.str "drop") = false := by
        cases z : st.kd with
        | drop => exact absurd z ekd
        | put => decide +kernel
        | set => decide +kernel
      refine ⟨_, rfl, rfl, _, rfl, ifF e1 ?_⟩
      -- had
      obtain ⟨hadr, ehad⟩ : ∃ hadr, hadr = rowOf (plR rs) st.key := ⟨_, rfl⟩
      refine ⟨_, rfl, _, rfl, fp, _, rfl, dget (k := .inr st.tab) (.inl hB.1) hv, q, rfl, .inl ⟨_, .inl hrs.1⟩, _, rfl, fun e he => ⟨_, dget (k := .inl st.key) (.inl ((Same.new he) _ _ hrs.1)) rfl, ?_⟩⟩
      have s5 : Same H4 (upd H4 e (.dK [])) := Same.new he
      obtain ⟨ha, hha, hah⟩ : ∃ ha, (valV (rowsK rs) (.inl st.key)).getD (.ref e) = .ref ha ∧ upd H4 e (.dK []) ha = some (.dK (rowK hadr)) := by
        rw [ehad]
        unfold rowOf
        rw [rowsK_get, plR_get]
        cases z : get rs st.key with
        | none => exact ⟨e, rfl, upd_same⟩
        | some v => exact ⟨v.1, rfl, s5 _ _ (hrs.2 _ (get_mem z))⟩
      rw [hha]
      generalize upd H4 e (.dK []) = H5 at s5 hah ⊢
      have s05 := s04.trans s5
      refine ⟨_, rfl, sa, st, rfl, sv.same s05, sok.nd, fun H6 g s6 ng hg => ?_⟩
      have s06 := s05.trans s6
      obtain ⟨dx, f, ps, h1, _⟩ := id sch
      refine ⟨_, rfl, x, dx, _, rfl, s06 _ _ h1, rfl, _, rfl, x, d, st.tab, cs, rfl, sch.keep (.of_same s06), dok.nd, hm, fun H7 l s7 hc => ⟨l, ?_⟩⟩
      obtain ⟨as, hl, pc⟩ := hc
      have s07 := s06.trans s7
      refine ⟨rfl, ⟨_, SqL.of hl⟩, fun D hD => ?_⟩
      have hg7 := s7 _ _ hg
      have hah7 := s7 _ _ (s6 _ _ hah)
      have cfew := cok.few
      refine dc_keep (walk_list (xs := as.map V.ref)) (rowK (rowNew cs hadr st.prs)) (by unfold rowK rowNew; rw [List.length_map, List.length_map, List.length_map, pc.length]) (by rw [List.length_map, pc.length]; omega) ?_ hD (fun H s => SqL.of (s _ _ hl)) ?_ ?_
      · rw [rowK_keys]
        refine nd_inr ?_
        unfold rowNew
        rw [List.map_map]
        exact cok.nd
      · rintro i k z y H8 H' Nx Ad hkz s8 ⟨rfl, hy⟩ qd
        obtain ⟨a, c, dc, rfl, hcc, hca⟩ := col_at pc hy
        obtain ⟨nm, hnm, rfl⟩ := rowK_at hkz
        obtain ⟨c2, hc2, e2⟩ := map_at hnm
        rw [hcc] at hc2
        cases hc2
        cases e2
        have ha8 := s8 _ _ hca
        refine ⟨rfl, _, rfl, a, _, dc, _, _, rfl, ha8, T.c_Column, T.n_Column_name, lk_name c, _, rfl, g, rfl, .inl ⟨_, .inl (s8 _ _ hg7)⟩, _, rfl, a, _, dc, _, _, rfl, ha8, T.c_Column, T.n_Column_name, lk_name c,
          _, rfl, ha, rfl, .inl ⟨_, .inl (s8 _ _ hah7)⟩, _, rfl, a, _, dc, _, _, rfl, ha8, T.c_Column, T.n_Column_name, lk_name c, get hadr c.nm, dget (k := .inr c.nm) (.inl (s8 _ _ hah7)) (rowK_get _ _), get st.prs c.nm, dget (k := .inr c.nm) (.inl (s8 _ _ hg7)) (rowK_get _ _), ?_⟩
        exact qd _ (Same.refl _)
      · intro H8 s8 hD8
        have s48 : Same H4 H8 := s5.trans (s6.trans (s7.trans s8))
        have s08 := s04.trans s48
        have hq8 := s48 _ _ hrs.1
        have hB8 := hB.keep (.of_same s48)
        have hrs8 := hrs.keep (.of_same s48)
        have nqD : D ≠ q := fun z => by
          have e9 := (s5.trans (s6.trans s7)) _ _ hrs.1
          rw [← z, hD] at e9
          cases e9
        refine ⟨_, rfl, _, rfl, fp, _, rfl, dget (k := .inr st.tab) (.inl hB8.1) hv, _, rfl, q, _, rfl, DPut.k (k := .inl st.key) hq8 (by unfold rowsK; rw [List.length_map, sizeLine_eq]; omega), ?_⟩
        rw [rowsK_put rs st.key D (rowNew cs hadr st.prs)]
        have s09 : Same H (upd H8 q (.dK (rowsK (put rs st.key (D, rowNew cs hadr st.prs))))) := sWr s08 qf
        have hmEd : plR (put rs st.key (D, rowNew cs hadr st.prs)) = mEd d st (plR rs) := by
          rw [plR_put]
          unfold mEd
          cases z : st.kd with
          | drop => exact absurd z ekd
          | set =>
            dsimp only
            rw [ec, ehad]
          | put =>
            have nn : get (plR rs) st.key = none := by
              unfold mKey at hk
              rw [z] at hk
              dsimp only at hk
              rw [rowsOf_get gT] at hk
              cases y : get (plR rs) st.key with
              | none => rfl
              | some v =>
                rw [y] at hk
                cases hk
            dsimp only
            rw [ec, ehad]
            unfold rowOf
            rw [nn]
            rfl
        have hBe : TabsD (upd H8 q (.dK (rowsK (put rs st.key (D, rowNew cs hadr st.prs))))) fp (edA B st.tab q (put rs st.key (D, rowNew cs hadr st.prs))) := by
          refine TabsD.edit hB8 ndB nd hgB ⟨upd_same, fun r hr => ?_⟩ fun a n1 n2 o ho => by rw [upd_ne n1]; exact ho
          rcases mem_put hr with e9 | e9
          · rw [e9]
            exact (upd_ne nqD).trans hD8
          · rw [upd_ne (row_ne hrs8 e9)]
            exact hrs8.2 r e9
        have epl : plT (edA B st.tab q (put rs st.key (D, rowNew cs hadr st.prs))) = mTabs d (plT As) st := by
          rw [edA_plT (f := mEd d st) ndB hgB hmEd, ep]
          rfl
        generalize upd H8 q (.dK (rowsK (put rs st.key (D, rowNew cs hadr st.prs)))) = H9 at s09 hBe ⊢
        have tok9 : TabsOk d 60 (mTabs d (plT As) st) := tabs_made dok sok tok
        have egr : get (rowsOf (mTabs d (plT As) st) st.tab) st.key = some (rowNew cs hadr st.prs) := by
          unfold mTabs
          rw [edT_rows gT, ← hmEd, plR_put, get_put, if_pos rfl]
        have w2 : mWhy d (plT As) st = mRow d (mTabs d (plT As) st) st.tab st.key := by
          rw [why_two hk]
          unfold mWhy2
          cases z : st.kd with
          | drop => exact absurd z ekd
          | put => rfl
          | set => rfl
        refine ⟨_, rfl, _, rfl, _, rfl, _, rfl, x, fp, d, edA B st.tab q (put rs st.key (D, rowNew cs hadr st.prs)), st.tab, st.key, cs, rowNew cs hadr st.prs, rfl, ⟨sch.keep (.of_same s09), dok, hBe, by rw [epl]; exact tok9⟩, hm, by rw [epl]; exact egr, fun e9 H10 s10 => ⟨_, rfl, ?_⟩, fun rr hrr hne cls dd H' hx => ?_⟩
        · rw [epl] at e9
          exact kq (w2.trans e9) _ fp _ (s09.trans s10) (hBe.keep (.of_same s10)) epl
        · rw [epl] at hrr
          exact ke rr (w2.trans hrr) hne _ _ _ (hx.pre s09)
end
end K16

/-! K16P: statements drawn -/
namespace K16
open PySem PySem.Spec PyProof.Rows L2 He
section
variable {P : Program} {w : World} {K : Fr} {mg : Str → Option Value} {base : Heap}
theorem w_truth {b : Bool} : WOk "truth" (.bl b) := .inr (.inr (.inl ⟨rfl, b, rfl⟩))
theorem w_link {i : Int} (h : 1 ≤ i) : WOk "link" (.int i) := .inr (.inr (.inr ⟨rfl, i, rfl, h⟩))
theorem w_whole {i : Int} : WOk "whole" (.int i) := .inl ⟨rfl, i, rfl⟩
theorem w_text {s : Str} (h : Written SIGNS 12 s) : WOk "text" (.str s) := .inr (.inl ⟨rfl, s, rfl, h⟩)
theorem n_wt : ("whole" : Str) ≠ "truth" := by decide +kernel
theorem n_wx : ("whole" : Str) ≠ "text" := by decide +kernel
theorem n_wl : ("whole" : Str) ≠ "link" := by decide +kernel
theorem n_xt : ("text" : Str) ≠ "truth" := by decide +kernel
theorem n_xl : ("text" : Str) ≠ "link" := by decide +kernel
theorem n_xw : ("text" : Str) ≠ "whole" := by decide +kernel
theorem n_lt : ("link" : Str) ≠ "truth" := by decide +kernel
theorem n_lx : ("link" : Str) ≠ "text" := by decide +kernel
theorem n_lw : ("link" : Str) ≠ "whole" := by decide +kernel
theorem sc_l_fits : FnScope n_l_fits p_l_fits (defScope s_l_fits) := ⟨rfl, rfl, rfl, by decide +kernel, rfl, by decide +kernel, by decide +kernel⟩
theorem ok_l_fits (T : Txt K mg w) (O_l_whole : OkD P w K mg base CX0 1 (a_l_whole K) p_l_whole spWhole) (F : ∃ fd, FnT K "_law_fits" "_law_fits" s_l_fits [] (a_l_fits K) fd) : OkD P w K mg base CX0 2 (a_l_fits K) p_l_fits spOfKind := by
  refine okD F sc_l_fits (fun _ _ _ _ _ _ us hl => match us, hl with | [_, _], _ => rfl) (fun vs H Q E h => ?_) (fun cdv A outer s H vs Q E hr h => ?_)
  · obtain ⟨s, v, rfl, _⟩ := h
    rfl
  · obtain ⟨kd, v, rfl, wk, k⟩ := h
    refine ⟨_, (pss_cons (ps_if (pt_cmpR op_eq (pv 0) pe_str (nomark _)) (pss_one (ps_ret (pe_callB call_isi (by rfl) T.z_isinstance (by decide +kernel) (pa_cons (pv 1) (pa_cons (pe_bltn (v := .ty "bool") (by rfl) T.z_bool (by decide +kernel) rfl) pa_nil))))) pss_nil)
      (pss_cons (ps_if (pt_cmpR op_eq (pv 0) pe_str (nomark _)) (pss_cons (ps_set (i := 2) sc_l_fits.nd rfl (Or.inr rfl) pe_str)
        (pss_one (ps_ret (pe_and (pe_callB call_isi (by rfl) T.z_isinstance (by decide +kernel) (pa_cons (pv 1) (pa_cons (pe_bltn (v := .ty "str") (by rfl) T.z_str (by decide +kernel) rfl) pa_nil))) (pe_and (pe_chain op_lt op_lt pe_int (pe_callB call_len_str (by rfl) T.z_len (by decide +kernel) (pa_cons (pv 1) pa_nil)) pe_int) (pe_one (pe_callB (cr_all rfl) (by rfl) T.z_all (by decide +kernel) (pa_cons (pe_lc (own := [("_law_sign", 3)]) (g := (gName 3)) (tt := tYes) rfl sc_l_fits.nd (pi_str (pv 1)) (blkOk_by (own := [("_law_sign", 3)]) (N := n_l_fits) (sc := defScope s_l_fits) (by decide +kernel)) (fun _ _ _ _ _ => (pg_name (i := 3) sc_l_fits.nd rfl (Or.inl rfl))) (fun _ _ _ _ _ => pts_nil) (fun _ _ _ _ _ => (pe_cmpR op_in_sign (pv 3) (pv 2) (by rfl)))) pa_nil)))))))) pss_nil)
      (pss_one (ps_ret (pe_and (pe_own O_l_whole (hr.mono (by decide)) T.g__law_whole (pa_cons (pv 1) pa_nil)) (pe_one (pe_or (pe_cmpR op_eq (pv 0) pe_str (nomark _)) (pe_one (pe_cmpR op_gt (pv 1) pe_int (nomark _)))))))))), ?_⟩
    rcases wk with ⟨rfl, i, rfl⟩ | ⟨rfl, z, rfl, w1, w2, w3⟩ | ⟨rfl, b, rfl⟩ | ⟨rfl, i, rfl, i1⟩
    · refine ⟨_, rfl, rfl, _, rfl, ifF (eqS_f n_wt) ⟨_, rfl, rfl, _, rfl, ifF (eqS_f n_wx) ?_⟩⟩
      exact ⟨_, rfl, i, rfl, true, rfl, iteT ⟨_, rfl, rfl, _, rfl, ifT (eqS_t rfl) (k _ (Same.refl _))⟩⟩
    · refine ⟨_, rfl, rfl, _, rfl, ifF (eqS_f n_xt) ⟨_, rfl, rfl, _, rfl, ifT (eqS_t rfl) ?_⟩⟩
      refine ⟨_, rfl, _, _, _, _, true, rfl, .ty "str", .base (.str z), kt_ss, true, rfl, iteT ?_⟩
      refine ⟨_, rfl, z, rfl, Nat.le_trans w2 (by decide), _, _, rfl, rfl, _, rfl, ?_⟩
      rw [decide_eq_true (show (0 : Int) < (z.length : Int) by omega)]
      refine iteT ⟨_, _, rfl, rfl, _, rfl, ?_⟩
      rw [decide_eq_true (show (z.length : Int) < 13 by omega)]
      refine iteT ?_
      refine ⟨_, rfl, z, rfl, fun D hD => ?_⟩
      refine lc_text (fun i H1 => Same H H1 ∧ H1 D = some (.lst ((List.replicate i true).map V.bl))) ⟨Same.new hD, upd_same⟩ ?_ ?_
      · rintro i c H1 hi ⟨s1, h1⟩
        refine ⟨rfl, _, rfl, _, rfl, c, SIGNS, rfl, rfl, _, h1, ?_, sWr s1 hD, ?_⟩
        · have := lt_of_at hi
          rw [List.length_map, List.length_replicate, sizeLine_eq]
          have e : z.cps.toList.length = z.length := by simp [Str.length]
          omega
        · rw [decide_eq_true (w3 c (List.mem_of_getElem? hi)), upd_same, List.replicate_succ', List.map_append]
          rfl
      · rintro H1 ⟨s1, h1⟩
        refine ⟨D, _, rfl, SqL.of h1, ?_⟩
        rw [show (List.replicate z.cps.toList.length true).all id = true by simp]
        exact k _ s1
    · exact ⟨_, rfl, rfl, _, rfl, ifT (eqS_t rfl) ⟨_, rfl, _, _, _, _, true, rfl, .ty "bool", .base (.bl b), kt_bb, k _ (Same.refl _)⟩⟩
    · refine ⟨_, rfl, rfl, _, rfl, ifF (eqS_f n_lt) ⟨_, rfl, rfl, _, rfl, ifF (eqS_f n_lx) ?_⟩⟩
      refine ⟨_, rfl, i, rfl, true, rfl, iteT ⟨_, rfl, rfl, _, rfl, ifF (eqS_f n_lw) ⟨_, rfl, _, _, rfl, rfl, ?_⟩⟩⟩
      show Q (.bl (decide (0 < i))) H
      rw [decide_eq_true (show (0 : Int) < i by omega)]
      exact k _ (Same.refl _)
def spWorth : Sp := fun vs H Q _ => ∃ (st c : Addr) (kd : Str), vs = [.ref st, .str kd] ∧ (kd = "whole" ∨ kd = "text" ∨ kd = "truth" ∨ kd = "link") ∧ StAt H st c ∧ ∀ v H', Keep H H' → StAt H' st c → WOk kd v → Q v H'
def four : List Str := ["a", "b", "a-1", "7"]
theorem four_at {i : Nat} (h : i < 4) : ∃ s : Str, four[i]? = some s ∧ Written SIGNS 12 s := by
  match i, h with
  | 0, _ => exact ⟨"a", rfl, by decide +kernel, by decide +kernel, by decide +kernel⟩
  | 1, _ => exact ⟨"b", rfl, by decide +kernel, by decide +kernel, by decide +kernel⟩
  | 2, _ => exact ⟨"a-1", rfl, by decide +kernel, by decide +kernel, by decide +kernel⟩
  | 3, _ => exact ⟨"7", rfl, by decide +kernel, by decide +kernel, by decide +kernel⟩
  | n + 4, h => omega
theorem ints4_at {i : Nat} (h : i < 4) : ∃ j : Int, [V.int 1, .int 2, .int 0, .int (-1)][i]? = some (.int j) := by
  match i, h with
  | 0, _ => exact ⟨1, rfl⟩
  | 1, _ => exact ⟨2, rfl⟩
  | 2, _ => exact ⟨0, rfl⟩
  | 3, _ => exact ⟨-1, rfl⟩
  | n + 4, h => omega
theorem sc_l_worth : FnScope n_l_worth p_l_worth (defScope s_l_worth) := ⟨rfl, rfl, rfl, by decide +kernel, rfl, by decide +kernel, by decide +kernel⟩
theorem ok_l_worth (T : Txt K mg w) (O_l_take : OkD P w K mg base CX0 2 (a_l_take K) p_l_take spTake) (F : ∃ fd, FnT K "_law_worth" "_law_worth" s_l_worth [] (a_l_worth K) fd) : OkD P w K mg base CX0 3 (a_l_worth K) p_l_worth spWorth := by
  refine okD F sc_l_worth (fun _ _ _ _ _ _ us hl => match us, hl with | [_, _], _ => rfl) (fun vs H Q E h => ?_) (fun cdv A outer s H vs Q E hr h => ?_)
  · obtain ⟨st, c, kd, rfl, _⟩ := h
    rfl
  · obtain ⟨st, c, kd, rfl, hkd, hs, k⟩ := h
    refine ⟨_, (pss_cons (ps_set (i := 2) sc_l_worth.nd rfl (Or.inl rfl) (pe_own O_l_take (hr.mono (by decide)) T.g__law_take (pa_cons (pv 0) (pa_cons pe_int pa_nil))))
      (pss_cons (ps_set (i := 3) sc_l_worth.nd rfl (Or.inl rfl) (pe_own O_l_take (hr.mono (by decide)) T.g__law_take (pa_cons (pv 0) (pa_cons pe_int pa_nil))))
      (pss_cons (ps_if (pt_cmpR op_eq (pv 1) pe_str (nomark _)) (pss_one (ps_ret (pe_cmpR op_eq (pe_op op_mod (pv 3) pe_int) pe_int (nomark _)))) pss_nil)
      (pss_cons (ps_if (pt_cmpR op_eq (pv 1) pe_str (nomark _)) (pss_one (ps_ret (pe_op op_add pe_int (pv 3)))) pss_nil)
      (pss_cons (ps_if (pt_cmpR op_eq (pv 1) pe_str (nomark _)) (pss_one (ps_ret (pe_ifExp (pt_cmpR op_eq (pv 2) pe_int (nomark _)) (pe_op op_sub (pe_own O_l_take (hr.mono (by decide)) T.g__law_take (pa_cons (pv 0) (pa_cons (pe_op op_pow pe_int pe_int) pa_nil))) (pe_op op_mul pe_int (pe_op op_pow pe_int pe_int))) (pe_ix ix_tup (pe_tup (pa_cons pe_int (pa_cons pe_int (pa_cons pe_int (pa_cons (pe_un un_neg pe_int) pa_nil))))) (pv 3) (fun _ _ => rfl))))) pss_nil)
      (pss_cons (ps_set (i := 4) sc_l_worth.nd rfl (Or.inr rfl) pe_str)
      (pss_cons (ps_set (i := 5) sc_l_worth.nd rfl (Or.inl rfl) (pe_join pe_str (pe_lc (own := [("_law_k", 6)]) (g := (gName 6)) (tt := tYes) rfl sc_l_worth.nd (pi_range1 (by rfl) T.z_range (pa_cons (pe_op op_add pe_int (pe_op op_mul (pe_own O_l_take (hr.mono (by decide)) T.g__law_take (pa_cons (pv 0) (pa_cons pe_int pa_nil))) (pe_callTy call_int1 (by rfl) T.z_int (by decide +kernel) (pa_cons (pe_cmpR op_eq (pv 2) pe_int (nomark _)) pa_nil)))) pa_nil)) (blkOk_by (own := [("_law_k", 6)]) (N := n_l_worth) (sc := defScope s_l_worth) (by decide +kernel)) (fun _ _ _ _ _ => (pg_name (i := 6) sc_l_worth.nd rfl (Or.inl rfl))) (fun _ _ _ _ _ => pts_nil) (fun _ _ _ _ _ => (pe_ix ix_str (pv 4) (pe_own O_l_take (hr.mono (by decide)) T.g__law_take (pa_cons (pv 0) (pa_cons pe_int pa_nil))) (fun _ _ => rfl))))))
      (pss_one (ps_ret (pe_ifExp (pt_cmpR op_lt (pv 2) pe_int (nomark _)) (pv 5) (pe_ix ix_tup (pe_tup (pa_cons pe_str (pa_cons pe_str (pa_cons pe_str (pa_cons pe_str pa_nil))))) (pv 3) (fun _ _ => rfl)))))))))))), ?_⟩
    refine ⟨_, rfl, st, c, 8, rfl, by decide, by decide, hs, fun e1 H1 e10 e18 k1 s1 => ⟨_, rfl, st, c, 4, rfl, by decide, by decide, s1, fun e2 H2 e20 e24 k2 s2 => ?_⟩⟩
    have k02 := k1.trans k2
    rcases hkd with rfl | rfl | rfl | rfl
    · refine ⟨_, rfl, rfl, _, rfl, ifF (eqS_f n_wt) ⟨_, rfl, rfl, _, rfl, ifF (eqS_f n_wl) ⟨_, rfl, rfl, _, rfl, ifT (eqS_t rfl) ?_⟩⟩⟩
      refine ⟨_, rfl, rfl, _, rfl, ite2 (fun _ => ?_) (fun _ => ?_)⟩
      · refine ⟨_, rfl, _, _, rfl, rfl, ⟨by decide, by decide, by decide⟩, st, c, 10 ^ (30 : Int).toNat, rfl, by decide +kernel, by decide +kernel, s2, fun e3 H3 e30 e3b k3 s3 => ?_⟩
        exact ⟨_, _, rfl, rfl, ⟨by decide, by decide, by decide⟩, _, _, rfl, rfl, .inl ⟨by decide, by decide⟩, _, _, rfl, rfl, k _ _ (k02.trans k3) s3 w_whole⟩
      · refine ⟨1, rfl, by show 4 ≤ sizeLine; decide, fun t ht => ?_⟩
        obtain ⟨j, hj⟩ := ints4_at (i := e2.toNat) (by omega)
        exact ⟨_, rfl, t, _, e2, .int j, rfl, rfl, SqT.of upd_same, at_of (j := e2.toNat) (by omega) hj, k _ _ (k02.trans (.new ht)) (s2.wr ht) w_whole⟩
    · refine ⟨_, rfl, rfl, _, rfl, ifF (eqS_f n_xt) ⟨_, rfl, rfl, _, rfl, ifF (eqS_f n_xl) ⟨_, rfl, rfl, _, rfl, ifF (eqS_f n_xw) ?_⟩⟩⟩
      refine ⟨⟨_, rfl⟩, _, rfl, st, c, 12, rfl, by decide, by decide, s2, fun e3 H3 e30 e3b k3 s3 => ?_⟩
      refine ⟨_, rfl, rfl, .inr ⟨_, rfl, _, _, rfl, rfl, .inl ⟨by omega, by omega⟩, _, _, rfl, rfl, ?_⟩⟩
      obtain ⟨m, hm, m1, m2⟩ : ∃ m : Int, m = 1 + e3 * (if decide (V.int e1 = V.int 0) = true then 1 else 0) ∧ 1 ≤ m ∧ m ≤ 12 := by
        refine ⟨_, rfl, ?_, ?_⟩ <;> split <;> omega
      refine ⟨m, congrArg (fun z => [V.int z]) hm.symm, by omega, by omega, fun D hD => ?_⟩
      have k03 := k02.trans k3
      have hD0 : H D = none := k03.dom D hD
      refine lc_range (lo := 0) (n := m.toNat) (fun j H4 => ∃ cs : List Nat, Keep H H4 ∧ StAt H4 st c ∧ H4 D = some (.lst ((cs.map sgn).map V.str)) ∧ cs.length = j ∧ ∀ c ∈ cs, c ∈ SIGNS.cps.toList)
        ⟨[], k03.trans (.new hD), s3.wr hD, upd_same, rfl, fun c hc => nomatch hc⟩ ?_ ?_
      · rintro j H4 hj ⟨cs, k4, s4, hD4, hc4, hcs⟩
        refine ⟨rfl, _, rfl, _, rfl, st, c, 37, rfl, by decide, by decide, s4, fun e H5 e0 e37 k5 s5 => ?_⟩
        have lt : e.toNat < SIGNS.cps.toList.length := by
          rw [signs_len]
          omega
        refine ⟨SIGNS, e, SIGNS.cps.toList[e.toNat], rfl, rfl, (by rw [len_signs]; decide), at_g (j := e.toNat) (Int.toNat_of_nonneg e0).symm (List.getElem?_eq_getElem lt), ?_⟩
        have hD5 := k5.get _ _ hD4 (isSt_strs _)
        refine ⟨_, hD5, (by rw [List.length_map, List.length_map, sizeLine_eq]; omega), cs ++ [SIGNS.cps.toList[e.toNat]], (k4.trans k5).wr hD0, s5.wrN hs hD0, ?_, by rw [List.length_append, hc4]; rfl, ?_⟩
        · rw [upd_same, List.map_append, List.map_append]
          rfl
        · intro c hc
          rcases List.mem_append.mp hc with h | h
          · exact hcs c h
          · rw [List.mem_singleton.mp h]
            exact List.getElem_mem lt
      · rintro H4 ⟨cs, k4, s4, hD4, hc4, hcs⟩
        refine ⟨_, D, cs.map sgn, rfl, rfl, .inl (SqL.of hD4), (by rw [sum_ones, List.length_map, len_empty]; omega), ?_⟩
        rw [join_codes]
        have wz : Written SIGNS 12 ⟨cs.toArray⟩ := written_codes (by omega) (by omega) hcs
        generalize (⟨cs.toArray⟩ : Str) = z at wz ⊢
        refine ⟨_, rfl, _, _, rfl, rfl, _, rfl, ite2 (fun _ => ⟨_, rfl, k _ _ k4 s4 (w_text wz)⟩) (fun _ => ?_)⟩
        refine ⟨by show 4 ≤ sizeLine; decide, fun t ht => ?_⟩
        obtain ⟨j, hj, wj⟩ := four_at (i := e2.toNat) (by omega)
        exact ⟨_, rfl, t, four.map V.str, e2, .str j, rfl, rfl, SqT.of upd_same, at_of (j := e2.toNat) (by omega) (map_get hj), k _ _ (k4.trans (.new ht)) (s4.wr ht) (w_text wj)⟩
    · exact ⟨_, rfl, rfl, _, rfl, ifT (eqS_t rfl) ⟨_, rfl, _, _, rfl, rfl, by show (0 : Int) < 2; decide, rfl, k _ _ k02 s2 w_truth⟩⟩
    · exact ⟨_, rfl, rfl, _, rfl, ifF (eqS_f n_lt) ⟨_, rfl, rfl, _, rfl, ifT (eqS_t rfl) ⟨_, rfl, _, _, rfl, rfl, k _ _ k02 s2 (w_link (by omega))⟩⟩⟩
def spLKey : Sp := fun vs H Q _ => ∃ (st c : Addr), vs = [.ref st] ∧ StAt H st c ∧ ∀ i H', 1 ≤ i → i ≤ 999999 → Keep H H' → StAt H' st c → Q (.int i) H'
theorem sc_l_key : FnScope n_l_key p_l_key (defScope s_l_key) := ⟨rfl, rfl, rfl, by decide +kernel, rfl, by decide +kernel, by decide +kernel⟩
theorem ok_l_key (T : Txt K mg w) (O_l_take : OkD P w K mg base CX0 2 (a_l_take K) p_l_take spTake) (F : ∃ fd, FnT K "_law_key" "_law_key" s_l_key [] (a_l_key K) fd) : OkD P w K mg base CX0 3 (a_l_key K) p_l_key spLKey := by
  refine okD F sc_l_key (fun _ _ _ _ _ _ us hl => match us, hl with | [_], _ => rfl) (fun vs H Q E h => ?_) (fun cdv A outer s H vs Q E hr h => ?_)
  · obtain ⟨st, c, rfl, _⟩ := h
    rfl
  · obtain ⟨st, c, rfl, hs, k⟩ := h
    refine ⟨_, (pss_one (ps_ret (pe_ifExp (pt_cmpR op_gt (pe_own O_l_take (hr.mono (by decide)) T.g__law_take (pa_cons (pv 0) (pa_cons pe_int pa_nil))) pe_int (nomark _)) (pe_op op_add pe_int (pe_own O_l_take (hr.mono (by decide)) T.g__law_take (pa_cons (pv 0) (pa_cons pe_int pa_nil)))) (pe_op op_add pe_int (pe_own O_l_take (hr.mono (by decide)) T.g__law_take (pa_cons (pv 0) (pa_cons pe_int pa_nil))))))), ?_⟩
    refine ⟨_, rfl, st, c, 6, rfl, by decide, by decide, hs, fun e1 H1 e10 e18 k1 s1 => ⟨_, _, rfl, rfl, _, rfl, ite2 (fun _ => ?_) (fun _ => ?_)⟩⟩
    · exact ⟨_, rfl, st, c, 5, rfl, by decide, by decide, s1, fun e2 H2 e20 e24 k2 s2 => ⟨_, _, rfl, rfl, k _ _ (by omega) (by omega) (k1.trans k2) s2⟩⟩
    · exact ⟨_, rfl, st, c, 999999, rfl, by decide, by decide, s1, fun e2 H2 e20 e24 k2 s2 => ⟨_, _, rfl, rfl, k _ _ (by omega) (by omega) (k1.trans k2) s2⟩⟩
end
end K16

/-! K16Q: pairs and statements drawn -/
namespace K16
open PySem PySem.Spec PyProof.Rows L2 He
section
variable {P : Program} {w : World} {K : Fr} {mg : Str → Option Value} {base : Heap}
theorem pTake {α β : Type} {F : α → β → Prop} : ∀ (n : Nat) {l₁ : List α} {l₂ : List β}, Paired F l₁ l₂ → Paired F (l₁.take n) (l₂.take n)
  | 0, _, _, _ => .nil
  | n + 1, _, _, .nil => .nil
  | n + 1, _, _, .cons r t => .cons r (pTake n t)
theorem pDrop {α β : Type} {F : α → β → Prop} : ∀ (n : Nat) {l₁ : List α} {l₂ : List β}, Paired F l₁ l₂ → Paired F (l₁.drop n) (l₂.drop n)
  | 0, _, _, h => h
  | n + 1, _, _, .nil => .nil
  | n + 1, _, _, .cons r t => pDrop n t
theorem pApp {α β : Type} {F : α → β → Prop} : ∀ {l₁ m₁ : List α} {l₂ m₂ : List β}, Paired F l₁ l₂ → Paired F m₁ m₂ → Paired F (l₁ ++ m₁) (l₂ ++ m₂)
  | _, _, _, _, .nil, h => h
  | _, _, _, _, .cons r t, h => .cons r (pApp t h)
def insA {α : Type} (n : Nat) (x : α) (l : List α) : List α := l.take n ++ [x] ++ l.drop n
theorem insA_perm {α : Type} (n : Nat) (x : α) (l : List α) : (insA n x l).Perm (x :: l) := by
  unfold insA
  have e : l.take n ++ [x] ++ l.drop n = l.take n ++ x :: l.drop n := by simp
  rw [e]
  have h := List.perm_middle (a := x) (l₁ := l.take n) (l₂ := l.drop n)
  rw [List.take_append_drop] at h
  exact h
theorem colT_at {H : Hp} {as : List Addr} {cs : Cols} {i : Nat} {x : V} (pc : Paired (ColT H) as cs) (h : (as.map V.ref)[i]? = some x) : ∃ a c, x = .ref a ∧ cs[i]? = some c ∧ H a = some (.tup c.vs) := by
  obtain ⟨a, ha, rfl⟩ := map_at h
  obtain ⟨c, hc, z⟩ := pAt pc ha
  exact ⟨a, c, rfl, hc, z⟩
def PrsOk (cs : Cols) (prs : Row) : Prop := (prs.map (·.1)).Nodup ∧ prs.length ≤ 5 ∧ ∀ q ∈ prs, ∃ c ∈ cs, c.nm = q.1 ∧ (q.2 = .non ∨ WOk c.kd q.2)
def spPairs : Sp := fun vs H Q _ => ∃ (st c cp : Addr) (often : Int) (ws : List Str) (cs : Cols), vs = [.ref st, .ref cp, .int often] ∧ 0 < often ∧ often ≤ 10 ^ 30 ∧ StAt H st c ∧ ColsL H cp cs ∧ ColsOk ws cs ∧ ∀ H' q prs, Keep H H' → StAt H' st c → PrsT H' q prs → PrsOk cs prs → Q (.ref q) H'
theorem sc_l_pairs : FnScope n_l_pairs p_l_pairs (defScope s_l_pairs) := ⟨rfl, rfl, rfl, by decide +kernel, rfl, by decide +kernel, by decide +kernel⟩
theorem ok_l_pairs (T : Txt K mg w) (O_l_take : OkD P w K mg base CX0 2 (a_l_take K) p_l_take spTake) (O_l_worth : OkD P w K mg base CX0 3 (a_l_worth K) p_l_worth spWorth) (F : ∃ fd, FnT K "_law_pairs" "_law_pairs" s_l_pairs [] (a_l_pairs K) fd) : OkD P w K mg base CX0 4 (a_l_pairs K) p_l_pairs spPairs := by
  refine okD F sc_l_pairs (fun _ _ _ _ _ _ us hl => match us, hl with | [_, _, _], _ => rfl) (fun vs H Q E h => ?_) (fun cdv A outer s H vs Q E hr h => ?_)
  · obtain ⟨st, c, cp, often, ws, cs, rfl, _⟩ := h
    rfl
  · obtain ⟨st, c, cp, often, ws, cs, rfl, o1, o2, hs, ⟨as, hcp, pc⟩, cok, k⟩ := h
    have few := cok.few
    have ln := pc.length
    refine ⟨_, (pss_cons (ps_set (i := 3) sc_l_pairs.nd rfl (Or.inl rfl) (pe_lst pa_nil))
      (pss_cons (ps_for PassesOwn.never rfl (pi_list (pv 1)) (pg_tup rfl (pgs_cons (pg_name (i := 4) sc_l_pairs.nd rfl (Or.inl rfl)) (pgs_cons (pg_name (i := 5) sc_l_pairs.nd rfl (Or.inl rfl)) (pgs_cons (pg_name (i := 6) sc_l_pairs.nd rfl (Or.inl rfl)) (pgs_cons (pg_name (i := 7) sc_l_pairs.nd rfl (Or.inl rfl)) (pgs_cons (pg_name (i := 8) sc_l_pairs.nd rfl (Or.inl rfl)) (pgs_cons (pg_name (i := 9) sc_l_pairs.nd rfl (Or.inl rfl)) pgs_nil))))))) (pss_cons (ps_set (i := 10) sc_l_pairs.nd rfl (Or.inl rfl) (pe_own O_l_worth (hr.mono (by decide)) T.g__law_worth (pa_cons (pv 0) (pa_cons (pv 5) pa_nil))))
        (C8.pss_cut (ps_if (pt_mid (PW.pt (pw_and (pt_val (pv 6)) (pw_and1 (pt_cmpR op_eq (pe_own O_l_take (hr.mono (by decide)) T.g__law_take (pa_cons (pv 0) (pa_cons pe_int pa_nil))) pe_int (nomark _)))))) (pss_one (ps_set (i := 10) sc_l_pairs.nd rfl (Or.inl rfl) pe_non)) pss_nil)
        (pss_one (ps_if (pt_mid (PW.pt (pw_or (pt_not (pt_val (pv 6))) (pw_or1 (pt_cmpR op_gt (pe_own O_l_take (hr.mono (by decide)) T.g__law_take (pa_cons (pv 0) (pa_cons (pv 2) pa_nil))) pe_int (nomark _)))))) (pss_one (ps_expr (pe_bm PySem.F.plainAttrs_list PySem.F.slot_list_insert PySem.F.type_list_insert mt_insert (pv 3) (pa_cons (pe_own O_l_take (hr.mono (by decide)) T.g__law_take (pa_cons (pv 0) (pa_cons (pe_op op_add (pe_callB call_len_seq (by rfl) T.z_len (by decide +kernel) (pa_cons (pv 3) pa_nil)) pe_int) pa_nil))) (pa_cons (pe_tup (pa_cons (pv 4) (pa_cons (pv 10) pa_nil))) pa_nil))))) pss_nil)))))
      (pss_one (ps_ret (pe_callTy call_tupleF (by rfl) T.z_tuple (by decide +kernel) (pa_cons (pv 3) pa_nil)))))), ?_⟩
    refine ⟨Nat.zero_le _, fun pp hpp => ?_⟩
    refine ⟨_, rfl, cp, rfl, ⟨_, SqL.of ((Same.new hpp) _ _ hcp)⟩, ?_⟩
    refine for_list (K := K) (a := cp) (xs := as.map V.ref) (fun i σ H1 => ∃ (us : List Addr) (prs : Row) (v4 v5 v6 v7 v8 v9 v10 : Option V), σ = [some (.ref st), some (.ref cp), some (.int often), some (.ref pp), v4, v5, v6, v7, v8, v9, v10] ∧ Keep H H1 ∧ StAt H1 st c ∧
        H1 pp = some (.lst (us.map V.ref)) ∧ Paired (prT H1) us prs ∧ (prs.map (·.1)).Nodup ∧ prs.length ≤ i ∧ ∀ q ∈ prs, ∃ c ∈ cs.take i, c.nm = q.1 ∧ (q.2 = .non ∨ WOk c.kd q.2))
      ⟨[], [], none, none, none, none, none, none, none, rfl, .new hpp, hs.wr hpp, upd_same, .nil, List.nodup_nil, Nat.le_refl _, nofun⟩ (fun i σ H1 _ h => ?_) ?_ ?_
    · obtain ⟨_, _, _, _, _, _, _, _, _, _, h, _⟩ := h
      exact SqL.of (h.get _ _ hcp (isSt_refs _))
    · rintro i y σ H1 hi ⟨us, prs, v4, v5, v6, v7, v8, v9, v10, rfl, k1, s1, hp1, pu, nd, lp, po⟩
      obtain ⟨a, cl, rfl, hc, ha⟩ := colT_at pc hi
      have il := lt_of_at hc
      have cm := List.mem_of_getElem? hc
      have ck := cok.ok cl cm
      have lu := pu.length
      refine ⟨a, _, rfl, SqT.of (k1.get _ _ ha rfl), rfl, _, _, rfl, _, _, rfl, _, _, rfl, _, _, rfl, _, _, rfl, _, _, rfl, rfl, ?_⟩
      refine ⟨_, rfl, _, rfl, st, c, cl.kd, rfl, ck.kd, s1, fun v H2 k2 s2 wv => ?_⟩
      refine ⟨fun σ' H' => ∃ v, σ' = [some (.ref st), some (.ref cp), some (.int often), some (.ref pp), some (.str cl.nm), some (.str cl.kd), some (.bl cl.bare), some (.bl cl.lone), some cl.goal, some (.str cl.fate), some v] ∧ Keep H1 H' ∧ StAt H' st c ∧ (v = .non ∨ WOk cl.kd v), ?_, ?_⟩
      · refine ⟨fun b H3 => Keep H1 H3 ∧ StAt H3 st c, ?_, ?_⟩
        · refine ⟨_, rfl, cl.bare, rfl, ite2 (fun _ => ?_) (fun _ => ⟨k2, s2⟩)⟩
          exact ⟨_, rfl, st, c, 4, rfl, by decide, by decide, s2, fun e H3 e0 e4 k3 s3 => ⟨rfl, _, rfl, k2.trans k3, s3⟩⟩
        · rintro b H3 ⟨k3, s3⟩
          cases b with
          | true => exact iteT ⟨.non, rfl, k3, s3, .inl rfl⟩
          | false => exact iteF ⟨v, rfl, k3, s3, .inr wv⟩
      · rintro σ' H3 ⟨v, rfl, k3, s3, wv⟩
        refine ⟨fun b H4 => Keep H1 H4 ∧ StAt H4 st c, ?_, ?_⟩
        · refine ⟨_, rfl, cl.bare, rfl, ite2 (fun _ => ⟨k3, s3⟩) (fun _ => ?_)⟩
          exact ⟨_, rfl, _, rfl, st, c, often, rfl, o1, o2, s3, fun e H4 e0 e4 k4 s4 => ⟨_, _, rfl, rfl, _, rfl, k3.trans k4, s4⟩⟩
        · rintro b H4 ⟨k4, s4⟩
          have hp4 := k4.get _ _ hp1 (isSt_refs _)
          have up : ∀ q ∈ prs, ∃ c ∈ cs.take (i + 1), c.nm = q.1 ∧ (q.2 = .non ∨ WOk c.kd q.2) := fun q hq => by
            obtain ⟨c2, h2, r2⟩ := po q hq
            exact ⟨c2, by rw [take_snoc hc]; exact List.mem_append_left _ h2, r2⟩
          cases b with
          | false =>
            refine iteF ⟨us, prs, _, _, _, _, _, _, _, rfl, k1.trans k4, s4, hp4, pMap pu fun a q z => k4.get _ _ z rfl, nd, by omega, up⟩
          | true =>
            refine iteT ⟨_, rfl, .inl ⟨rfl, _, SqL.of hp4⟩, _, rfl, _, rfl, pp, _, rfl, .inl (SqL.of hp4), _, _, rfl, rfl, st, c, _, rfl, by omega, ?_, s4, fun e H5 e0 e5 k5 s5 => ?_⟩
            · rw [List.length_map]
              have z : (us.length : Int) + 1 ≤ 10 := by omega
              exact Int.le_trans z (by decide)
            · refine ⟨_, rfl, _, rfl, by show 2 ≤ sizeLine; decide, fun u hu => ?_⟩
              have k45 := k4.trans k5
              have k46 : Keep H1 (upd H5 u (.tup [.str cl.nm, v])) := k45.trans (.new hu)
              have hp6 := k46.get _ _ hp1 (isSt_refs _)
              refine ⟨pp, _, e, .ref u, rfl, rfl, hp6, by rw [List.length_map, sizeLine_eq]; omega, e0, by rw [List.length_map] at e5; omega, ?_⟩
              have pm := insA_perm e.toNat (cl.nm, v) prs
              refine ⟨insA e.toNat u us, insA e.toNat (cl.nm, v) prs, _, _, _, _, _, _, _, rfl, (k1.trans k46).wr hpp, (s5.wr hu).wrN hs hpp, ?_, ?_, ?_, ?_, fun q hq => ?_⟩
              · rw [upd_same]
                unfold insA
                rw [List.map_append, List.map_append, List.map_take, List.map_drop]
                rfl
              · unfold insA
                have pu2 : Paired (prT (upd (upd H5 u (.tup [.str cl.nm, v])) pp (.lst (List.take e.toNat (us.map V.ref) ++ [.ref u] ++ List.drop e.toNat (us.map V.ref))))) us prs := pMap pu fun a q z => upd_at (k46.get _ _ z rfl) hp6 nofun
                exact pApp (pApp (pTake _ pu2) (.cons (upd_at upd_same hp6 nofun) .nil)) (pDrop _ pu2)
              · refine (pm.map (·.1)).nodup_iff.mpr (List.nodup_cons.mpr ⟨fun h => ?_, nd⟩)
                obtain ⟨q, hq, eq⟩ := List.mem_map.mp h
                obtain ⟨c2, h2, n2, _⟩ := po q hq
                refine notin_take cok.nd (map_get (f := fun c : Col => c.nm) hc) ?_
                rw [← List.map_take]
                exact List.mem_map.mpr ⟨c2, h2, n2.trans eq⟩
              · rw [pm.length_eq, List.length_cons]
                omega
              · rcases List.mem_cons.mp (pm.mem_iff.mp hq) with z | z
                · rw [z]
                  exact ⟨cl, by rw [take_snoc hc]; exact List.mem_append_right _ (List.mem_singleton.mpr rfl), rfl, wv⟩
                · exact up q z
    · rintro σ H1 ⟨us, prs, v4, v5, v6, v7, v8, v9, v10, rfl, k1, s1, hp1, pu, nd, lp, po⟩
      rw [List.length_map, ln] at lp
      refine ⟨_, rfl, pp, _, rfl, SqL.of hp1, fun l ob hl hob => ?_⟩
      refine k _ l prs (k1.trans (.new hl)) (s1.wr hl) ⟨ob, us, hob, upd_same, pMap pu fun a q z => at_new z hl⟩ ⟨nd, by omega, fun q hq => ?_⟩
      obtain ⟨c2, h2, r2⟩ := po q hq
      exact ⟨c2, List.mem_of_mem_take h2, r2⟩
def spStatement : Sp := fun vs H Q _ => ∃ (st c dp : Addr) (d : Desc), vs = [.ref st, .ref dp] ∧ StAt H st c ∧ DescL H dp d ∧ DescOk d ∧ ∀ H' sa s, Keep H H' → StAt H' st c → StmV H' sa s → StmOk d s → Q (.ref sa) H'
theorem sc_l_statement : FnScope n_l_statement p_l_statement (defScope s_l_statement) := ⟨rfl, rfl, rfl, by decide +kernel, rfl, by decide +kernel, by decide +kernel⟩
theorem ok_l_statement (T : Txt K mg w) (O_l_take : OkD P w K mg base CX0 2 (a_l_take K) p_l_take spTake) (O_l_key : OkD P w K mg base CX0 3 (a_l_key K) p_l_key spLKey) (O_l_pairs : OkD P w K mg base CX0 4 (a_l_pairs K) p_l_pairs spPairs) (F : ∃ fd, FnT K "_law_statement" "_law_statement" s_l_statement [] (a_l_statement K) fd) : OkD P w K mg base CX0 5 (a_l_statement K) p_l_statement spStatement := by
  refine okD F sc_l_statement (fun _ _ _ _ _ _ us hl => match us, hl with | [_, _], _ => rfl) (fun vs H Q E h => ?_) (fun cdv A outer s H vs Q E hr h => ?_)
  · obtain ⟨st, c, dp, d, rfl, _⟩ := h
    rfl
  · obtain ⟨st, c, dp, d, rfl, hs, ⟨as, hdp, pd⟩, dok, k⟩ := h
    have few := dok.few
    have ln := pd.length
    refine ⟨_, (pss_cons (ps_asg (pe_ix ix_list (pv 1) (pe_own O_l_take (hr.mono (by decide)) T.g__law_take (pa_cons (pv 0) (pa_cons (pe_callB call_len_seq (by rfl) T.z_len (by decide +kernel) (pa_cons (pv 1) pa_nil)) pa_nil))) (fun _ _ => rfl)) (pg_tup rfl (pgs_cons (pg_name (i := 2) sc_l_statement.nd rfl (Or.inl rfl)) (pgs_cons (pg_name (i := 3) sc_l_statement.nd rfl (Or.inl rfl)) pgs_nil))))
      (pss_cons (ps_set (i := 4) sc_l_statement.nd rfl (Or.inl rfl) (pe_own O_l_key (hr.mono (by decide)) T.g__law_key (pa_cons (pv 0) pa_nil)))
      (pss_cons (ps_set (i := 5) sc_l_statement.nd rfl (Or.inl rfl) (pe_own O_l_take (hr.mono (by decide)) T.g__law_take (pa_cons (pv 0) (pa_cons pe_int pa_nil))))
      (pss_cons (ps_set (i := 6) sc_l_statement.nd rfl (Or.inl rfl) (pe_own O_l_pairs (hr.mono (by decide)) T.g__law_pairs (pa_cons (pv 0) (pa_cons (pv 3) (pa_cons pe_int pa_nil)))))
      (pss_cons (ps_if (pt_cmpR op_lt (pv 5) pe_int (nomark _)) (pss_one (ps_ret (pe_tup (pa_cons pe_str (pa_cons (pv 2) (pa_cons (pv 4) (pa_cons (pv 6) pa_nil))))))) pss_nil)
      (pss_cons (ps_if (pt_cmpR op_lt (pv 5) pe_int (nomark _)) (pss_one (ps_ret (pe_tup (pa_cons pe_str (pa_cons (pv 2) (pa_cons (pv 4) (pa_cons (pe_slice sl_tupF (pv 6) po_none (po_some (pe_op op_add pe_int (pe_own O_l_take (hr.mono (by decide)) T.g__law_take (pa_cons (pv 0) (pa_cons pe_int pa_nil)))))) pa_nil))))))) pss_nil)
      (pss_one (ps_ret (pe_tup (pa_cons pe_str (pa_cons (pv 2) (pa_cons (pv 4) pa_nil)))))))))))), ?_⟩
    refine ⟨_, rfl, _, rfl, _, rfl, dp, _, rfl, .inl (SqL.of hdp), st, c, _, rfl, by rw [List.length_map]; omega, ?_, hs, fun e H1 e0 e1 k1 s1 => ?_⟩
    · rw [List.length_map]
      have z : (as.length : Int) ≤ 10 := by omega
      exact Int.le_trans z (by decide)
    rw [List.length_map] at e1
    have hdp1 := k1.get _ _ hdp (isSt_refs _)
    obtain ⟨a, ha⟩ : ∃ a, as[e.toNat]? = some a := ⟨_, List.getElem?_eq_getElem (by omega)⟩
    obtain ⟨en, hen, cp, hat, hcl⟩ := pAt pd ha
    have em := List.mem_of_getElem? hen
    have hat1 := k1.get _ _ hat rfl
    refine ⟨dp, _, e, .ref a, rfl, rfl, SqL.of hdp1, at_of (j := e.toNat) (by omega) (map_get ha), a, _, rfl, SqT.of hat1, rfl, _, _, rfl, _, _, rfl, rfl, ?_⟩
    refine ⟨_, rfl, st, c, rfl, s1, fun key H2 i1 i2 k2 s2 => ?_⟩
    refine ⟨_, rfl, st, c, 8, rfl, by decide, by decide, s2, fun way H3 w0 w8 k3 s3 => ?_⟩
    have k13 := (k1.trans k2).trans k3
    refine ⟨_, rfl, _, rfl, st, c, cp, 4, d.map (·.1), en.2, rfl, by decide, by decide, s3, hcl.keep k13, dok.ok en em, fun H4 q prs k4 s4 hprs pok => ?_⟩
    have k14 := k13.trans k4
    have mk : ∀ kd ps, (∀ x ∈ ps, x ∈ prs) → (ps.map (·.1)).Nodup → ps.length ≤ 5 → StmOk d ⟨kd, en.1, key, ps⟩ := fun kd ps sub nd few => ⟨⟨en.2, em, fun x hx => pok.2.2 x (sub x hx)⟩, ⟨i1, i2⟩, nd, few⟩
    refine ⟨_, rfl, _, _, rfl, rfl, _, rfl, ite2 (fun _ => ?_) (fun _ => ⟨_, rfl, _, _, rfl, rfl, _, rfl, ite2 (fun _ => ?_) (fun _ => ?_)⟩)⟩
    · refine ⟨_, rfl, _, rfl, _, rfl, by show 4 ≤ sizeLine; decide, fun sa hsa => ?_⟩
      exact k _ sa ⟨.put, en.1, key, prs⟩ (k14.trans (.new hsa)) (s4.wr hsa) (.inl ⟨q, nofun, upd_same, hprs.keep (.new hsa)⟩) (mk .put prs (fun _ h => h) pok.1 pok.2.1)
    · refine ⟨_, rfl, _, rfl, _, rfl, _, rfl, st, c, 5, rfl, by decide, by decide, s4, fun e5 H5 e50 e55 k5 s5 => ⟨_, _, rfl, rfl, _, rfl, ?_⟩⟩
      obtain ⟨ob, us, hob, hq, pp⟩ := hprs.keep k5
      have k15 := k14.trans k5
      refine ⟨q, _, ob, rfl, hq, fun _ => ?_, fun _ p ob' hp hob' => ?_⟩
      · refine ⟨by show 4 ≤ sizeLine; decide, fun sa hsa => ?_⟩
        exact k _ sa ⟨.set, en.1, key, prs⟩ (k15.trans (.new hsa)) (s5.wr hsa) (.inl ⟨q, nofun, upd_same, PrsT.keep ⟨ob, us, hob, hq, pp⟩ (.new hsa)⟩) (mk .set prs (fun _ h => h) pok.1 pok.2.1)
      · refine ⟨by show 4 ≤ sizeLine; decide, fun sa hsa => ?_⟩
        have e6 : (1 + e5) = (((1 + e5).toNat : Nat) : Int) := by omega
        have ec : cutV (us.map V.ref) none (some (1 + e5)) = (us.take (1 + e5).toNat).map V.ref := by
          rw [e6, cutV_take, List.map_take, ← e6]
        have hP : PrsT (upd H5 p (.frz ob' (.tup (cutV (us.map V.ref) none (some (1 + e5)))))) p (prs.take (1 + e5).toNat) := by
          refine ⟨ob', us.take (1 + e5).toNat, hob', by rw [ec]; exact upd_same, pTake _ (pMap pp fun a x z => at_new z hp)⟩
        have kp : Keep H5 (upd H5 p (.frz ob' (.tup (cutV (us.map V.ref) none (some (1 + e5)))))) := .new hp
        refine k _ sa ⟨.set, en.1, key, prs.take (1 + e5).toNat⟩ ((k15.trans kp).trans (.new hsa)) ((s5.wr hp).wr hsa) (.inl ⟨p, nofun, upd_same, hP.keep (.new hsa)⟩) (mk .set _ (fun x h => List.mem_of_mem_take h) ?_ ?_)
        · rw [List.map_take]
          exact pok.1.sublist (List.take_sublist _ _)
        · rw [List.length_take]
          have := pok.2.1
          omega
    · refine ⟨_, rfl, _, rfl, by show 3 ≤ sizeLine; decide, fun sa hsa => ?_⟩
      exact k _ sa ⟨.drop, en.1, key, []⟩ (k14.trans (.new hsa)) (s4.wr hsa) (.inr ⟨rfl, upd_same, rfl⟩) (mk .drop [] nofun List.nodup_nil (Nat.zero_le _))
end
end K16

/-! K16S: the law's own account: rows made, rows that hold -/
namespace K16
open PySem PySem.Spec PyProof.Rows L2 He
section
variable {P : Program} {w : World} {K : Fr} {mg : Str → Option Value} {base : Heap}
theorem mergeK_nd0 {kvs : List (Key × V)} (nd : (kvs.map (·.1)).Nodup) : mergeK [] kvs = kvs := by
  rw [mergeK_nd kvs [] (by rw [List.nil_append]; exact nd), List.nil_append]
def spLFilled : Sp := fun vs H Q _ => ∃ (cp g : Addr) (cs : Cols), vs = [.ref cp, .ref g] ∧ ColsL H cp cs ∧ (cs.map (·.nm)).Nodup ∧ cs.length ≤ 5 ∧ H g = some (.dK []) ∧ ∀ H' p, Same H H' → H p = none → H' p = some (.dK (rowK (rowNew cs [] []))) → Q (.ref p) H'
theorem sc_l_filled : FnScope n_l_filled p_l_filled (defScope s_l_filled) := ⟨rfl, rfl, rfl, by decide +kernel, rfl, by decide +kernel, by decide +kernel⟩
theorem ok_l_filled (T : Txt K mg w) (F : ∃ fd, FnT K "_law_filled" "_law_filled" s_l_filled [] (a_l_filled K) fd) : OkD P w K mg base CX0 1 (a_l_filled K) p_l_filled spLFilled := by
  refine okD F sc_l_filled (fun _ _ _ _ _ _ us hl => match us, hl with | [_, _], _ => rfl) (fun vs H Q E h => ?_) (fun cdv A outer s H vs Q E hr h => ?_)
  · obtain ⟨cp, g, cs, rfl, _⟩ := h
    rfl
  · obtain ⟨cp, g, cs, rfl, ⟨as, hcp, pc⟩, nd, few, hg, k⟩ := h
    have ln := pc.length
    refine ⟨_, (pss_one (ps_ret (pe_callTy (call_dictP rfl) (by rfl) T.z_dict (by decide +kernel) (pa_cons (pe_lc (own := [("_law_column", 2)]) (g := (gName 2)) (tt := tYes) rfl sc_l_filled.nd (pi_list (pv 0)) (blkOk_by (own := [("_law_column", 2)]) (N := n_l_filled) (sc := defScope s_l_filled) (by decide +kernel)) (fun _ _ _ _ _ => (pg_name (i := 2) sc_l_filled.nd rfl (Or.inl rfl))) (fun _ _ _ _ _ => pts_nil) (fun _ _ _ _ _ => (pe_tup (pa_cons (pe_ix (show IxR _ (rIxT K) from ix_tup) (pv 2) pe_int (fun _ _ => rfl)) (pa_cons (pe_dget1 (hu_of hr) (pv 1) (pe_ix (show IxR _ (rIxT K) from ix_tup) (pv 2) pe_int (fun _ _ => rfl)) ⟨rfl, rfl, rfl, rfl⟩) pa_nil))))) pa_nil)))), ?_⟩
    refine ⟨_, rfl, cp, rfl, ⟨_, SqL.of hcp⟩, fun D hD => ?_⟩
    refine lc_it (walk_list (xs := as.map V.ref)) (fun i H1 => Same H H1 ∧ ∃ us, H1 D = some (.lst (us.map V.ref)) ∧ Paired (fun u (c : Col) => H1 u = some (.tup [.str c.nm, .non])) us (cs.take i)) ⟨Same.new hD, [], upd_same, .nil⟩ (fun i H1 _ h => SqL.of (h.1 _ _ hcp)) ?_ ?_
    · rintro i y Hz H1 hi ⟨s1, us, hu, pu⟩ ⟨rfl, hy⟩
      obtain ⟨a, c, rfl, hc, ha⟩ := colT_at pc hy
      have ha1 := s1 _ _ ha
      have lu := pu.length
      rw [List.length_take] at lu
      refine ⟨rfl, _, rfl, a, _, 0, .str c.nm, rfl, rfl, SqT.of ha1, at_of (j := 0) rfl rfl, _, rfl, g, rfl, .inl ⟨_, .inl (s1 _ _ hg)⟩, _, rfl, a, _, 0, .str c.nm, rfl, rfl, SqT.of ha1, at_of (j := 0) rfl rfl, none, dget (k := .inr c.nm) (.inl (s1 _ _ hg)) rfl, ?_⟩
      refine ⟨by show 2 ≤ sizeLine; decide, fun u hu' => ⟨_, at_new hu hu', by rw [List.length_map, sizeLine_eq]; omega, sWr (s1.trans (Same.new hu')) hD, us ++ [u], by rw [upd_same, List.map_append]; rfl, ?_⟩⟩
      rw [take_snoc hc]
      exact pSnoc (pMap pu fun a c z => upd_at (at_new z hu') (at_new hu hu') nofun) (upd_at upd_same (at_new hu hu') nofun)
    · rintro H1 ⟨s1, us, hu, pu⟩
      rw [List.length_map, ln, List.take_length] at pu
      have hk : (((cs.map fun c => ((.inr c.nm : Key), V.non))).map (·.1)).Nodup := by
        rw [List.map_map]
        have z := nd_inr nd
        rw [List.map_map] at z
        exact z
      refine ⟨D, us, cs.map fun c => ((.inr c.nm : Key), V.non), rfl, SqL.of hu, pMapR pu fun u c _ z => SqT.of (show H1 u = some (.tup [kV (.inr c.nm), .non]) from z), fun p hp => ?_⟩
      rw [mergeK_nd0 hk]
      refine k _ p (s1.trans (Same.new hp)) (s1.free hp) ?_
      rw [upd_same]
      congr 2
      unfold rowK rowNew
      rw [List.map_map]
      rfl
def spLNothing : Sp := fun vs H Q _ => ∃ (dp : Addr) (d : Desc), vs = [.ref dp] ∧ DescL H dp d ∧ DescOk d ∧ ∀ H' p, NewTabs H p (d.map fun e => (e.1, [])) H' → Q (.ref p) H'
theorem sc_l_nothing : FnScope n_l_nothing p_l_nothing (defScope s_l_nothing) := ⟨rfl, rfl, rfl, by decide +kernel, rfl, by decide +kernel, by decide +kernel⟩
theorem ok_l_nothing (T : Txt K mg w) (F : ∃ fd, FnT K "_law_nothing" "_law_nothing" s_l_nothing [] (a_l_nothing K) fd) : OkD P w K mg base CX0 1 (a_l_nothing K) p_l_nothing spLNothing := by
  refine okD F sc_l_nothing (fun _ _ _ _ _ _ us hl => match us, hl with | [_], _ => rfl) (fun vs H Q E h => ?_) (fun cdv A outer s H vs Q E hr h => ?_)
  · obtain ⟨dp, d, rfl, _⟩ := h
    rfl
  · obtain ⟨dp, d, rfl, ⟨as, hdp, pd⟩, dok, k⟩ := h
    have few := dok.few
    have ln := pd.length
    refine ⟨_, (pss_one (ps_ret (pe_callTy (call_dictP rfl) (by rfl) T.z_dict (by decide +kernel) (pa_cons (pe_lc (own := [("_law_word", 1), ("_law_columns", 2)]) (g := (gTup K 2 (gCons (gName 1) (gCons (gName 2) gNil)))) (tt := tYes) rfl sc_l_nothing.nd (pi_list (pv 0)) (blkOk_by (own := [("_law_word", 1), ("_law_columns", 2)]) (N := n_l_nothing) (sc := defScope s_l_nothing) (by decide +kernel)) (fun _ _ _ _ _ => (pg_tup rfl (pgs_cons (pg_name (i := 1) sc_l_nothing.nd rfl (Or.inl rfl)) (pgs_cons (pg_name (i := 2) sc_l_nothing.nd rfl (Or.inl rfl)) pgs_nil)))) (fun _ _ _ _ _ => pts_nil) (fun _ _ _ _ _ => (pe_tup (pa_cons (pv 1) (pa_cons pe_dnewK pa_nil))))) pa_nil)))), ?_⟩
    refine ⟨_, rfl, dp, rfl, ⟨_, SqL.of hdp⟩, fun D hD => ?_⟩
    refine lc_it (walk_list (xs := as.map V.ref)) (fun i H1 => Same H H1 ∧ ∃ (us : List Addr) (B : List ATab), H1 D = some (.lst (us.map V.ref)) ∧ Paired (fun u (t : ATab) => H1 u = some (.tup [.str t.1, .ref t.2.1])) us B ∧ plT B = (d.take i).map (fun e => (e.1, [])) ∧
        (∀ t ∈ B, t.2.2 = [] ∧ H1 t.2.1 = some (.dK [])) ∧ (foot B).Nodup ∧ ∀ a ∈ foot B, H a = none) ⟨Same.new hD, [], [], upd_same, .nil, rfl, nofun, List.nodup_nil, nofun⟩ (fun i H1 _ h => SqL.of (h.1 _ _ hdp)) ?_ ?_
    · rintro i y Hz H1 hi ⟨s1, us, B, hu, pu, ep, hB, nf, fr⟩ ⟨rfl, hy⟩
      obtain ⟨a, e, q, rfl, he, ha, hc⟩ := tabT_at pd hy
      have lB : B.length ≤ 3 := by
        have z := congrArg List.length ep
        unfold plT at z
        rw [List.length_map, List.length_map, List.length_take] at z
        omega
      have lu := pu.length
      refine ⟨a, _, rfl, SqT.of (s1 _ _ ha), rfl, _, _, rfl, _, _, rfl, rfl, rfl, _, rfl, fun b hb => ?_⟩
      refine ⟨by show 2 ≤ sizeLine; decide, fun u hu' => ⟨_, at_new (at_new hu hb) hu', by rw [List.length_map, sizeLine_eq]; omega, ?_⟩⟩
      have s2 : Same H1 (upd (upd H1 b (.dK [])) u (.tup [.str e.1, .ref b])) := (Same.new hb).trans (Same.new hu')
      have hD2 := s2 _ _ hu
      have ef : foot (B ++ [(e.1, b, [])]) = foot B ++ [b] := foot_snoc B e.1 b []
      refine ⟨sWr (s1.trans s2) hD, us ++ [u], B ++ [(e.1, b, [])], by rw [upd_same, List.map_append]; rfl, ?_, ?_, fun t ht => ?_, ?_, fun a ha => ?_⟩
      · exact pSnoc (pMap pu fun a c z => upd_at (s2 _ _ z) hD2 nofun) (upd_at upd_same hD2 nofun)
      · rw [take_snoc he, List.map_append, ← ep]
        unfold plT
        rw [List.map_append]
        rfl
      · rcases List.mem_append.mp ht with z | z
        · exact ⟨(hB t z).1, upd_at (s2 _ _ (hB t z).2) hD2 nofun⟩
        · rw [List.mem_singleton.mp z]
          exact ⟨rfl, upd_at (at_new upd_same hu') hD2 nofun⟩
      · rw [ef, List.nodup_append]
        refine ⟨nf, by simp, fun x hx y hy z => ?_⟩
        obtain ⟨t, ht, m⟩ := List.mem_flatMap.mp hx
        have e2 := hB t ht
        rcases List.mem_cons.mp m with z2 | z2
        · rw [z, List.mem_singleton.mp hy] at z2
          have h3 := e2.2
          rw [← z2, hb] at h3
          cases h3
        · rw [e2.1] at z2
          cases z2
      · rw [ef] at ha
        rcases List.mem_append.mp ha with z | z
        · exact fr a z
        · rw [List.mem_singleton.mp z]
          exact s1.free hb
    · rintro H1 ⟨s1, us, B, hu, pu, ep, hB, nf, fr⟩
      rw [List.length_map, ln, List.take_length] at ep
      have hk : ((tabsK B).map (·.1)).Nodup := by
        have e9 : (d.map fun e => (e.1, ([] : Rows))).map (·.1) = d.map (·.1) := by
          rw [List.map_map]
          rfl
        rw [tabsK_keys, ep, e9]
        exact nd_inr dok.nd
      refine ⟨D, us, tabsK B, rfl, SqL.of hu, ?_, fun p hp => ?_⟩
      · unfold tabsK
        exact pMapR pu fun u t _ z => SqT.of z
      · rw [mergeK_nd0 hk]
        refine k _ p ⟨s1.trans (Same.new hp), B, ⟨upd_same, fun t ht => ⟨?_, fun r hr => ?_⟩⟩, ep, List.nodup_cons.mpr ⟨fun m => ?_, nf⟩, fun a ha => ?_⟩
        · obtain ⟨e1, e2⟩ := hB t ht
          rw [e1]
          exact at_new e2 hp
        · rw [(hB t ht).1] at hr
          cases hr
        · obtain ⟨t, ht, m⟩ := List.mem_flatMap.mp m
          obtain ⟨e1, e2⟩ := hB t ht
          rcases List.mem_cons.mp m with z | z
          · rw [← z, hp] at e2
            cases e2
          · rw [e1] at z
            cases z
        · rcases List.mem_cons.mp ha with z | z
          · rw [z]
            exact s1.free hp
          · exact fr a z
/-! ### held, the first -/
theorem held_before {d : Desc} {T : Tabs} {tab : Str} {key : Int} {i : Nat} {e : Str × Cols} (he : d[i]? = some e) (no : heldBy (d.take i) T tab key = []) {j : Nat} {o : Int} (ho : (srt ((rowsOf T e.1).map (·.1)))[j]? = some o)
    (no2 : ∀ o' ∈ (srt ((rowsOf T e.1).map (·.1))).take j, e.2.filter (heldOne T tab key e.1 o') = []) {n : Nat} {c : Col} (hc : e.2[n]? = some c) (no3 : ∀ c' ∈ e.2.take n, heldOne T tab key e.1 o c' = false) (y : heldOne T tab key e.1 o c = true) :
    mHeld d T tab key = [.str e.1, .int o, .str c.nm] := by
  have ed : d = d.take i ++ e :: d.drop (i + 1) := by
    have h1 := List.take_append_drop i d
    have h2 : d.drop i = e :: d.drop (i + 1) := by
      obtain ⟨hi, rfl⟩ := List.getElem?_eq_some_iff.mp he
      exact List.drop_eq_getElem_cons hi
    rw [h2] at h1
    exact h1.symm
  have eo : srt ((rowsOf T e.1).map (·.1)) = (srt ((rowsOf T e.1).map (·.1))).take j ++ o :: (srt ((rowsOf T e.1).map (·.1))).drop (j + 1) := by
    generalize srt ((rowsOf T e.1).map (·.1)) = l at ho ⊢
    have h1 := List.take_append_drop j l
    have h2 : l.drop j = o :: l.drop (j + 1) := by
      obtain ⟨hi, rfl⟩ := List.getElem?_eq_some_iff.mp ho
      exact List.drop_eq_getElem_cons hi
    rw [h2] at h1
    exact h1.symm
  have ec : e.2 = e.2.take n ++ c :: e.2.drop (n + 1) := by
    have h1 := List.take_append_drop n e.2
    have h2 : e.2.drop n = c :: e.2.drop (n + 1) := by
      obtain ⟨hi, rfl⟩ := List.getElem?_eq_some_iff.mp hc
      exact List.drop_eq_getElem_cons hi
    rw [h2] at h1
    exact h1.symm
  have f1 : e.2.filter (heldOne T tab key e.1 o) = c :: (e.2.drop (n + 1)).filter (heldOne T tab key e.1 o) := by
    conv => lhs; rw [ec]
    rw [List.filter_append, List.filter_cons_of_pos y]
    rw [List.filter_eq_nil_iff.mpr fun x hx => by rw [no3 x hx]; exact Bool.false_ne_true]
    rfl
  have f2 : ((srt ((rowsOf T e.1).map (·.1))).take j).flatMap (fun o => (e.2.filter (heldOne T tab key e.1 o)).map fun c => [V.str e.1, .int o, .str c.nm]) = [] := by
    rw [List.flatMap_eq_nil_iff]
    intro o' ho'
    rw [no2 o' ho']
    rfl
  unfold mHeld
  have key2 : ∃ r, heldBy d T tab key = [.str e.1, .int o, .str c.nm] :: r := by
    rw [ed]
    unfold heldBy at no ⊢
    rw [List.flatMap_append, no, List.nil_append, List.flatMap_cons]
    rw [eo, List.flatMap_append, f2, List.nil_append, List.flatMap_cons, f1]
    exact ⟨_, rfl⟩
  obtain ⟨r, hr⟩ := key2
  rw [hr]
theorem held_none {d : Desc} {T : Tabs} {tab : Str} {key : Int} {i : Nat} {e : Str × Cols} (he : d[i]? = some e) (no : heldBy (d.take i) T tab key = []) (no2 : ∀ o' ∈ srt ((rowsOf T e.1).map (·.1)), e.2.filter (heldOne T tab key e.1 o') = []) : heldBy (d.take (i + 1)) T tab key = [] := by
  rw [take_snoc he]
  unfold heldBy at no ⊢
  rw [List.flatMap_append, no, List.nil_append, List.flatMap_cons, List.flatMap_nil, List.append_nil, List.flatMap_eq_nil_iff]
  intro o' ho'
  rw [no2 o' ho']
  rfl
theorem scal_link {kd : Str} {v : V} (lk : kd = "link") (h : v = .non ∨ WOk kd v) (key : Int) : scal v (.int key) = true := by
  cases e : decide (v = .non) with
  | true =>
    rw [of_decide_eq_true e]
    rfl
  | false =>
    obtain ⟨i, rfl⟩ := worth_key lk h e
    rfl
def spLLinked : Sp := fun vs H Q _ => ∃ (dp p : Addr) (d : Desc) (As : List ATab) (tab : Str) (key : Int), vs = [.ref dp, .ref p, .str tab, .int key] ∧ DescL H dp d ∧ TbR H p d As ∧ tab ∈ d.map (·.1) ∧ ∀ H' t, Same H H' → H' t = some (.tup (mHeld d (plT As) tab key)) → Q (.ref t) H'
theorem sc_l_linked : FnScope n_l_linked p_l_linked (defScope s_l_linked) := ⟨rfl, rfl, rfl, by decide +kernel, rfl, by decide +kernel, by decide +kernel⟩
theorem ok_l_linked (T : Txt K mg w) (F : ∃ fd, FnT K "_law_linked" "_law_linked" s_l_linked [] (a_l_linked K) fd) : OkD P w K mg base CX0 1 (a_l_linked K) p_l_linked spLLinked := by
  refine okD F sc_l_linked (fun _ _ _ _ _ _ us hl => match us, hl with | [_, _, _, _], _ => rfl) (fun vs H Q E h => ?_) (fun cdv A outer s H vs Q E hr h => ?_)
  · obtain ⟨dp, p, d, As, tab, key, rfl, _⟩ := h
    rfl
  · obtain ⟨dp, p, d, As, tab, key, rfl, ⟨as, hdp, pd⟩, tb, htab, k⟩ := h
    have okw : ∀ s ∈ d.map (·.1), PyData.strOk s = true := fun s hs => by
      obtain ⟨e, he, rfl⟩ := List.mem_map.mp hs
      exact word_ok (tb.dok.word e he)
    have ln := pd.length
    refine ⟨_, (pss_cons (ps_for PassesOwn.never rfl (pi_list (pv 0)) (pg_tup rfl (pgs_cons (pg_name (i := 4) sc_l_linked.nd rfl (Or.inl rfl)) (pgs_cons (pg_name (i := 5) sc_l_linked.nd rfl (Or.inl rfl)) pgs_nil))) (pss_one (ps_for PassesOwn.never rfl (pi_list (pe_callB (call_sortedDI rfl) (by rfl) T.z_sorted (by decide +kernel) (pa_cons (pe_dget (hu_of hr) (pv 1) (pv 4) (fun _ _ => rfl)) pa_nil))) (pg_name (i := 6) sc_l_linked.nd rfl (Or.inl rfl)) (pss_one (ps_for PassesOwn.never rfl (pi_list (pv 5)) (pg_tup rfl (pgs_cons (pg_name (i := 7) sc_l_linked.nd rfl (Or.inl rfl)) (pgs_cons (pg_name (i := 8) sc_l_linked.nd rfl (Or.inl rfl)) (pgs_cons (pg_name (i := 9) sc_l_linked.nd rfl (Or.inl rfl)) (pgs_cons (pg_name (i := 10) sc_l_linked.nd rfl (Or.inl rfl)) (pgs_cons (pg_name (i := 11) sc_l_linked.nd rfl (Or.inl rfl)) (pgs_cons (pg_name (i := 12) sc_l_linked.nd rfl (Or.inl rfl)) pgs_nil))))))) (C8.pss_cut (ps_set (i := 13) sc_l_linked.nd rfl (Or.inl rfl) (pe_and (pe_cmpR op_eq (pv 8) pe_str (nomark _)) (pe_and (pe_cmpR op_eq (pv 11) (pv 2) (nomark _)) (pe_one (pe_cmpR op_eq (pe_dget (hu_of hr) (pe_dget (hu_of hr) (pe_dget (hu_of hr) (pv 1) (pv 4) (fun _ _ => rfl)) (pv 6) (fun _ _ => rfl)) (pv 7) (fun _ _ => rfl)) (pv 3) (nomark _))))))
            (pss_one (ps_if (pt_mid (PW.pt (pw_and (pt_val (pv 13)) (pw_and1 (pt_cmpR (op_neD hr.units) (pe_tup (pa_cons (pv 4) (pa_cons (pv 6) pa_nil))) (pe_tup (pa_cons (pv 2) (pa_cons (pv 3) pa_nil))) (nomark _)))))) (pss_one (ps_ret (pe_tup (pa_cons (pv 4) (pa_cons (pv 6) (pa_cons (pv 7) pa_nil)))))) pss_nil))))))))
      (pss_one (ps_ret (pe_tup pa_nil)))), ?_⟩
    refine ⟨_, rfl, dp, rfl, ⟨_, SqL.of hdp⟩, ?_⟩
    refine for_list (K := K) (a := dp) (xs := as.map V.ref) (fun i σ H1 => ∃ (v4 v5 v6 v7 v8 v9 v10 v11 v12 v13 : Option V), σ = [some (.ref dp), some (.ref p), some (.str tab), some (.int key), v4, v5, v6, v7, v8, v9, v10, v11, v12, v13] ∧ Same H H1 ∧ heldBy (d.take i) (plT As) tab key = [])
      ⟨none, none, none, none, none, none, none, none, none, none, rfl, Same.refl _, rfl⟩ (fun i σ H1 _ h => ?_) ?_ ?_
    · obtain ⟨_, _, _, _, _, _, _, _, _, _, _, h, _⟩ := h
      exact SqL.of (h _ _ hdp)
    · rintro i y σ H1 hi ⟨v4, v5, v6, v7, v8, v9, v10, v11, v12, v13, rfl, s1, no⟩
      obtain ⟨a, e, cp, rfl, he, ha, cas, hcp, pc⟩ := tabT_at pd hi
      have em := List.mem_of_getElem? he
      have cok := tb.dok.ok e em
      refine ⟨a, _, rfl, SqT.of (s1 _ _ ha), rfl, _, _, rfl, _, _, rfl, rfl, ?_⟩
      have tb1 := tb.same s1
      obtain ⟨q, rs, _, _, hv, hrs, er, rok⟩ := tabD_at tb1.dok tb1.tabs tb1.tok (t := e.1) (cs := e.2) em
      refine ⟨_, rfl, _, rfl, p, _, rfl, dget (k := .inr e.1) (.inl tb1.tabs.1) hv, q, _, (plR rs).map (·.1), rfl, .inl hrs.1, rowsK_keys rs, ?_, fun ys sp hperm hpw hsp => ?_⟩
      · have := rok.few
        rw [List.length_map]
        omega
      have ey := srt_eq hperm hpw
      rw [er] at ey
      subst ey
      have mem_o : ∀ o ∈ srt ((rowsOf (plT As) e.1).map (·.1)), ∃ r, get (rowsOf (plT As) e.1) o = some r := fun o ho => by
        have hk : o ∈ (rowsOf (plT As) e.1).map (·.1) := (List.mergeSort_perm _ _).mem_iff.mp ho
        cases z : get (rowsOf (plT As) e.1) o with
        | none => exact absurd hk (get_none.mp z)
        | some r => exact ⟨r, rfl⟩
      have s2 : Same H (upd H1 sp (.lst ((srt ((rowsOf (plT As) e.1).map (·.1))).map V.int))) := s1.trans (Same.new hsp)
      have hsp2 : upd H1 sp (.lst ((srt ((rowsOf (plT As) e.1).map (·.1))).map V.int)) sp = some (.lst ((srt ((rowsOf (plT As) e.1).map (·.1))).map V.int)) := upd_same
      refine ⟨sp, rfl, ⟨_, SqL.of hsp2⟩, ?_⟩
      generalize upd H1 sp (.lst ((srt ((rowsOf (plT As) e.1).map (·.1))).map V.int)) = H2 at s2 hsp2 ⊢
      refine for_list (K := K) (a := sp) (xs := (srt ((rowsOf (plT As) e.1).map (·.1))).map V.int) (fun j σ H3 => ∃ (v6 v7 v8 v9 v10 v11 v12 v13 : Option V), σ = [some (.ref dp), some (.ref p), some (.str tab), some (.int key), some (.str e.1), some (.ref cp), v6, v7, v8, v9, v10, v11, v12, v13] ∧ Same H2 H3 ∧ ∀ o' ∈ (srt ((rowsOf (plT As) e.1).map (·.1))).take j, e.2.filter (heldOne (plT As) tab key e.1 o') = [])
        ⟨_, _, _, _, _, _, _, _, rfl, Same.refl _, nofun⟩ (fun j σ H3 _ h => ?_) ?_ ?_
      · obtain ⟨_, _, _, _, _, _, _, _, _, h, _⟩ := h
        exact SqL.of (h _ _ hsp2)
      · rintro j y σ H3 hj ⟨v6, v7, v8, v9, v10, v11, v12, v13, rfl, s3, no2⟩
        obtain ⟨o, ho, rfl⟩ := map_at hj
        obtain ⟨r, hg⟩ := mem_o o (List.mem_of_getElem? ho)
        have s03 := s2.trans s3
        have tb3 := tb.same s03
        obtain ⟨q3, rs3, _, _, hv3, hrs3, er3, rok3⟩ := tabD_at tb3.dok tb3.tabs tb3.tok (t := e.1) (cs := e.2) em
        have hg3 := hg
        rw [← er3] at hg3
        obtain ⟨ra, _, rv, hra⟩ := row_at hrs3 hg3
        have rok1 : RowOk e.2 r := rok3.ok (o, r) (get_mem hg3)
        have rq : rowOf (rowsOf (plT As) e.1) o = r := by unfold rowOf; rw [hg]; rfl
        have hcp3 := s03 _ _ hcp
        refine ⟨_, rfl, cp, rfl, ⟨_, SqL.of hcp3⟩, ?_⟩
        refine for_list (K := K) (a := cp) (xs := cas.map V.ref) (fun n σ H4 => ∃ (v7 v8 v9 v10 v11 v12 v13 : Option V), σ = [some (.ref dp), some (.ref p), some (.str tab), some (.int key), some (.str e.1), some (.ref cp), some (.int o), v7, v8, v9, v10, v11, v12, v13] ∧ Same H3 H4 ∧ ∀ c' ∈ e.2.take n, heldOne (plT As) tab key e.1 o c' = false)
          ⟨_, _, _, _, _, _, _, rfl, Same.refl _, nofun⟩ (fun n σ H4 _ h => ?_) ?_ ?_
        · obtain ⟨_, _, _, _, _, _, _, _, h, _⟩ := h
          exact SqL.of (h _ _ hcp3)
        · rintro n y σ H4 hn ⟨v7, v8, v9, v10, v11, v12, v13, rfl, s4, no3⟩
          obtain ⟨ca, c, rfl, hc, hca⟩ := colT_at pc hn
          have cm := List.mem_of_getElem? hc
          have ck := cok.ok c cm
          have s04 := s03.trans s4
          have wv := atN_ok cok.nd rok1 cm
          refine ⟨ca, _, rfl, SqT.of (s04 _ _ hca), rfl, _, _, rfl, _, _, rfl, _, _, rfl, _, _, rfl, _, _, rfl, _, _, rfl, rfl, ?_⟩
          refine ⟨fun σ' H' => H' = H4 ∧ σ' = [some (.ref dp), some (.ref p), some (.str tab), some (.int key), some (.str e.1), some (.ref cp), some (.int o), some (.str c.nm), some (.str c.kd), some (.bl c.bare), some (.bl c.lone), some c.goal, some (.str c.fate), some (.bl (decide (c.kd = "link") && (decide (c.goal = .str tab) && decide (atN r c.nm = .int key))))], ?_, ?_⟩
          · refine ⟨_, rfl, rfl, _, rfl, ?_⟩
            have ekd : decide (V.str c.kd = V.str "link") = decide (c.kd = "link") := by
              by_cases z : c.kd = "link"
              · rw [eqS_t z, decide_eq_true z]
              · rw [eqS_f z, decide_eq_false z]
            rw [ekd]
            rcases ck.goal with ⟨lk, g, hgl, hgw⟩ | ⟨nl, hgl⟩
            · rw [decide_eq_true lk, Bool.true_and]
              refine iteT ⟨_, rfl, _, rfl, ?_⟩
              rw [hgl]
              refine ⟨rfl, _, rfl, ?_⟩
              cases z : decide (V.str g = V.str tab) with
              | false => exact iteF ⟨rfl, rfl⟩
              | true =>
                refine iteT ⟨_, rfl, _, rfl, p, _, rfl, dget (k := .inr e.1) (.inl (s4 _ _ tb3.tabs.1)) hv3, _, rfl, q3, _, rfl, dget (k := .inl o) (.inl (s4 _ _ hrs3.1)) rv, _, rfl, ra, _, rfl, dget (k := .inr c.nm) (.inl (s4 _ _ hra)) (by rw [rowK_get]; exact rowOk_at rok1 cm), _, rfl, ?_, rfl, rfl⟩
                exact scal_link lk wv key
            · rw [decide_eq_false nl]
              exact iteF ⟨rfl, rfl⟩
          · rintro σ' H' ⟨rfl, rfl⟩
            have eH : heldOne (plT As) tab key e.1 o c = ((decide (c.kd = "link") && (decide (c.goal = .str tab) && decide (atN r c.nm = .int key))) && !(decide (e.1 = tab) && decide (o = key))) := by
              unfold heldOne
              rw [rq, Bool.and_assoc, Bool.and_assoc]
            refine ⟨fun b H5 => b = heldOne (plT As) tab key e.1 o c ∧ Same H' H5, ?_, ?_⟩
            · refine ⟨_, rfl, _, rfl, ?_⟩
              rw [eH]
              refine ite2 (fun z => ?_) (fun z => ?_)
              · refine ⟨_, rfl, _, rfl, by show 2 ≤ sizeLine; decide, fun t2 ht2 => ⟨_, rfl, _, rfl, by show 2 ≤ sizeLine; decide, fun t3 ht3 => ?_⟩⟩
                refine ⟨_, _, dp2 (at_new upd_same ht3) (.str e.1) (.int o), dp2 upd_same (.str tab) (.int key), shaped2 (okw e.1 (List.mem_map.mpr ⟨_, em, rfl⟩)) (.inr ⟨o, rfl⟩), shaped2 (okw tab htab) (.inr ⟨key, rfl⟩), _, rfl, ?_, (Same.new ht2).trans (Same.new ht3)⟩
                rw [eqv_place, z, Bool.true_and]
              · have e2 : (decide (c.kd = "link") && (decide (c.goal = .str tab) && decide (atN r c.nm = .int key))) = false := by
                  cases y : (decide (c.kd = "link") && (decide (c.goal = .str tab) && decide (atN r c.nm = .int key)))
                  · rfl
                  · exact absurd y z
                rw [e2]
                exact ⟨rfl, Same.refl _⟩
            · rintro b H5 ⟨rfl, s5⟩
              cases eh : heldOne (plT As) tab key e.1 o c with
              | false => exact iteF ⟨_, _, _, _, _, _, _, rfl, s4.trans s5, no_snoc hc no3 eh⟩
              | true =>
                have e0 := held_before he no ho no2 hc no3 eh
                refine iteT ⟨_, rfl, _, rfl, _, rfl, by show 3 ≤ sizeLine; decide, fun t ht => ?_⟩
                refine k _ t ((s04.trans s5).trans (Same.new ht)) ?_
                rw [e0]
                exact upd_same
        · rintro σ H4 ⟨v7, v8, v9, v10, v11, v12, v13, rfl, s4, no3⟩
          rw [List.length_map, pc.length, List.take_length] at no3
          refine ⟨_, _, _, _, _, _, _, _, rfl, s3.trans s4, fun o' ho' => ?_⟩
          rw [take_snoc ho] at ho'
          rcases List.mem_append.mp ho' with z | z
          · exact no2 o' z
          · rw [List.mem_singleton.mp z]
            exact List.filter_eq_nil_iff.mpr fun x hx => by rw [no3 x hx]; exact Bool.false_ne_true
      · rintro σ H3 ⟨v6, v7, v8, v9, v10, v11, v12, v13, rfl, s3, no2⟩
        rw [List.length_map, List.take_length] at no2
        exact ⟨_, _, _, _, _, _, _, _, _, _, rfl, s2.trans s3, held_none he no no2⟩
    · rintro σ H1 ⟨v4, v5, v6, v7, v8, v9, v10, v11, v12, v13, rfl, s1, no⟩
      rw [List.length_map, ln, List.take_length] at no
      refine ⟨Nat.zero_le _, fun t ht => k _ t (s1.trans (Same.new ht)) ?_⟩
      unfold mHeld
      rw [no]
      exact upd_same
end
end K16

/-! K16U: the law's own account: a row amiss, a statement amiss -/
namespace K16
open PySem PySem.Spec PyProof.Rows L2 He
section
variable {P : Program} {w : World} {K : Fr} {mg : Str → Option Value} {base : Heap}
theorem desc_kvs {H : Hp} {as : List Addr} {d : Desc} (h : Paired (TabT H) as d) : ∃ cps : List Addr, cps.length = d.length ∧ Paired (fun p (kv : Key × V) => SqT K H p [kV kv.1, kv.2]) as (formKV d cps) ∧ Paired (fun cp (e : Str × Cols) => ColsL H cp e.2) cps d := by
  induction h with
  | nil => exact ⟨[], rfl, .nil, .nil⟩
  | @cons a e as d z _ ih =>
    obtain ⟨cps, l, p1, p2⟩ := ih
    obtain ⟨cp, h1, h2⟩ := z
    exact ⟨cp :: cps, by rw [List.length_cons, List.length_cons, l], .cons (SqT.of h1) p1, .cons h2 p2⟩
theorem form_get {F : Addr → Str × Cols → Prop} {ps : List Addr} {d : Desc} {wd : Str} {cs : Cols} (h : Paired F ps d) (nd : (d.map (·.1)).Nodup) (hm : (wd, cs) ∈ d) : ∃ p, valV (formKV d ps) (.inr wd : Key) = some (.ref p) ∧ F p (wd, cs) := by
  induction h with
  | nil => cases hm
  | @cons p e ps d h t ih =>
    rw [List.map_cons] at nd
    obtain ⟨n1, n2⟩ := List.nodup_cons.mp nd
    rcases List.mem_cons.mp hm with z | z
    · subst z
      exact ⟨p, valV_pos rfl, h⟩
    · obtain ⟨q, q1, q2⟩ := ih n2 z
      refine ⟨q, ?_, q2⟩
      rw [← q1]
      refine valV_neg fun y => n1 ?_
      have y2 : e.1 = wd := Sum.inr.inj y
      rw [y2]
      exact List.mem_map.mpr ⟨(wd, cs), z, rfl⟩
theorem form_nd {d : Desc} {ps : List Addr} (l : ps.length = d.length) (nd : (d.map (·.1)).Nodup) : ((formKV d ps).map (·.1)).Nodup := by
  rw [formKV_keys l, show (fun e : Str × Cols => (.inr e.1 : Key)) = Sum.inr ∘ Prod.fst from rfl, ← List.map_map]
  exact nd_inr nd
/-- dict(desc)[tab] -/
theorem desc_dict {H : Hp} {dp : Addr} {d : Desc} {tab : Str} {cs : Cols} (h : DescL H dp d) (nd : (d.map (·.1)).Nodup) (hm : (tab, cs) ∈ d) : ∃ (as : List Addr) (kvs : List (Key × V)) (cp : Addr), SqL K H dp (as.map V.ref) ∧ Paired (fun p (kv : Key × V) => SqT K H p [kV kv.1, kv.2]) as kvs ∧
    ColsL H cp cs ∧ ∀ dd, H dd = none → DGet (upd H dd (.dK (mergeK [] kvs))) dd (.str tab) (some (.ref cp)) := by
  obtain ⟨as, hdp, pd⟩ := h
  obtain ⟨cps, l, p1, p2⟩ := desc_kvs (K := K) pd
  obtain ⟨cp, h1, h2⟩ := form_get p2 nd hm
  refine ⟨as, formKV d cps, cp, SqL.of hdp, p1, h2, fun dd _ => dget (k := .inr tab) (.inl upd_same) ?_⟩
  rw [mergeK_nd0 (form_nd l nd)]
  exact h1
theorem eqV_scal {x y : V} (h : scal x y = true) (fx : flatV x = true) : eqV x y = decide (x = y) := by
  cases x <;> cases y <;> first | (cases fx; done) | (cases h; done) | rfl | (simp [eqV]; done) | (rename_i a b; by_cases e : a = b <;> simp [eqV, e])
theorem flat_worth {kd : Str} {v : V} (h : v = .non ∨ WOk kd v) : flatV v = true := by
  rcases h with rfl | ⟨_, i, rfl⟩ | ⟨_, s, rfl, _⟩ | ⟨_, b, rfl⟩ | ⟨_, i, rfl, _⟩ <;> rfl
def spLRow : Sp := fun vs H Q _ => ∃ (dp p : Addr) (d : Desc) (As : List ATab) (tab : Str) (key : Int) (cs : Cols) (r : Row), vs = [.ref dp, .ref p, .str tab, .int key] ∧ DescL H dp d ∧ TbR H p d As ∧ (tab, cs) ∈ d ∧ get (rowsOf (plT As) tab) key = some r ∧ ∀ H' t, Same H H' → H' t = some (.tup (mRow d (plT As) tab key)) → Q (.ref t) H'
theorem sc_l_row_amiss : FnScope n_l_row_amiss p_l_row_amiss (defScope s_l_row_amiss) := ⟨rfl, rfl, rfl, by decide +kernel, rfl, by decide +kernel, by decide +kernel⟩
theorem ok_l_row_amiss (T : Txt K mg w) (F : ∃ fd, FnT K "_law_row_amiss" "_law_row_amiss" s_l_row_amiss [] (a_l_row_amiss K) fd) : OkD P w K mg base CX0 1 (a_l_row_amiss K) p_l_row_amiss spLRow := by
  refine okD F sc_l_row_amiss (fun _ _ _ _ _ _ us hl => match us, hl with | [_, _, _, _], _ => rfl) (fun vs H Q E h => ?_) (fun cdv A outer s H vs Q E hr h => ?_)
  · obtain ⟨dp, p, d, As, tab, key, cs, r, rfl, _⟩ := h
    rfl
  · obtain ⟨dp, p, d, As, tab, key, cs, r, rfl, hd, tb, hm, hg, k⟩ := h
    obtain ⟨q, rs, _, _, hv, hrs, er, rok⟩ := tabD_at tb.dok tb.tabs tb.tok hm
    have hg0 := hg
    rw [← er] at hg0
    obtain ⟨ra, ram, rv, hra⟩ := row_at hrs hg0
    have ro : RowOk cs r := rok.ok (key, r) (get_mem hg0)
    have cok := tb.dok.ok _ hm
    dsimp only at cok
    have ec : colsOf d tab = cs := colsOf_eq tb.dok.nd hm
    have erow : rowOf (rowsOf (plT As) tab) key = r := by unfold rowOf; rw [hg]; rfl
    have rget : ∀ {H' : Hp} {c : Col}, H' ra = some (.dK (rowK r)) → c ∈ cs → DGet H' ra (.str c.nm) (some (atN r c.nm)) := fun h hc => dget (k := .inr _) (.inl h) (by rw [rowK_get]; exact rowOk_at ro hc)
    obtain ⟨das, kvs, cp, hds, hdk, ⟨as, hcp, pc⟩, hdd⟩ := desc_dict (K := K) hd tb.dok.nd hm
    refine ⟨_, (pss_cons (ps_set (i := 4) sc_l_row_amiss.nd rfl (Or.inl rfl) (pe_dget (hu_of hr) (pe_dget (hu_of hr) (pv 1) (pv 2) (fun _ _ => rfl)) (pv 3) (fun _ _ => rfl)))
      (pss_cons (ps_set (i := 5) sc_l_row_amiss.nd rfl (Or.inl rfl) (pe_dget (hu_of hr) (pe_callTy (call_dictP rfl) (by rfl) T.z_dict (by decide +kernel) (pa_cons (pv 0) pa_nil)) (pv 2) (fun _ _ => rfl)))
      (pss_cons (ps_for PassesOwn.never rfl (pi_list (pv 5)) (pg_tup rfl (pgs_cons (pg_name (i := 6) sc_l_row_amiss.nd rfl (Or.inr rfl)) (pgs_cons (pg_name (i := 7) sc_l_row_amiss.nd rfl (Or.inl rfl)) (pgs_cons (pg_name (i := 8) sc_l_row_amiss.nd rfl (Or.inl rfl)) (pgs_cons (pg_name (i := 9) sc_l_row_amiss.nd rfl (Or.inl rfl)) (pgs_cons (pg_name (i := 10) sc_l_row_amiss.nd rfl (Or.inl rfl)) (pgs_cons (pg_name (i := 11) sc_l_row_amiss.nd rfl (Or.inl rfl)) pgs_nil))))))) (pss_one (ps_if (pt_mid (PW.pt (pw_and (pt_cmpR op_isN (pe_dget (hu_of hr) (pv 4) (pv 6) (fun _ _ => rfl)) pe_non (nomark _)) (pw_and1 (pt_not (pt_val (pv 8))))))) (pss_one (ps_ret (pe_tup (pa_cons pe_str (pa_cons (pv 2) (pa_cons (pv 3) (pa_cons (pv 6) pa_nil))))))) pss_nil)))
      (pss_cons (ps_for PassesOwn.never rfl (pi_list (pv 5)) (pg_tup rfl (pgs_cons (pg_name (i := 6) sc_l_row_amiss.nd rfl (Or.inr rfl)) (pgs_cons (pg_name (i := 7) sc_l_row_amiss.nd rfl (Or.inl rfl)) (pgs_cons (pg_name (i := 8) sc_l_row_amiss.nd rfl (Or.inl rfl)) (pgs_cons (pg_name (i := 9) sc_l_row_amiss.nd rfl (Or.inl rfl)) (pgs_cons (pg_name (i := 10) sc_l_row_amiss.nd rfl (Or.inl rfl)) (pgs_cons (pg_name (i := 11) sc_l_row_amiss.nd rfl (Or.inl rfl)) pgs_nil))))))) (pss_one (ps_if (pt_mid (PW.pt (pw_and (pt_cmpR op_eq (pv 7) pe_str (nomark _)) (pw_and (pt_cmpR op_notN (pe_dget (hu_of hr) (pv 4) (pv 6) (fun _ _ => rfl)) pe_non (nomark _)) (pw_and1 (pt_cmp (pc_dnotin (hu_of hr) (pe_dget (hu_of hr) (pv 4) (pv 6) (fun _ _ => rfl)) (pe_dget (hu_of hr) (pv 1) (pv 10) (fun _ _ => rfl))))))))) (pss_one (ps_ret (pe_tup (pa_cons pe_str (pa_cons (pv 2) (pa_cons (pv 3) (pa_cons (pv 6) pa_nil))))))) pss_nil)))
      (pss_cons (ps_for PassesOwn.never rfl (pi_list (pv 5)) (pg_tup rfl (pgs_cons (pg_name (i := 6) sc_l_row_amiss.nd rfl (Or.inr rfl)) (pgs_cons (pg_name (i := 7) sc_l_row_amiss.nd rfl (Or.inl rfl)) (pgs_cons (pg_name (i := 8) sc_l_row_amiss.nd rfl (Or.inl rfl)) (pgs_cons (pg_name (i := 9) sc_l_row_amiss.nd rfl (Or.inl rfl)) (pgs_cons (pg_name (i := 10) sc_l_row_amiss.nd rfl (Or.inl rfl)) (pgs_cons (pg_name (i := 11) sc_l_row_amiss.nd rfl (Or.inl rfl)) pgs_nil))))))) (pss_cons (ps_lock (ps_setLc (i := 12) (own := [("_law_other", 13)]) (g := (gName 13)) rfl sc_l_row_amiss.nd rfl rfl (sw_true rfl rfl rfl (by decide +kernel)) (pi_keys (pe_dget (hu_of hr) (pv 1) (pv 2) (fun _ _ => rfl))) (blkOk_by (own := [("_law_other", 13)]) (N := n_l_row_amiss) (sc := defScope s_l_row_amiss) (by decide +kernel)) (fun _ _ _ _ _ => (pg_name (i := 13) sc_l_row_amiss.nd rfl (Or.inl rfl))) (fun _ _ _ _ _ => (pts_one (pt_cmpR op_ne (pv 13) (pv 3) (nomark _)))) (fun _ _ _ _ _ => (pe_dget (hu_of hr) (pe_dget (hu_of hr) (pe_dget (hu_of hr) (pv 1) (pv 2) (fun _ _ => rfl)) (pv 13) (fun _ _ => rfl)) (pv 6) (fun _ _ => rfl)))))
        (pss_one (ps_if (pt_mid (PW.pt (pw_and (pt_val (pv 9)) (pw_and (pt_cmpR op_notN (pe_dget (hu_of hr) (pv 4) (pv 6) (fun _ _ => rfl)) pe_non (nomark _)) (pw_and1 (pt_cmpR op_in_seq (pe_dget (hu_of hr) (pv 4) (pv 6) (fun _ _ => rfl)) (pv 12) (by rfl))))))) (pss_one (ps_ret (pe_tup (pa_cons pe_str (pa_cons (pv 2) (pa_cons (pv 3) (pa_cons (pv 6) pa_nil))))))) pss_nil))))
      (pss_one (ps_ret (pe_tup pa_nil)))))))), ?_⟩
    refine ⟨_, rfl, _, rfl, p, _, rfl, dget (k := .inr tab) (.inl tb.tabs.1) hv, _, rfl, q, _, rfl, dget (k := .inl key) (.inl hrs.1) rv, ?_⟩
    refine ⟨_, rfl, dp, das, kvs, rfl, hds, hdk, fun dd hdn => ⟨_, rfl, dd, _, rfl, hdd dd hdn, ?_⟩⟩
    have s1 : Same H (upd H dd (.dK (mergeK [] kvs))) := Same.new hdn
    show tSeq _ _ _ _ (upd H dd (.dK (mergeK [] kvs)))
    generalize upd H dd (.dK (mergeK [] kvs)) = H1 at s1 ⊢
    have hcp1 := s1 _ _ hcp
    have ln := pc.length
    -- bare
    refine ⟨_, rfl, cp, rfl, ⟨_, SqL.of hcp1⟩, ?_⟩
    refine for_list (K := K) (a := cp) (xs := as.map V.ref) (fun i σ H2 => ∃ (v6 v7 v8 v9 v10 v11 v12 v13 : Option V), σ = [some (.ref dp), some (.ref p), some (.str tab), some (.int key), some (.ref ra), some (.ref cp), v6, v7, v8, v9, v10, v11, v12, v13] ∧ Same H1 H2 ∧ ∀ c ∈ cs.take i, bareC r c = false) ⟨none, none, none, none, none, none, none, none, rfl, Same.refl _, nofun⟩ (fun i σ H2 _ h => ?_) ?_ ?_
    · obtain ⟨_, _, _, _, _, _, _, _, _, h, _⟩ := h
      exact SqL.of (h _ _ hcp1)
    · rintro i y σ H2 hi ⟨v6, v7, v8, v9, v10, v11, v12, v13, rfl, s2, no⟩
      obtain ⟨a, c, rfl, hcc, ha⟩ := colT_at pc hi
      have cm := List.mem_of_getElem? hcc
      have s02 := s1.trans s2
      refine ⟨a, _, rfl, SqT.of (s02 _ _ ha), rfl, _, _, rfl, _, _, rfl, _, _, rfl, _, _, rfl, _, _, rfl, _, _, rfl, rfl, ?_⟩
      refine ⟨fun b H3 => b = bareC r c ∧ H3 = H2, ?_, ?_⟩
      · refine ⟨_, rfl, _, rfl, ra, _, rfl, rget (s02 _ _ hra) cm, rfl, _, rfl, ?_⟩
        unfold bareC
        cases decide (atN r c.nm = .non) with
        | false => exact iteF ⟨rfl, rfl⟩
        | true => exact iteT ⟨_, rfl, c.bare, rfl, rfl, rfl⟩
      · rintro b H3 ⟨rfl, rfl⟩
        cases hb : bareC r c with
        | false => exact iteF ⟨_, _, _, _, _, _, _, _, rfl, s2, no_snoc hcc no hb⟩
        | true =>
          have e0 : mRow d (plT As) tab key = [.str "Bare", .str tab, .int key, .str c.nm] := by
            unfold mRow
            rw [ec, erow, find_first hcc no hb]
          refine iteT ⟨_, rfl, _, rfl, _, rfl, by show 4 ≤ sizeLine; decide, fun t ht => k _ t (s02.trans (Same.new ht)) ?_⟩
          rw [e0]
          exact upd_same
    rintro σ H2 ⟨v6, v7, v8, v9, v10, v11, v12, v13, rfl, s2, no1⟩
    rw [List.length_map, ln, List.take_length] at no1
    have f1' := find_nil no1
    have s02 := s1.trans s2
    have hcp2 := s02 _ _ hcp
    -- missing
    refine ⟨_, rfl, cp, rfl, ⟨_, SqL.of hcp2⟩, ?_⟩
    refine for_list (K := K) (a := cp) (xs := as.map V.ref) (fun i σ H3 => ∃ (v6 v7 v8 v9 v10 v11 v12 v13 : Option V), σ = [some (.ref dp), some (.ref p), some (.str tab), some (.int key), some (.ref ra), some (.ref cp), v6, v7, v8, v9, v10, v11, v12, v13] ∧ Same H2 H3 ∧ ∀ c ∈ cs.take i, missC (plT As) r c = false) ⟨_, _, _, _, _, _, _, _, rfl, Same.refl _, nofun⟩ (fun i σ H3 _ h => ?_) ?_ ?_
    · obtain ⟨_, _, _, _, _, _, _, _, _, h, _⟩ := h
      exact SqL.of (h _ _ hcp2)
    · rintro i y σ H3 hi ⟨v6, v7, v8, v9, v10, v11, v12, v13, rfl, s3, no⟩
      obtain ⟨a, c, rfl, hcc, ha⟩ := colT_at pc hi
      have cm := List.mem_of_getElem? hcc
      have s03 := s02.trans s3
      have tb3 := tb.same s03
      refine ⟨a, _, rfl, SqT.of (s03 _ _ ha), rfl, _, _, rfl, _, _, rfl, _, _, rfl, _, _, rfl, _, _, rfl, _, _, rfl, rfl, ?_⟩
      refine ⟨fun b H4 => b = missC (plT As) r c ∧ H4 = H3, ?_, ?_⟩
      · refine ⟨_, rfl, rfl, _, rfl, ?_⟩
        have ekd : decide (V.str c.kd = V.str "link") = decide (c.kd = "link") := by
          by_cases z : c.kd = "link"
          · rw [eqS_t z, decide_eq_true z]
          · rw [eqS_f z, decide_eq_false z]
        rw [ekd]
        unfold missC
        rcases (cok.ok c cm).goal with ⟨lk, g, hgl, hgw⟩ | ⟨nl, hgl⟩
        · rw [decide_eq_true lk, Bool.true_and]
          refine iteT ⟨_, rfl, _, rfl, ra, _, rfl, rget (s03 _ _ hra) cm, rfl, _, rfl, ?_⟩
          cases e : decide (atN r c.nm = .non) with
          | true => exact iteF ⟨rfl, rfl⟩
          | false =>
            obtain ⟨i, hi⟩ := worth_key lk (atN_ok cok.nd ro cm) e
            obtain ⟨e2, he2, eg⟩ := List.mem_map.mp hgw
            obtain ⟨q3, rs3, _, _, hv3, hrs3, er3, rok3⟩ := tabD_at tb3.dok tb3.tabs tb3.tok (t := e2.1) (cs := e2.2) he2
            have di : DGet H3 q3 (atN r c.nm) (valV (rowsK rs3) (.inl i)) := by
              rw [hi]
              exact dget (k := .inl i) (.inl hrs3.1) rfl
            have dg : DGet H3 p c.goal (some (.ref q3)) := by
              rw [hgl, ← eg]
              exact dget (k := .inr e2.1) (.inl tb3.tabs.1) hv3
            refine iteT ⟨_, rfl, _, rfl, ra, _, rfl, rget (s03 _ _ hra) cm, _, rfl, _, rfl, p, _, rfl, dg, q3, _, rfl, di, _, rfl, ?_, rfl⟩
            rw [hi, hgl, ← eg]
            show (!(valV (rowsK rs3) (.inl i)).isSome) = (true && !(get (rowsOf (plT As) e2.1) i).isSome)
            rw [← er3, rowsK_get, plR_get]
            cases get rs3 i <;> rfl
        · rw [decide_eq_false nl]
          exact iteF ⟨rfl, rfl⟩
      · rintro b H4 ⟨rfl, rfl⟩
        cases hb : missC (plT As) r c with
        | false => exact iteF ⟨_, _, _, _, _, _, _, _, rfl, s3, no_snoc hcc no hb⟩
        | true =>
          have e0 : mRow d (plT As) tab key = [.str "Missing", .str tab, .int key, .str c.nm] := by
            unfold mRow
            rw [ec, erow, f1', find_first hcc no hb]
          refine iteT ⟨_, rfl, _, rfl, _, rfl, by show 4 ≤ sizeLine; decide, fun t ht => k _ t (s03.trans (Same.new ht)) ?_⟩
          rw [e0]
          exact upd_same
    rintro σ H3 ⟨w6, w7, w8, w9, w10, w11, w12, w13, rfl, s3, no3⟩
    rw [List.length_map, ln, List.take_length] at no3
    have f3' := find_nil no3
    have s03 := s02.trans s3
    have hcp3 := s03 _ _ hcp
    -- twice
    refine ⟨_, rfl, cp, rfl, ⟨_, SqL.of hcp3⟩, ?_⟩
    refine for_list (K := K) (a := cp) (xs := as.map V.ref) (fun i σ H4 => ∃ (v6 v7 v8 v9 v10 v11 v12 v13 : Option V), σ = [some (.ref dp), some (.ref p), some (.str tab), some (.int key), some (.ref ra), some (.ref cp), v6, v7, v8, v9, v10, v11, v12, v13] ∧ Same H3 H4 ∧ ∀ c ∈ cs.take i, twiceC (rowsOf (plT As) tab) key r c = false) ⟨_, _, _, _, _, _, _, _, rfl, Same.refl _, nofun⟩ (fun i σ H4 _ h => ?_) ?_ ?_
    · obtain ⟨_, _, _, _, _, _, _, _, _, h, _⟩ := h
      exact SqL.of (h _ _ hcp3)
    · rintro i y σ H4 hi ⟨v6, v7, v8, v9, v10, v11, v12, v13, rfl, s4, no⟩
      obtain ⟨a, c, rfl, hcc, ha⟩ := colT_at pc hi
      have cm := List.mem_of_getElem? hcc
      have s04 := s03.trans s4
      have tb4 := tb.same s04
      have hrs4 := hrs.keep (.of_same s04)
      refine ⟨a, _, rfl, SqT.of (s04 _ _ ha), rfl, _, _, rfl, _, _, rfl, _, _, rfl, _, _, rfl, _, _, rfl, _, _, rfl, rfl, ?_⟩
      refine ⟨q, _, hrs4.1, trivial, fun od => ?_⟩
      have hq1 : upd H4 q (.frz od (.dK (rowsK rs))) q = some (.frz od (.dK (rowsK rs))) := upd_same
      have rdp : Rd (upd H4 q (.frz od (.dK (rowsK rs)))) p (.dK (tabsK As)) := rdLock (.inl tb4.tabs.1) hrs4.1
      have rdr : ∀ x ∈ rs, Rd (upd H4 q (.frz od (.dK (rowsK rs)))) x.2.1 (.dK (rowK x.2.2)) := fun x hx => rdLock (.inl (hrs4.2 x hx)) hrs4.1
      generalize eL : upd H4 q (.frz od (.dK (rowsK rs))) = HL at hq1 rdp rdr ⊢
      have few := rok.few
      unfold plR at few
      rw [List.length_map] at few
      refine ⟨_, rfl, _, rfl, p, _, rfl, dget (k := .inr tab) rdp hv, q, od, rfl, .inl ⟨_, hq1, fun D hD => ?_⟩⟩
      refine lc_keep walk_keys ((plR rs).map fun x => if x.1 = key then none else some (atN x.2 c.nm)) (by unfold plR rowsK; simp) (by unfold rowsK; rw [List.length_map]; omega) hD (fun H s => s _ _ hq1) ?_ ?_
      · rintro j o x Hz H5 Nx Ad ho s5 ⟨rfl, k0, v0, hkv, rfl⟩ n1 n2
        obtain ⟨rr, hrr, rfl, rfl⟩ := rowsK_at hkv
        have rrm := List.mem_of_getElem? hrr
        have hpr : (plR rs)[j]? = some (rr.1, rr.2.2) := map_get hrr
        obtain ⟨zr, hzr, rfl⟩ := map_at ho
        rw [hpr] at hzr
        cases hzr
        have ror : RowOk cs rr.2.2 := rok.ok (rr.1, rr.2.2) (List.mem_of_getElem? hpr)
        have rgetr : valV (rowsK rs) (.inl rr.1) = some (.ref rr.2.1) := by
          rw [rowsK_get, mem_get (by rw [← plR_keys]; exact rok.nd) rrm]
          rfl
        refine ⟨rfl, _, rfl, _, rfl, rfl, _, rfl, ?_⟩
        rw [show (!decide (kV (.inl rr.1) = V.int key)) = (!decide (rr.1 = key)) by rw [show kV (.inl rr.1) = V.int rr.1 from rfl, dec_int]; rfl]
        by_cases e : rr.1 = key
        · rw [decide_eq_true e]
          exact iteF (n1 (if_pos e) _ (Same.refl _))
        · rw [decide_eq_false e]
          refine iteT ⟨_, rfl, _, rfl, p, _, rfl, dget (k := .inr tab) (Rd.sameK rdp s5) hv, _, rfl, q, _, rfl, dget (k := .inl rr.1) (rdF (s5 _ _ hq1)) rgetr, _, rfl, rr.2.1, _, rfl, dget (k := .inr c.nm) (Rd.sameK (rdr rr rrm) s5) (by rw [rowK_get]; exact rowOk_at ror cm), ?_⟩
          exact n2 _ (if_neg e) _ (Same.refl _)
      · intro H5 s5 hD5
        rw [← eL] at s5
        obtain ⟨u1, u2⟩ := unlockS s5 hrs4.1
        refine ⟨u1, ?_⟩
        have hD6 : upd H5 q (.dK (rowsK rs)) D = _ := upd_at hD5 u1 nofun
        generalize upd H5 q (.dK (rowsK rs)) = H6 at u2 hD6 ⊢
        have s06 := s04.trans u2
        have eany : inV (atN r c.nm) (((plR rs).map fun x => if x.1 = key then none else some (atN x.2 c.nm)).filterMap id) = (plR rs).any fun x => !decide (x.1 = key) && decide (atN x.2 c.nm = atN r c.nm) := by
          have gen : ∀ l : Rows, (∀ x ∈ l, x ∈ plR rs) → inV (atN r c.nm) ((l.map fun x => if x.1 = key then none else some (atN x.2 c.nm)).filterMap id) = l.any fun x => !decide (x.1 = key) && decide (atN x.2 c.nm = atN r c.nm) := by
            intro l
            induction l with
            | nil => intro _; rfl
            | cons x l ih =>
              intro hl
              have h := ih fun y hy => hl y (List.mem_cons_of_mem _ hy)
              have rox := rok.ok x (hl x List.mem_cons_self)
              rw [List.map_cons, List.any_cons, ← h]
              by_cases e : x.1 = key
              · rw [if_pos e, decide_eq_true e]
                rfl
              · rw [if_neg e, decide_eq_false e]
                have es := eqV_scal (scal_ok (atN_ok cok.nd rox cm) (atN_ok cok.nd ro cm)) (flat_worth (atN_ok cok.nd rox cm))
                show (inV (atN r c.nm) (atN x.2 c.nm :: _)) = _
                unfold inV
                rw [List.any_cons, es]
                rfl
          exact gen _ fun x hx => hx
        have fl : (((plR rs).map fun x => if x.1 = key then none else some (atN x.2 c.nm)).filterMap id).all flatV = true := by
          rw [List.all_eq_true]
          intro v hv
          obtain ⟨o, ho, e⟩ := List.mem_filterMap.mp hv
          obtain ⟨x, hx, ex⟩ := List.mem_map.mp ho
          have e' : o = some v := e
          rw [e'] at ex
          split at ex
          · cases ex
          · cases ex
            exact flat_worth (atN_ok cok.nd (rok.ok x hx) cm)
        refine ⟨fun b H7 => b = twiceC (rowsOf (plT As) tab) key r c ∧ H7 = H6, ?_, ?_⟩
        · refine ⟨_, rfl, c.lone, rfl, ?_⟩
          unfold twiceC
          rw [← er]
          cases c.lone with
          | false => exact iteF ⟨rfl, rfl⟩
          | true =>
            refine iteT ⟨_, rfl, _, rfl, ra, _, rfl, rget (s06 _ _ hra) cm, rfl, _, rfl, ?_⟩
            cases e : decide (atN r c.nm = .non) with
            | true => exact iteF ⟨rfl, rfl⟩
            | false =>
              refine iteT ⟨_, rfl, _, rfl, ra, _, rfl, rget (s06 _ _ hra) cm, _, rfl, D, _, rfl, .inl (SqL.of hD6), flat_worth (atN_ok cok.nd ro cm), fl, _, rfl, ?_, rfl⟩
              rw [eany]
              rfl
        · rintro b H7 ⟨rfl, rfl⟩
          cases hb : twiceC (rowsOf (plT As) tab) key r c with
          | false => exact iteF ⟨_, _, _, _, _, _, _, _, rfl, s4.trans u2, no_snoc hcc no hb⟩
          | true =>
            have e0 : mRow d (plT As) tab key = [.str "Twice", .str tab, .int key, .str c.nm] := by
              unfold mRow
              rw [ec, erow, f1', f3', find_first hcc no hb]
            refine iteT ⟨_, rfl, _, rfl, _, rfl, by show 4 ≤ sizeLine; decide, fun t ht => k _ t (s06.trans (Same.new ht)) ?_⟩
            rw [e0]
            exact upd_same
    · rintro σ H4 ⟨z6, z7, z8, z9, z10, z11, z12, z13, rfl, s4, no5⟩
      rw [List.length_map, ln, List.take_length] at no5
      refine ⟨Nat.zero_le _, fun t ht => k _ t ((s03.trans s4).trans (Same.new ht)) ?_⟩
      unfold mRow
      rw [ec, erow, f1', f3', find_nil no5]
      exact upd_same
end
end K16

/-! K16V: the law's own account: a statement amiss, a statement done -/
namespace K16
open PySem PySem.Spec PyProof.Rows L2 He
section
variable {P : Program} {w : World} {K : Fr} {mg : Str → Option Value} {base : Heap}
theorem slice3 {H : Hp} {sa : Addr} {x y z : V} {r0 : List V} {Z : V → Hp → Prop} (h : H sa = some (.tup (x :: y :: z :: r0))) (main : ∀ a H1, Same H H1 → H1 a = some (.tup [x, y, z]) → Z (.ref a) H1) : rSlA K (.ref sa) none (some 3) H Z := by
  refine ⟨sa, _, rfl, SqT.of h, fun hw => ?_, fun _ p hp => ?_⟩
  · obtain ⟨_, h2⟩ := hw
    have e := HT.sIx_nat (x :: y :: z :: r0).length (x :: y :: z :: r0).length 3
    rw [show ((3 : Nat) : Int) = 3 from rfl] at e
    rw [e] at h2
    simp only [List.length_cons] at h2
    have er : r0 = [] := List.length_eq_zero_iff.mp (by omega)
    subst er
    exact main sa H (Same.refl _) h
  · refine main p _ (Same.new hp) ?_
    rw [upd_same]
    have e := cutV_take (xs := x :: y :: z :: r0) 3
    rw [show ((3 : Nat) : Int) = 3 from rfl] at e
    rw [e]
    rfl
def spLForm : Sp := fun vs H Q _ => ∃ (dp p sa : Addr) (d : Desc) (As : List ATab) (s : Stm), vs = [.ref dp, .ref p, .ref sa] ∧ DescL H dp d ∧ TbR H p d As ∧ StmV H sa s ∧ StmOk d s ∧ ∀ H' t, Same H H' → H' t = some (.tup (mKey (plT As) s)) → Q (.ref t) H'
theorem sc_l_form_amiss : FnScope n_l_form_amiss p_l_form_amiss (defScope s_l_form_amiss) := ⟨rfl, rfl, rfl, by decide +kernel, rfl, by decide +kernel, by decide +kernel⟩
theorem ok_l_form_amiss (T : Txt K mg w) (O_l_fits : OkD P w K mg base CX0 2 (a_l_fits K) p_l_fits spOfKind) (O_l_whole : OkD P w K mg base CX0 1 (a_l_whole K) p_l_whole spWhole) (F : ∃ fd, FnT K "_law_form_amiss" "_law_form_amiss" s_l_form_amiss [] (a_l_form_amiss K) fd) : OkD P w K mg base CX0 3 (a_l_form_amiss K) p_l_form_amiss spLForm := by
  refine okD F sc_l_form_amiss (fun _ _ _ _ _ _ us hl => match us, hl with | [_, _, _], _ => rfl) (fun vs H Q E h => ?_) (fun cdv A outer s H vs Q E hr h => ?_)
  · obtain ⟨dp, p, sa, d, As, st, rfl, _⟩ := h
    rfl
  · obtain ⟨dp, p, sa, d, As, st, rfl, hd, tb, sv, sok, k⟩ := h
    obtain ⟨r0, hsa, hr0⟩ := sv.at_
    obtain ⟨cs, hm, hp⟩ := sok.has
    have cok := tb.dok.ok _ hm
    dsimp only at cok
    refine ⟨_, (pss_cons (ps_asg (pe_slice sl_tupA (pv 2) po_none (po_some pe_int)) (pg_tup rfl (pgs_cons (pg_name (i := 3) sc_l_form_amiss.nd rfl (Or.inl rfl)) (pgs_cons (pg_name (i := 4) sc_l_form_amiss.nd rfl (Or.inl rfl)) (pgs_cons (pg_name (i := 5) sc_l_form_amiss.nd rfl (Or.inl rfl)) pgs_nil)))))
      (pss_cons (ps_if (pt_cmp (pc_dnotin (hu_of hr) (pv 4) (pv 1))) (pss_one (ps_ret (pe_tup (pa_cons pe_str (pa_cons (pv 4) pa_nil))))) pss_nil)
      (pss_cons (ps_set (i := 6) sc_l_form_amiss.nd rfl (Or.inl rfl) (pe_dget (hu_of hr) (pe_callTy (call_dictP rfl) (by rfl) T.z_dict (by decide +kernel) (pa_cons (pv 0) pa_nil)) (pv 4) (fun _ _ => rfl)))
      (C8.pss_cut (ps_set (i := 7) sc_l_form_amiss.nd rfl (Or.inl rfl) (pe_ifExp (pt_cmpR op_ne (pv 3) pe_str (nomark _)) (pe_callTy (call_dictT rfl) (by rfl) T.z_dict (by decide +kernel) (pa_cons (pe_ix ix_tup (pv 2) pe_int (fun _ _ => rfl)) pa_nil)) pe_dnewK))
      (pss_cons (ps_lock (ps_for PassesOwn.never rfl (pi_keys (pv 7)) (pg_name (i := 8) sc_l_form_amiss.nd rfl (Or.inl rfl)) (pss_one (ps_if (pt_cmpR op_notIn_seq (pv 8) (pe_lc (own := [("_law_column", 9)]) (g := (gName 9)) (tt := tYes) rfl sc_l_form_amiss.nd (pi_list (pv 6)) (blkOk_by (own := [("_law_column", 9)]) (N := n_l_form_amiss) (sc := defScope s_l_form_amiss) (by decide +kernel)) (fun _ _ _ _ _ => (pg_name (i := 9) sc_l_form_amiss.nd rfl (Or.inl rfl))) (fun _ _ _ _ _ => pts_nil) (fun _ _ _ _ _ => (pe_ix (show IxR _ (rIxT K) from ix_tup) (pv 9) pe_int (fun _ _ => rfl)))) (by rfl)) (pss_one (ps_ret (pe_tup (pa_cons pe_str (pa_cons (pv 4) (pa_cons (pv 8) pa_nil)))))) pss_nil))))
      (pss_cons (ps_for PassesOwn.never rfl (pi_list (pv 6)) (pg_name (i := 9) sc_l_form_amiss.nd rfl (Or.inl rfl)) (pss_one (ps_if (pt_mid (PW.pt (pw_and (pt_cmpR op_notN (pe_dget1 (hu_of hr) (pv 7) (pe_ix ix_tup (pv 9) pe_int (fun _ _ => rfl)) ⟨rfl, rfl, rfl, rfl⟩) pe_non (nomark _)) (pw_and1 (pt_not (pt_val (pe_own O_l_fits (hr.mono (by decide)) T.g__law_fits (pa_cons (pe_ix ix_tup (pv 9) pe_int (fun _ _ => rfl)) (pa_cons (pe_dget (hu_of hr) (pv 7) (pe_ix ix_tup (pv 9) pe_int (fun _ _ => rfl)) (fun _ _ => rfl)) pa_nil))))))))) (pss_one (ps_ret (pe_tup (pa_cons pe_str (pa_cons (pv 4) (pa_cons (pe_ix ix_tup (pv 9) pe_int (fun _ _ => rfl)) pa_nil)))))) pss_nil)))
      (pss_cons (ps_if (pt_mid (PW.pt (pw_and (pt_cmpR op_eq (pv 3) pe_str (nomark _)) (pw_and1 (PW.pt (pw_or (pt_not (pt_val (pe_own O_l_whole (hr.mono (by decide)) T.g__law_whole (pa_cons (pv 5) pa_nil)))) (pw_or1 (pt_not (pt_chain op_lt op_lt pe_int (pv 5) (pe_op op_pow pe_int pe_int)))))))))) (pss_one (ps_ret (pe_tup (pa_cons pe_str (pa_cons (pv 5) pa_nil))))) pss_nil)
      (pss_cons (ps_if (pt_mid (PW.pt (pw_and (pt_cmpR op_eq (pv 3) pe_str (nomark _)) (pw_and1 (pt_cmp (pc_din (hu_of hr) (pv 5) (pe_dget (hu_of hr) (pv 1) (pv 4) (fun _ _ => rfl)))))))) (pss_one (ps_ret (pe_tup (pa_cons pe_str (pa_cons (pv 4) (pa_cons (pv 5) pa_nil)))))) pss_nil)
      (pss_cons (ps_if (pt_mid (PW.pt (pw_and (pt_cmpR op_ne (pv 3) pe_str (nomark _)) (pw_and1 (pt_cmp (pc_dnotin (hu_of hr) (pv 5) (pe_dget (hu_of hr) (pv 1) (pv 4) (fun _ _ => rfl)))))))) (pss_one (ps_ret (pe_tup (pa_cons pe_str (pa_cons (pv 4) (pa_cons (pv 5) pa_nil)))))) pss_nil)
      (pss_one (ps_ret (pe_tup pa_nil)))))))))))), ?_⟩
    refine ⟨_, rfl, _, rfl, slice3 hsa fun a3 H1 s1 ha3 => ?_⟩
    refine ⟨a3, _, rfl, SqT.of ha3, rfl, _, _, rfl, _, _, rfl, _, _, rfl, rfl, ?_⟩
    have tb1 := tb.same s1
    obtain ⟨q, rs, _, _, hv, hrs, er, rok⟩ := tabD_at tb1.dok tb1.tabs tb1.tok hm
    have eo : (valV (rowsK rs) (.inl st.key)).isSome = (get (rowsOf (plT As) st.tab) st.key).isSome := by
      rw [← er, rowsK_get, plR_get]
      cases get rs st.key <;> rfl
    refine ⟨_, rfl, _, rfl, p, some (.ref q), rfl, dget (k := .inr st.tab) (.inl tb1.tabs.1) hv, false, rfl, iteF ?_⟩
    obtain ⟨das, kvs, cp, hds, hdk, hcl, hdd⟩ := desc_dict (K := K) (hd.keep (.of_same s1)) tb.dok.nd hm
    refine ⟨_, rfl, dp, das, kvs, rfl, hds, hdk, fun dd hdn => ⟨_, rfl, dd, _, rfl, hdd dd hdn, ?_⟩⟩
    have s2 : Same H1 (upd H1 dd (.dK (mergeK [] kvs))) := Same.new hdn
    show C8.tCut _ _ _ _ (upd H1 dd (.dK (mergeK [] kvs)))
    generalize upd H1 dd (.dK (mergeK [] kvs)) = H2 at s2 ⊢
    have s02 := s1.trans s2
    obtain ⟨as, hcp, pc⟩ := hcl.keep (.of_same s2)
    have ln := pc.length
    refine ⟨fun σ' H3 => ∃ g, H2 g = none ∧ Same H2 H3 ∧ H3 g = some (.dK (rowK st.prs)) ∧ σ' = [some (.ref dp), some (.ref p), some (.ref sa), some (.str (kdn st.kd)), some (.str st.tab), some (.int st.key), some (.ref cp), some (.ref g), none, none], ?_, ?_⟩
    · refine ⟨_, rfl, rfl, _, rfl, ?_⟩
      rcases sv with ⟨q2, h1, h2, ob, as2, hob, hq2, pp⟩ | ⟨h1, h2, h3⟩
      · have e1 : (!decide (V.str (kdn st.kd) = V.str "drop")) = true := by
          cases z : st.kd with
          | drop => exact absurd z h1
          | put => decide +kernel
          | set => decide +kernel
        refine ifT e1 ⟨_, rfl, sa, _, 3, .ref q2, rfl, rfl, SqT.of (s02 _ _ h2), at_of (j := 3) rfl rfl, q2, as2, rowK st.prs, ob, rfl, s02 _ _ hq2, hob, pMapR pp fun a x _ z => SqT.of (s02 _ _ z), fun g hg => ⟨g, hg, Same.new hg, ?_, rfl⟩⟩
        rw [upd_same, mergeK_nd0 (by rw [rowK_keys]; exact nd_inr sok.nd)]
      · have e1 : (!decide (V.str (kdn st.kd) = V.str "drop")) = false := by
          rw [h1]
          decide +kernel
        refine ifF e1 fun g hg => ⟨g, hg, Same.new hg, ?_, rfl⟩
        rw [h3]
        exact upd_same
    · rintro σ' H3 ⟨g, ng, s3, hg, rfl⟩
      refine ⟨g, _, hg, trivial, fun od => ?_⟩
      have sL : Same H2 (upd H3 g (.frz od (.dK (rowK st.prs)))) := sWr s3 ng
      have hgL : upd H3 g (.frz od (.dK (rowK st.prs))) g = some (.frz od (.dK (rowK st.prs))) := upd_same
      generalize eL : upd H3 g (.frz od (.dK (rowK st.prs))) = HL at sL hgL ⊢
      refine ⟨_, rfl, g, od, rfl, .inl ⟨_, hgL, ?_⟩⟩
      refine for_it walk_keys (fun i σ H4 => ∃ v8 v9, σ = [some (.ref dp), some (.ref p), some (.ref sa), some (.str (kdn st.kd)), some (.str st.tab), some (.int st.key), some (.ref cp), some (.ref g), v8, v9] ∧ Same HL H4) ⟨none, none, rfl, Same.refl _⟩ (fun i σ H4 _ h => ?_) ?_ ?_
      · obtain ⟨_, _, _, h⟩ := h
        exact h _ _ hgL
      · rintro i y σ Hz H4 hi ⟨v8, v9, rfl, s4⟩ ⟨rfl, k0, v0, hkv, rfl⟩
        obtain ⟨nm, hnm, rfl⟩ := rowK_at hkv
        obtain ⟨c0, hc0, ec0, _⟩ := hp _ (List.mem_of_getElem? hnm)
        have s24 := sL.trans s4
        have hcp4 := s24 _ _ hcp
        have cfew := cok.few
        refine ⟨_, rfl, _, rfl, cp, rfl, ⟨_, SqL.of hcp4⟩, fun D hD => ?_⟩
        refine lc_map (walk_list (xs := as.map V.ref)) ((cs.map (·.nm)).map V.str) (by simp [ln]) (by rw [List.length_map, ln]; omega) hD (fun H s => SqL.of (s _ _ hcp4)) ?_ ?_
        · rintro j z x H5 H6 Nx Ad hz s5 ⟨rfl, hx⟩ qd
          obtain ⟨a, c, rfl, hc, ha⟩ := colT_at pc hx
          obtain ⟨y, hy, rfl⟩ := map_at hz
          obtain ⟨c2, hc2, rfl⟩ := map_at hy
          rw [hc] at hc2
          cases hc2
          exact ⟨rfl, _, rfl, a, _, 0, .str c.nm, rfl, rfl, SqT.of (s5 _ _ (s24 _ _ ha)), at_of (j := 0) rfl rfl, qd _ (Same.refl _)⟩
        · intro H5 s5 hD5
          refine ⟨D, _, rfl, .inl (SqL.of hD5), rfl, flat_strs _, _, rfl, ifF ?_ ⟨_, _, rfl, s4.trans s5⟩⟩
          show (!inV (V.str nm) _) = false
          rw [inV_strs, decide_eq_true (List.mem_map.mpr ⟨c0, hc0, ec0⟩)]
          rfl
      · rintro σ H4 ⟨v8, v9, rfl, s4⟩
        rw [← eL] at s4
        obtain ⟨u1, u2⟩ := unlockS s4 hg
        refine ⟨u1, ?_⟩
        generalize upd H4 g (.dK (rowK st.prs)) = H5 at u2 ⊢
        have s25 := s3.trans u2
        have hcp5 := s25 _ _ hcp
        have hg5 := u2 _ _ hg
        refine ⟨_, rfl, cp, rfl, ⟨_, SqL.of hcp5⟩, ?_⟩
        refine for_list (K := K) (a := cp) (xs := as.map V.ref) (fun i σ H6 => ∃ v8 v9, σ = [some (.ref dp), some (.ref p), some (.ref sa), some (.str (kdn st.kd)), some (.str st.tab), some (.int st.key), some (.ref cp), some (.ref g), v8, v9] ∧ Same H5 H6) ⟨_, _, rfl, Same.refl _⟩ (fun i σ H6 _ h => ?_) ?_ ?_
        · obtain ⟨_, _, _, h⟩ := h
          exact SqL.of (h _ _ hcp5)
        · rintro i y σ H6 hi ⟨v8, v9, rfl, s6⟩
          obtain ⟨a, c, rfl, hc, ha⟩ := colT_at pc hi
          have cm := List.mem_of_getElem? hc
          have ha6 := s6 _ _ (s25 _ _ ha)
          have hg6 := s6 _ _ hg5
          refine ⟨fun b H7 => b = false ∧ Same H6 H7, ?_, ?_⟩
          · refine ⟨_, rfl, g, rfl, .inl ⟨_, .inl hg6⟩, _, rfl, a, _, 0, .str c.nm, rfl, rfl, SqT.of ha6, at_of (j := 0) rfl rfl, get st.prs c.nm, dget (k := .inr c.nm) (.inl hg6) (rowK_get _ _), rfl, _, rfl, ?_⟩
            cases e : get st.prs c.nm with
            | none => exact iteF ⟨rfl, Same.refl _⟩
            | some v =>
              obtain ⟨c2, h2, n2, w2⟩ := hp _ (get_mem e)
              rw [col_uniq cok.nd h2 cm n2] at w2
              rcases w2 with ev | w2
              · rw [show v = V.non from ev]
                exact iteF ⟨rfl, Same.refl _⟩
              · refine ite2 (fun _ => ?_) (fun _ => ⟨rfl, Same.refl _⟩)
                exact ⟨_, rfl, a, _, 1, .str c.kd, rfl, rfl, SqT.of ha6, at_of (j := 1) rfl rfl, _, rfl, _, rfl, a, _, 0, .str c.nm, rfl, rfl, SqT.of ha6, at_of (j := 0) rfl rfl, g, v, rfl, dget (k := .inr c.nm) (.inl hg6) (by rw [rowK_get]; exact e), c.kd, v, rfl, w2, fun H7 s7 => ⟨true, rfl, rfl, s7⟩⟩
          · rintro b H7 ⟨rfl, s7⟩
            exact iteF ⟨_, _, rfl, s6.trans s7⟩
        · rintro σ H6 ⟨v8, v9, rfl, s6⟩
          have s06 := s02.trans (s25.trans s6)
          have tb6 := tb.same s06
          have hq6 := (s2.trans (s25.trans s6)) _ _ hrs.1
          have isput : ∀ {A B : Prop}, (st.kd = .put → A) → (st.kd ≠ .put → B) → if decide (V.str (kdn st.kd) = V.str "put") = true then A else B := fun {A B} a b => by
            cases ek : st.kd with
            | put => exact ifT rfl (a ek)
            | set => exact ifF (by decide +kernel) (b (by rw [ek]; nofun))
            | drop => exact ifF (by decide +kernel) (b (by rw [ek]; nofun))
          refine ⟨fun b H7 => b = false ∧ H7 = H6, ?_, ?_⟩
          · refine ⟨_, rfl, rfl, _, rfl, isput (fun _ => ?_) (fun _ => ⟨rfl, rfl⟩)⟩
            refine ⟨_, rfl, st.key, rfl, true, rfl, iteF ⟨_, rfl, _, _, rfl, rfl, _, rfl, ?_⟩⟩
            rw [decide_eq_true (show (0 : Int) < st.key by have := sok.key.1; omega)]
            refine iteT ⟨_, _, rfl, rfl, ⟨by decide, by decide, by decide⟩, _, _, rfl, rfl, _, rfl, ?_⟩
            rw [decide_eq_true (show st.key < 10 ^ (6 : Int).toNat by have := sok.key.2; show st.key < 1000000; omega)]
            exact ⟨rfl, rfl⟩
          · rintro b H7 ⟨rfl, rfl⟩
            refine iteF ?_
            refine ⟨fun b H8 => H8 = H7 ∧ b = (decide (st.kd = .put) && (get (rowsOf (plT As) st.tab) st.key).isSome), ?_, ?_⟩
            · refine ⟨_, rfl, rfl, _, rfl, isput (fun ek => ?_) (fun ek => ?_)⟩
              · refine ⟨_, rfl, _, rfl, _, rfl, p, _, rfl, dget (k := .inr st.tab) (.inl tb6.tabs.1) hv, q, _, rfl, dget (k := .inl st.key) (.inl hq6) rfl, _, rfl, rfl, ?_⟩
                rw [eo, ek]
                rfl
              · refine ⟨rfl, ?_⟩
                rw [decide_eq_false ek]
                rfl
            · rintro b H8 ⟨rfl, rfl⟩
              cases hb : (decide (st.kd = .put) && (get (rowsOf (plT As) st.tab) st.key).isSome) with
              | true =>
                rw [Bool.and_eq_true] at hb
                have ek : st.kd = .put := of_decide_eq_true hb.1
                have er0 : mKey (plT As) st = [.str "Taken", .str st.tab, .int st.key] := by
                  unfold mKey
                  rw [ek]
                  exact if_pos hb.2
                refine iteT ⟨_, rfl, _, rfl, by show 3 ≤ sizeLine; decide, fun t ht => k _ t (s06.trans (Same.new ht)) ?_⟩
                rw [er0]
                exact upd_same
              | false =>
                refine iteF ?_
                refine ⟨fun b H9 => H9 = H8 ∧ b = (!decide (st.kd = .put) && !(get (rowsOf (plT As) st.tab) st.key).isSome), ?_, ?_⟩
                · refine ⟨_, rfl, rfl, _, rfl, ?_⟩
                  by_cases ek : st.kd = .put
                  · rw [ek]
                    exact iteF ⟨rfl, rfl⟩
                  · have e1 : (!decide (V.str (kdn st.kd) = V.str "put")) = true := by
                      cases z : st.kd with
                      | put => exact absurd z ek
                      | set => decide +kernel
                      | drop => decide +kernel
                    refine ifT e1 ⟨_, rfl, _, rfl, _, rfl, p, _, rfl, dget (k := .inr st.tab) (.inl tb6.tabs.1) hv, q, _, rfl, dget (k := .inl st.key) (.inl hq6) rfl, _, rfl, rfl, ?_⟩
                    rw [eo, decide_eq_false ek]
                    rfl
                · rintro b H9 ⟨rfl, rfl⟩
                  cases hb2 : (!decide (st.kd = .put) && !(get (rowsOf (plT As) st.tab) st.key).isSome) with
                  | true =>
                    rw [Bool.and_eq_true] at hb2
                    have er0 : mKey (plT As) st = [.str "NoRow", .str st.tab, .int st.key] := by
                      have n2 : ¬ (get (rowsOf (plT As) st.tab) st.key).isSome = true := by
                        have := hb2.2
                        intro z
                        rw [z] at this
                        cases this
                      unfold mKey
                      cases ek : st.kd with
                      | put =>
                        rw [ek] at hb2
                        cases hb2.1
                      | set => exact if_neg n2
                      | drop => exact if_neg n2
                    refine iteT ⟨_, rfl, _, rfl, by show 3 ≤ sizeLine; decide, fun t ht => k _ t (s06.trans (Same.new ht)) ?_⟩
                    rw [er0]
                    exact upd_same
                  | false =>
                    refine iteF ⟨Nat.zero_le _, fun t ht => k _ t (s06.trans (Same.new ht)) ?_⟩
                    have e0 : mKey (plT As) st = [] := by
                      unfold mKey
                      cases ek : st.kd with
                      | put =>
                        rw [ek] at hb
                        have n2 : ¬ (get (rowsOf (plT As) st.tab) st.key).isSome = true := fun z => by
                          rw [z] at hb
                          cases hb
                        exact if_neg n2
                      | set =>
                        rw [ek] at hb2
                        cases z : (get (rowsOf (plT As) st.tab) st.key).isSome with
                        | true => exact if_pos rfl
                        | false =>
                          rw [z] at hb2
                          cases hb2
                      | drop =>
                        rw [ek] at hb2
                        cases z : (get (rowsOf (plT As) st.tab) st.key).isSome with
                        | true => exact if_pos rfl
                        | false =>
                          rw [z] at hb2
                          cases hb2
                    rw [e0]
                    exact upd_same
end
end K16

/-! K16W: the law's own account: a statement done -/
namespace K16
open PySem PySem.Spec PyProof.Rows L2 He
section
variable {P : Program} {w : World} {K : Fr} {mg : Str → Option Value} {base : Heap}
/-! ### refusals as data -/
def okV : V → Prop
  | .str s => PyData.strOk s = true
  | .int _ => True
  | _ => False
theorem dp_all : ∀ (r : List V), (∀ v ∈ r, okV v) → ∃ ds : List PyData, (∀ (K : Fr) (H : Hp), DpAll K H r ds) ∧ PyData.canLayAll0 ds = true ∧ PyData.depthAll ds = 0 ∧ ds.length = r.length
  | [], _ => ⟨[], fun _ _ => .nil, rfl, rfl, rfl⟩
  | v :: r, h => by
    obtain ⟨ds, h1, h2, h3, h4⟩ := dp_all r fun x hx => h x (List.mem_cons_of_mem _ hx)
    have hv := h v List.mem_cons_self
    cases v with
    | str s =>
      have hs : PyData.strOk s = true := hv
      refine ⟨.str s :: ds, fun K H => .cons (.str s) (h1 K H), ?_, ?_, by rw [List.length_cons, List.length_cons, h4]⟩
      · simp [PyData.canLayAll0, PyData.canLay0, hs, h2]
      · simp [PyData.depthAll, PyData.depth, h3]
    | int i =>
      refine ⟨.int i :: ds, fun K H => .cons (.int i) (h1 K H), ?_, ?_, by rw [List.length_cons, List.length_cons, h4]⟩
      · simp [PyData.canLayAll0, PyData.canLay0, h2]
      · simp [PyData.depthAll, PyData.depth, h3]
    | _ => exact absurd hv (by simp [okV])
theorem dp_ref {H : Hp} {t : Addr} {r : List V} (h : ∀ v ∈ r, okV v) (ht : H t = some (.tup r)) : ∃ d, Dp K H (.ref t) d ∧ SeqAt.shaped d = true ∧ PyData.eqv d (.tuple []) = decide (r = []) := by
  obtain ⟨ds, h1, h2, h3, h4⟩ := dp_all r h
  refine ⟨.tuple ds, .tup (SqT.of ht) (h1 K H), ?_, ?_⟩
  · simp [SeqAt.shaped, PyData.canLay0, PyData.depth, h2, h3]
  · cases r with
    | nil =>
      rw [List.length_eq_zero_iff.mp h4]
      rfl
    | cons v r =>
      cases ds with
      | nil => cases h4
      | cons a b => rfl
theorem str_ok (s : Str) (h : PyData.strOk s = true) : okV (.str s) := h
theorem desc_ok {d : Desc} (dok : DescOk d) {s : Str} (h : s ∈ d.map (·.1)) : PyData.strOk s = true := by
  obtain ⟨e, he, rfl⟩ := List.mem_map.mp h
  exact word_ok (dok.word e he)
theorem key_ok {d : Desc} (dok : DescOk d) {s : Stm} (sok : StmOk d s) (T : Tabs) : ∀ v ∈ mKey T s, okV v := by
  obtain ⟨cs, hm, _⟩ := sok.has
  have ht := desc_ok dok (List.mem_map.mpr ⟨_, hm, rfl⟩)
  have hT : PyData.strOk "Taken" = true := by decide +kernel
  have hN : PyData.strOk "NoRow" = true := by decide +kernel
  intro v hv
  unfold mKey at hv
  split at hv <;> split at hv
  · simp only [List.mem_cons, List.not_mem_nil, or_false] at hv
    rcases hv with rfl | rfl | rfl
    · exact hT
    · exact ht
    · trivial
  · cases hv
  · cases hv
  · simp only [List.mem_cons, List.not_mem_nil, or_false] at hv
    rcases hv with rfl | rfl | rfl
    · exact hN
    · exact ht
    · trivial
theorem held_ok {d : Desc} (dok : DescOk d) (T : Tabs) (tab : Str) (key : Int) : ∀ v ∈ mHeld d T tab key, okV v := by
  intro v hv
  unfold mHeld at hv
  split at hv
  · cases hv
  · rename_i x r hx
    have m : x ∈ heldBy d T tab key := by
      rw [hx]
      exact List.mem_cons_self
    obtain ⟨e, he, h⟩ := List.mem_flatMap.mp m
    obtain ⟨o, _, h⟩ := List.mem_flatMap.mp h
    obtain ⟨c, hc, rfl⟩ := List.mem_map.mp h
    have cm := (List.mem_filter.mp hc).1
    simp only [List.mem_cons, List.not_mem_nil, or_false] at hv
    rcases hv with rfl | rfl | rfl
    · exact word_ok (dok.word e he)
    · trivial
    · exact word_ok ((dok.ok e he).ok c cm).nm
theorem row_ok {d : Desc} (dok : DescOk d) (T : Tabs) {tab : Str} {cs : Cols} (hm : (tab, cs) ∈ d) (key : Int) : ∀ v ∈ mRow d T tab key, okV v := by
  have ht := desc_ok dok (List.mem_map.mpr ⟨_, hm, rfl⟩)
  have h1 : PyData.strOk "Bare" = true := by decide +kernel
  have h2 : PyData.strOk "Missing" = true := by decide +kernel
  have h3 : PyData.strOk "Twice" = true := by decide +kernel
  have hc : ∀ {f : Col → Bool} {c : Col}, (colsOf d tab).find? f = some c → okV (.str c.nm) := fun {f c} h => by
    rw [colsOf_eq dok.nd hm] at h
    exact word_ok ((dok.ok _ hm).ok c (List.mem_of_find?_eq_some h)).nm
  intro v hv
  unfold mRow at hv
  split at hv
  · rename_i c h
    simp only [List.mem_cons, List.not_mem_nil, or_false] at hv
    rcases hv with rfl | rfl | rfl | rfl
    · exact h1
    · exact ht
    · trivial
    · exact hc h
  · split at hv
    · rename_i c h
      simp only [List.mem_cons, List.not_mem_nil, or_false] at hv
      rcases hv with rfl | rfl | rfl | rfl
      · exact h2
      · exact ht
      · trivial
      · exact hc h
    · split at hv
      · rename_i c h
        simp only [List.mem_cons, List.not_mem_nil, or_false] at hv
        rcases hv with rfl | rfl | rfl | rfl
        · exact h3
        · exact ht
        · trivial
        · exact hc h
      · cases hv
/-! ### a row filled pair by pair -/
def fillR (had : Row) (prs : Row) : Row := prs.foldl (fun r q => put r q.1 q.2) had
theorem fill_snoc (had prs : Row) (q : Str × V) : fillR had (prs ++ [q]) = put (fillR had prs) q.1 q.2 := by
  unfold fillR
  rw [List.foldl_append]
  rfl
theorem row_canon {cs : Cols} : ∀ {r : Row}, r.map (·.1) = cs.map (·.nm) → (cs.map (·.nm)).Nodup → r = cs.map fun c => (c.nm, atN r c.nm) := by
  intro r e nd
  have key : ∀ (l : Row) (ds : Cols), l.map (·.1) = ds.map (·.nm) → (∀ q ∈ l, get r q.1 = some q.2) → l = ds.map fun c => (c.nm, atN r c.nm) := by
    intro l
    induction l with
    | nil =>
      intro ds h _
      cases ds with
      | nil => rfl
      | cons a b => cases h
    | cons q l ih =>
      intro ds h hg
      cases ds with
      | nil => cases h
      | cons c ds =>
        rw [List.map_cons, List.map_cons] at h
        obtain ⟨h1, h2⟩ := List.cons.inj h
        rw [List.map_cons, ← ih ds h2 fun x hx => hg x (List.mem_cons_of_mem _ hx)]
        congr 1
        have h3 := hg q List.mem_cons_self
        rw [← h1]
        unfold atN
        rw [h3]
        rfl
  exact key r cs e fun q hq => mem_get (by rw [e]; exact nd) hq
theorem rev_ind {α : Type} {p : List α → Prop} (h0 : p []) (h1 : ∀ l a, p l → p (l ++ [a])) : ∀ l, p l := fun l => by
  rw [← List.reverse_reverse l]
  induction l.reverse with
  | nil => exact h0
  | cons a r ih =>
    rw [List.reverse_cons]
    exact h1 _ _ ih
theorem fill_keys {cs : Cols} {had : Row} (hk : had.map (·.1) = cs.map (·.nm)) : ∀ (prs : Row), (∀ q ∈ prs, q.1 ∈ cs.map (·.nm)) → (fillR had prs).map (·.1) = cs.map (·.nm) := by
  refine rev_ind (fun _ => hk) fun l q ih h => ?_
  · have h1 := ih fun x hx => h x (List.mem_append_left _ hx)
    rw [fill_snoc]
    have hq : q.1 ∈ (fillR had l).map (·.1) := by
      rw [h1]
      exact h q (List.mem_append_right _ List.mem_cons_self)
    cases z : get (fillR had l) q.1 with
    | none => exact absurd hq (get_none.mp z)
    | some v => rw [put_keys z, h1]
theorem fill_get {had : Row} : ∀ (prs : Row), (prs.map (·.1)).Nodup → ∀ n, get (fillR had prs) n = (get prs n).or (get had n) := by
  refine rev_ind (fun _ n => rfl) fun l q ih nd n => ?_
  · have nd' := nd
    rw [List.map_append, List.nodup_append] at nd'
    rw [fill_snoc, get_put]
    have e : get (l ++ [q]) n = (get l n).or (if n = q.1 then some q.2 else none) := get_app (l := l) (k := q.1) (j := n) (v := q.2)
    rw [e, ih nd'.1 n]
    by_cases h : n = q.1
    · rw [if_pos h, if_pos h]
      have hn : get l n = none := get_none.mpr fun m => nd'.2.2 _ m _ (by simp) h
      rw [hn]
      rfl
    · rw [if_neg h, if_neg h]
      cases get l n <;> rfl
theorem fill_row {cs : Cols} {had prs : Row} (hk : had.map (·.1) = cs.map (·.nm)) (nd : (cs.map (·.nm)).Nodup) (hp : ∀ q ∈ prs, q.1 ∈ cs.map (·.nm)) (np : (prs.map (·.1)).Nodup) : fillR had prs = rowNew cs had prs := by
  rw [row_canon (fill_keys hk prs hp) nd]
  unfold rowNew
  apply List.map_congr_left
  intro c _
  unfold atN
  rw [fill_get prs np]
  cases get prs c.nm <;> rfl
theorem mem_put2 {κ β : Type} [DecidableEq κ] {l : List (κ × β)} {k : κ} {v : β} {p : κ × β} (h : p ∈ put l k v) : p = (k, v) ∨ (p ∈ l ∧ p.1 ≠ k) := by
  cases z : get l k with
  | none =>
    rw [put_new z] at h
    rcases List.mem_append.mp h with h | h
    · exact .inr ⟨h, fun e => get_none.mp z (List.mem_map.mpr ⟨p, h, e⟩)⟩
    · exact .inl (List.mem_singleton.mp h)
  | some u =>
    rw [put_old z] at h
    obtain ⟨q, hq, e⟩ := List.mem_map.mp h
    split at e
    · rename_i y
      exact .inl (by rw [← e, y])
    · rename_i y
      exact .inr (e ▸ ⟨hq, y⟩)
theorem put_same {κ β : Type} [DecidableEq κ] {l : List (κ × β)} {k : κ} {v : β} (nd : (l.map (·.1)).Nodup) (h : get l k = some v) : put l k v = l := by
  rw [put_old h]
  have e : ∀ p ∈ l, (if p.1 = k then (p.1, v) else p) = p := fun p hp => by
    split
    · rename_i y
      have h2 := mem_get nd (show (p.1, p.2) ∈ l from hp)
      rw [y, h] at h2
      rw [Option.some.inj h2]
    · rfl
  conv => rhs; rw [← List.map_id l]
  exact List.map_congr_left e
/-- the table at q while the row at ra is filled -/
structure Fill (H H4 : Hp) (q ra : Addr) (rs : List ARow) (key : Int) (row : Row) (H' : Hp) : Prop where
  same : Same H H'
  keep : ∀ a, a ≠ q → ¬ a ∈ footR rs → ∀ o, H4 a = some o → H' a = some o
  tab : H' q = some (.dK (rowsK (put rs key (ra, row))))
  row : H' ra = some (.dK (rowK row))
  rest : ∀ r ∈ rs, r.1 ≠ key → H' r.2.1 = some (.dK (rowK r.2.2))
structure Apart (H H4 : Hp) (q ra : Addr) (rs : List ARow) (key : Int) : Prop where
  nq : ra ≠ q
  nr : ∀ r ∈ rs, r.1 ≠ key → r.2.1 ≠ ra
  old : ∀ a, ¬ a ∈ footR rs → (∃ o, H4 a = some o) → a ≠ ra
  fr : H ra = none
theorem rowsK_any (rs : List ARow) (key : Int) (ra : Addr) (r r' : Row) : rowsK (put rs key (ra, r)) = rowsK (put rs key (ra, r')) := by rw [← rowsK_put, ← rowsK_put]
theorem Fill.wr {H H4 H' : Hp} {q ra : Addr} {rs : List ARow} {key : Int} {row : Row} (f : Fill H H4 q ra rs key row H') (a : Apart H H4 q ra rs key) (n : Str) (v : V) : Fill H H4 q ra rs key (put row n v) (upd H' ra (.dK (putK (rowK row) (.inr n) v))) where
  same := sWr f.same a.fr
  keep := fun b h1 h2 o ho => by
    rw [upd_ne (a.old b h2 ⟨o, ho⟩)]
    exact f.keep b h1 h2 o ho
  tab := by
    rw [upd_ne (Ne.symm a.nq), f.tab, rowsK_any]
  row := by
    rw [upd_same, rowK_put]
  rest := fun r hr h => by
    rw [upd_ne (a.nr r hr h)]
    exact f.rest r hr h
theorem Fill.same' {H H4 H' H'' : Hp} {q ra : Addr} {rs : List ARow} {key : Int} {row : Row} (f : Fill H H4 q ra rs key row H') (s : Same H' H'') : Fill H H4 q ra rs key row H'' :=
  ⟨f.same.trans s, fun b h1 h2 o ho => s _ _ (f.keep b h1 h2 o ho), s _ _ f.tab, s _ _ f.row, fun r hr h => s _ _ (f.rest r hr h)⟩
theorem Fill.rows {H H4 H' : Hp} {q ra : Addr} {rs : List ARow} {key : Int} {row : Row} (f : Fill H H4 q ra rs key row H') : RowsD H' q (put rs key (ra, row)) := by
  refine ⟨f.tab, fun r hr => ?_⟩
  rcases mem_put2 hr with e | ⟨h1, h2⟩
  · rw [e]
    exact f.row
  · exact f.rest r h1 h2
def spLDone : Sp := fun vs H Q _ => ∃ (dp p sa : Addr) (d : Desc) (As : List ATab) (s : Stm), vs = [.ref dp, .ref p, .ref sa] ∧ DescL H dp d ∧ DescOk d ∧ TabsD H p As ∧ TabsOk d 59 (plT As) ∧ StmV H sa s ∧ StmOk d s ∧
  ∀ H' t rt p' B, Same H H' → H' t = some (.tup [.ref rt, .ref p']) → H' rt = some (.tup (mDone d (plT As) s).1) → TabsD H' p' B → plT B = (mDone d (plT As) s).2 → Q (.ref t) H'
theorem done_why {d : Desc} {T : Tabs} {s : Stm} {r : List V} (h : mWhy d T s = r) (n : r ≠ []) : mDone d T s = (r, T) := by
  unfold mDone
  rw [h]
  cases r with
  | nil => exact absurd rfl n
  | cons a l => rfl
theorem done_none {d : Desc} {T : Tabs} {s : Stm} (h : mWhy d T s = []) : mDone d T s = ([], mTabs d T s) := by
  unfold mDone
  rw [h]
theorem sc_l_done : FnScope n_l_done p_l_done (defScope s_l_done) := ⟨rfl, rfl, rfl, by decide +kernel, rfl, by decide +kernel, by decide +kernel⟩
theorem ok_l_done (T : Txt K mg w) (O_l_form_amiss : OkD P w K mg base CX0 3 (a_l_form_amiss K) p_l_form_amiss spLForm) (O_l_copied : OkD P w K mg base CX0 1 (a_l_copied K) p_l_copied spCopied) (O_l_linked : OkD P w K mg base CX0 1 (a_l_linked K) p_l_linked spLLinked) (O_l_filled : OkD P w K mg base CX0 1 (a_l_filled K) p_l_filled spLFilled) (O_l_row_amiss : OkD P w K mg base CX0 1 (a_l_row_amiss K) p_l_row_amiss spLRow)
    (F : ∃ fd, FnT K "_law_done" "_law_done" s_l_done [] (a_l_done K) fd) : OkD P w K mg base CX0 4 (a_l_done K) p_l_done spLDone := by
  refine okD F sc_l_done (fun _ _ _ _ _ _ us hl => match us, hl with | [_, _, _], _ => rfl) (fun vs H Q E h => ?_) (fun cdv A outer s H vs Q E hr h => ?_)
  · obtain ⟨dp, p, sa, d, As, st, rfl, _⟩ := h
    rfl
  · obtain ⟨dp, p, sa, d, As, st, rfl, hd, dok, tabs, tok, sv, sok, k⟩ := h
    obtain ⟨r0, hsa, hr0⟩ := sv.at_
    obtain ⟨cs, hm, hp⟩ := sok.has
    have cok := dok.ok _ hm
    dsimp only at cok
    have tok60 := tok.mono (show 59 ≤ 60 by decide)
    have ec : colsOf d st.tab = cs := colsOf_eq dok.nd hm
    have tabIn : st.tab ∈ d.map (·.1) := List.mem_map.mpr ⟨_, hm, rfl⟩
    refine ⟨_, (pss_cons (ps_set (i := 3) sc_l_done.nd rfl (Or.inl rfl) (pe_own O_l_form_amiss (hr.mono (by decide)) T.g__law_form_amiss (pa_cons (pv 0) (pa_cons (pv 1) (pa_cons (pv 2) pa_nil)))))
      (pss_cons (ps_if (pt_cmpR (op_neD hr.units) (pv 3) (pe_tup pa_nil) (nomark _)) (pss_one (ps_ret (pe_tup (pa_cons (pv 3) (pa_cons (pv 1) pa_nil))))) pss_nil)
      (pss_cons (ps_asg (pe_slice sl_tupA (pv 2) po_none (po_some pe_int)) (pg_tup rfl (pgs_cons (pg_name (i := 4) sc_l_done.nd rfl (Or.inl rfl)) (pgs_cons (pg_name (i := 5) sc_l_done.nd rfl (Or.inl rfl)) (pgs_cons (pg_name (i := 6) sc_l_done.nd rfl (Or.inl rfl)) pgs_nil)))))
      (pss_cons (ps_set (i := 7) sc_l_done.nd rfl (Or.inl rfl) (pe_own O_l_copied (hr.mono (by decide)) T.g__law_copied (pa_cons (pv 1) pa_nil)))
      (pss_cons (ps_if (pt_cmpR op_eq (pv 4) pe_str (nomark _)) (pss_cons (ps_set (i := 8) sc_l_done.nd rfl (Or.inl rfl) (pe_own O_l_linked (hr.mono (by decide)) T.g__law_linked (pa_cons (pv 0) (pa_cons (pv 1) (pa_cons (pv 5) (pa_cons (pv 6) pa_nil))))))
        (pss_cons (ps_expr (pe_dpop1 (pe_dget (hu_of hr) (pv 7) (pv 5) (fun _ _ => rfl)) (pv 6) ⟨rfl, rfl, rfl, rfl⟩))
        (pss_one (ps_ret (pe_ifExp (pt_cmpR (op_eqD hr.units) (pv 8) (pe_tup pa_nil) (nomark _)) (pe_tup (pa_cons (pe_tup pa_nil) (pa_cons (pv 7) pa_nil))) (pe_tup (pa_cons (pe_op op_catT (pe_tup (pa_cons pe_str pa_nil)) (pv 8)) (pa_cons (pv 1) pa_nil)))))))) pss_nil)
      (C8.pss_cut (ps_if (pt_cmpR op_eq (pv 4) pe_str (nomark _)) (pss_one (ps_dput (hu_of hr) (pe_dget (hu_of hr) (pv 7) (pv 5) (fun _ _ => rfl)) (pv 6) (pe_own O_l_filled (hr.mono (by decide)) T.g__law_filled (pa_cons (pe_dget (hu_of hr) (pe_callTy (call_dictP rfl) (by rfl) T.z_dict (by decide +kernel) (pa_cons (pv 0) pa_nil)) (pv 5) (fun _ _ => rfl)) (pa_cons pe_dnewK pa_nil))) rfl)) pss_nil)
      (pss_cons (ps_for PassesOwn.never rfl (pi_tup (pe_ix ix_tup (pv 2) pe_int (fun _ _ => rfl))) (pg_tup rfl (pgs_cons (pg_name (i := 9) sc_l_done.nd rfl (Or.inl rfl)) (pgs_cons (pg_name (i := 10) sc_l_done.nd rfl (Or.inl rfl)) pgs_nil))) (pss_one (ps_dput (hu_of hr) (pe_dget (hu_of hr) (pe_dget (hu_of hr) (pv 7) (pv 5) (fun _ _ => rfl)) (pv 6) (fun _ _ => rfl)) (pv 9) (pv 10) rfl)))
      (pss_cons (ps_set (i := 3) sc_l_done.nd rfl (Or.inl rfl) (pe_own O_l_row_amiss (hr.mono (by decide)) T.g__law_row_amiss (pa_cons (pv 0) (pa_cons (pv 7) (pa_cons (pv 5) (pa_cons (pv 6) pa_nil))))))
      (pss_one (ps_ret (pe_ifExp (pt_cmpR (op_eqD hr.units) (pv 3) (pe_tup pa_nil) (nomark _)) (pe_tup (pa_cons (pe_tup pa_nil) (pa_cons (pv 7) pa_nil))) (pe_tup (pa_cons (pv 3) (pa_cons (pv 1) pa_nil)))))))))))))), ?_⟩
    refine ⟨_, rfl, _, rfl, _, rfl, dp, p, sa, d, As, st, rfl, hd, ⟨dok, tabs, tok60⟩, sv, sok, fun H1 am s1 ham => ?_⟩
    refine ⟨_, rfl, Nat.zero_le _, fun t0 ht0 => ?_⟩
    obtain ⟨da, dpa, sha, eqa⟩ := dp_ref (K := K) (key_ok dok sok (plT As)) (at_new (u := .tup []) ham ht0)
    refine ⟨da, .tuple [], dpa, .tup (SqT.of upd_same) .nil, sha, rfl, _, rfl, ?_⟩
    rw [eqa]
    have s2 : Same H (upd H1 t0 (.tup [])) := s1.trans (Same.new ht0)
    have ham2 := at_new (u := .tup []) ham ht0
    generalize upd H1 t0 (.tup []) = H2 at s2 ham2 ⊢
    cases hk : decide (mKey (plT As) st = []) with
    | false =>
      have hk' := of_decide_eq_false hk
      refine iteT ⟨_, rfl, _, rfl, by show 2 ≤ sizeLine; decide, fun t ht => ?_⟩
      have e0 := done_why (why_key (d := d) rfl hk') hk'
      refine k _ t am p As (s2.trans (Same.new ht)) upd_same ?_ (tabs.keep (.of_same (s2.trans (Same.new ht)))) ?_
      · rw [e0]
        exact at_new ham2 ht
      · rw [e0]
    | true =>
      have hk' := of_decide_eq_true hk
      refine iteF ?_
      refine ⟨_, rfl, _, rfl, slice3 (s2 _ _ hsa) fun a3 H3 s3 ha3 => ?_⟩
      refine ⟨a3, _, rfl, SqT.of ha3, rfl, _, _, rfl, _, _, rfl, _, _, rfl, rfl, ?_⟩
      have s03 := s2.trans s3
      refine ⟨_, rfl, p, As, rfl, tabs.keep (.of_same s03), tkeys_of dok tok (by decide), fun H4 fp B s4 hB ep nd fr => ?_⟩
      have s04 := s03.trans s4
      have frH : ∀ a ∈ fp :: foot B, H a = none := fun a ha => s03.free (fr a ha)
      have tokB : TabsOk d 59 (plT B) := by rw [ep]; exact tok
      obtain ⟨q, rs, bm, hgB, hv, hrs, er, rok⟩ := tabD_at dok hB tokB hm
      have ndB : (B.map (·.1)).Nodup := names_nd dok tokB
      have qf : H q = none := frH _ (List.mem_cons_of_mem _ (foot_tab bm))
      have gT : get (plT As) st.tab = some (plR rs) := by
        rw [← ep, plT_get, hgB]
        rfl
      have few := rok.few
      unfold plR at few
      rw [List.length_map] at few
      cases ek : decide (st.kd = .drop) with
      | true =>
        have ekd : st.kd = .drop := of_decide_eq_true ek
        have e1 : decide (V.str (kdn st.kd) = V.str "drop") = true := by
          rw [ekd]
          decide +kernel
        refine ⟨_, rfl, rfl, _, rfl, ifT e1 ?_⟩
        refine ⟨_, rfl, _, rfl, _, rfl, _, rfl, dp, p, d, As, st.tab, st.key, rfl, hd.keep (.of_same s04), ⟨dok, tabs.keep (.of_same s04), tok60⟩, tabIn, fun H5 ht5 s5 hht5 => ?_⟩
        have s05 := s04.trans s5
        have hq5 := s5 _ _ hrs.1
        have hB5 := hB.keep (.of_same s5)
        have pres : (get rs st.key).isSome = true := by
          unfold mKey at hk'
          rw [ekd] at hk'
          dsimp only at hk'
          rw [rowsOf_get gT, plR_get] at hk'
          cases z : get rs st.key with
          | some v => rfl
          | none =>
            rw [z] at hk'
            cases hk'
        obtain ⟨v, hvv⟩ := Option.isSome_iff_exists.mp pres
        refine ⟨_, rfl, _, rfl, fp, _, rfl, dget (k := .inr st.tab) (.inl hB5.1) hv, q, rfl, .inl ⟨_, .inl hq5⟩, _, rfl, rowsK rs, .inl st.key, .ref v.1, hq5, rfl, by rw [rowsK_get, hvv]; rfl, ?_⟩
        rw [rowsK_cut]
        have hBe : TabsD (upd H5 q (.dK (rowsK (cut rs st.key)))) fp (edA B st.tab q (cut rs st.key)) := by
          refine TabsD.edit hB5 ndB nd hgB ⟨upd_same, fun r hr => ?_⟩ fun a n1 n2 o ho => by rw [upd_ne n1]; exact ho
          have rm := (List.mem_filter.mp hr).1
          rw [upd_ne (row_ne (hrs.keep (.of_same s5)) rm)]
          exact (hrs.keep (.of_same s5)).2 r rm
        have epl : plT (edA B st.tab q (cut rs st.key)) = mTabs d (plT As) st := by
          rw [edA_plT (f := mEd d st) ndB hgB, ep]
          · rfl
          · unfold mEd
            rw [ekd]
            exact plR_cut rs st.key
        have s06 : Same H (upd H5 q (.dK (rowsK (cut rs st.key)))) := sWr s05 qf
        have ht6 : upd H5 q (.dK (rowsK (cut rs st.key))) ht5 = some (.tup (mHeld d (plT As) st.tab st.key)) := upd_at hht5 hq5 nofun
        generalize upd H5 q (.dK (rowsK (cut rs st.key))) = H6 at hBe s06 ht6 ⊢
        refine ⟨_, rfl, Nat.zero_le _, fun t1 ht1 => ?_⟩
        obtain ⟨dh, dph, shh, eqh⟩ := dp_ref (K := K) (held_ok dok (plT As) st.tab st.key) (at_new (u := .tup []) ht6 ht1)
        refine ⟨dh, .tuple [], dph, .tup (SqT.of upd_same) .nil, shh, rfl, _, rfl, ?_⟩
        rw [eqh]
        have s7 : Same H6 (upd H6 t1 (.tup [])) := Same.new ht1
        have ht7 := s7 _ _ ht6
        have hBe7 := hBe.keep (.of_same s7)
        have s07 := s06.trans s7
        generalize upd H6 t1 (.tup []) = H7 at s7 ht7 hBe7 s07 ⊢
        have w2 : mWhy d (plT As) st = mWhy2 d (plT As) st := why_two hk'
        cases hh : decide (mHeld d (plT As) st.tab st.key = []) with
        | true =>
          have hh' := of_decide_eq_true hh
          have e0 : mWhy d (plT As) st = [] := by
            rw [w2]
            unfold mWhy2
            rw [ekd]
            dsimp only
            rw [hh']
          refine iteT ⟨Nat.zero_le _, fun e he => ⟨_, rfl, by show 2 ≤ sizeLine; decide, fun t ht => ?_⟩⟩
          have s9 : Same H7 (upd (upd H7 e (.tup [])) t (.tup [.ref e, .ref fp])) := (Same.new he).trans (Same.new ht)
          refine k _ t e fp (edA B st.tab q (cut rs st.key)) (s07.trans s9) upd_same ?_ (hBe7.keep (.of_same s9)) ?_
          · rw [done_none e0]
            exact at_new upd_same ht
          · rw [done_none e0]
            exact epl
        | false =>
          have hh' := of_decide_eq_false hh
          have e0 : mWhy d (plT As) st = .str "Held" :: mHeld d (plT As) st.tab st.key := by
            rw [w2]
            unfold mWhy2
            rw [ekd]
            dsimp only
            cases z : mHeld d (plT As) st.tab st.key with
            | nil => exact absurd z hh'
            | cons a l => rfl
          have few3 : (mHeld d (plT As) st.tab st.key).length ≤ 3 := by
            unfold mHeld
            split
            · exact Nat.zero_le _
            · rename_i x r hx
              obtain ⟨_, _, _, ex⟩ := held_form (c := x) (by rw [hx]; exact List.mem_cons_self)
              rw [ex]
              exact Nat.le_refl _
          refine iteF ⟨by show 1 ≤ sizeLine; decide, fun h1 hh1 => ⟨_, rfl, h1, ht5, _, _, rfl, rfl, SqT.of upd_same, SqT.of (at_new ht7 hh1), nofun, ?_, fun z => absurd z hh', fun _ c hc => ⟨_, rfl, by show 2 ≤ sizeLine; decide, fun t ht => ?_⟩⟩⟩
          · rw [sizeLine_eq]
            show 1 + (mHeld d (plT As) st.tab st.key).length ≤ _
            omega
          · have s9 : Same H7 (upd (upd (upd H7 h1 (.tup [.str "Held"])) c (.tup ([.str "Held"] ++ mHeld d (plT As) st.tab st.key))) t (.tup [.ref c, .ref p])) := ((Same.new hh1).trans (Same.new hc)).trans (Same.new ht)
            refine k _ t c p As (s07.trans s9) upd_same ?_ (tabs.keep (.of_same (s07.trans s9))) ?_
            · rw [done_why e0 nofun]
              exact at_new upd_same ht
            · rw [done_why e0 nofun]
      | false =>
        have ekd : st.kd ≠ .drop := of_decide_eq_false ek
        have e1 : decide (V.str (kdn st.kd) = V.str "drop") = false := by
          cases z : st.kd with
          | drop => exact absurd z ekd
          | put => decide +kernel
          | set => decide +kernel
        refine ⟨_, rfl, rfl, _, rfl, ifF e1 ?_⟩
        refine ⟨fun σ' H' => ∃ ra had, Apart H H4 q ra rs st.key ∧ Fill H H4 q ra rs st.key had H' ∧ had.map (·.1) = cs.map (·.nm) ∧ (∀ prs, (put (plR rs) st.key (rowNew cs had prs)) = put (plR rs) st.key (rowNew cs (if st.kd = .put then [] else rowOf (plR rs) st.key) prs)) ∧
          σ' = [some (.ref dp), some (.ref p), some (.ref sa), some (.ref am), some (.str (kdn st.kd)), some (.str st.tab), some (.int st.key), some (.ref fp), none, none, none], ?_, ?_⟩
        · refine ⟨_, rfl, rfl, _, rfl, ?_⟩
          cases ekp : st.kd with
          | drop => exact absurd ekp ekd
          | put =>
            refine ifT rfl ?_
            obtain ⟨das, kvs, cp, hds, hdk, hcl, hdd⟩ := desc_dict (K := K) (hd.keep (.of_same s04)) dok.nd hm
            refine ⟨_, rfl, dp, das, kvs, rfl, hds, hdk, fun dd hdn => ⟨_, rfl, dd, _, rfl, hdd dd hdn, fun g hg => ?_⟩⟩
            have s5 : Same H4 (upd (upd H4 dd (.dK (mergeK [] kvs))) g (.dK [])) := (Same.new hdn).trans (Same.new hg)
            refine ⟨cp, g, cs, rfl, hcl.keep (.of_same s5), cok.nd, cok.few.2, upd_same, fun H6 ra s6 nra hra => ?_⟩
            have s46 := s5.trans s6
            have hq6 := s46 _ _ hrs.1
            have hB6 := hB.keep (.of_same s46)
            have nra4 : H4 ra = none := s5.free nra
            have gk : get rs st.key = none := by
              unfold mKey at hk'
              rw [ekp] at hk'
              dsimp only at hk'
              rw [rowsOf_get gT, plR_get] at hk'
              cases z : get rs st.key with
              | none => rfl
              | some v =>
                rw [z] at hk'
                cases hk'
            have nq : ra ≠ q := fun z => by
              rw [z, hrs.1] at nra4
              cases nra4
            refine ⟨_, rfl, _, rfl, fp, _, rfl, dget (k := .inr st.tab) (.inl hB6.1) hv, _, rfl, q, _, rfl, DPut.k (k := .inl st.key) hq6 (by unfold rowsK; rw [List.length_map, sizeLine_eq]; omega), ?_⟩
            rw [rowsK_put rs st.key ra (rowNew cs [] [])]
            refine ⟨ra, rowNew cs [] [], ⟨nq, fun r hr _ z => ?_, fun a _ ho z => ?_, s04.free nra4⟩, ⟨sWr (s04.trans s46) qf, fun a n1 n2 o ho => ?_, upd_same, ?_, fun r hr h => ?_⟩, ?_, fun prs => ?_, rfl⟩
            · have h9 := hrs.2 r hr
              rw [z, nra4] at h9
              cases h9
            · obtain ⟨o, ho⟩ := ho
              rw [z, nra4] at ho
              cases ho
            · rw [upd_ne n1]
              exact s46 _ _ ho
            · rw [upd_ne nq]
              exact hra
            · rw [upd_ne (row_ne hrs hr)]
              exact s46 _ _ (hrs.2 r hr)
            · unfold rowNew
              rw [List.map_map]
              rfl
            · rw [if_pos rfl]
              congr 1
              unfold rowNew
              apply List.map_congr_left
              intro c hc
              have e9 : atN (cs.map fun c => (c.nm, (get ([] : Row) c.nm).getD (atN ([] : Row) c.nm))) c.nm = .non := by
                unfold atN
                have h8 : get (cs.map fun c => (c.nm, (get ([] : Row) c.nm).getD ((get ([] : Row) c.nm).getD .non))) c.nm = some .non := by
                  refine mem_get ?_ (List.mem_map.mpr ⟨c, hc, rfl⟩)
                  rw [List.map_map]
                  exact cok.nd
                rw [h8]
                rfl
              rw [e9]
              rfl
          | set =>
            refine ifF (by decide +kernel) ?_
            obtain ⟨v, hvv⟩ : ∃ v, get rs st.key = some v := by
              unfold mKey at hk'
              rw [ekp] at hk'
              dsimp only at hk'
              rw [rowsOf_get gT, plR_get] at hk'
              cases z : get rs st.key with
              | some v => exact ⟨v, rfl⟩
              | none =>
                rw [z] at hk'
                cases hk'
            obtain ⟨ra, r⟩ := v
            have rm := get_mem hvv
            have ro : RowOk cs r := rok.ok (st.key, r) (List.mem_map.mpr ⟨_, rm, rfl⟩)
            have nfr : (footR rs).Nodup := by
              have h9 := (List.nodup_cons.mp nd).2
              obtain ⟨i, hi, ei⟩ := List.getElem_of_mem bm
              have hsub : List.Sublist (q :: footR rs) (foot B) := by
                unfold foot
                rw [List.flatMap_def]
                have hmem : (q :: footR rs) ∈ B.map fun t => t.2.1 :: footR t.2.2 := List.mem_map.mpr ⟨_, bm, rfl⟩
                exact List.sublist_flatten_of_mem hmem
              exact (List.nodup_cons.mp (h9.sublist hsub)).2
            have esame : put rs st.key (ra, r) = rs := put_same (by rw [← plR_keys]; exact rok.nd) hvv
            refine ⟨ra, r, ⟨row_ne hrs rm, fun x hx hne z => ?_, fun a ha _ z => ha (by rw [z]; exact List.mem_map.mpr ⟨_, rm, rfl⟩), frH _ (List.mem_cons_of_mem _ (foot_row bm rm))⟩, ⟨s04, fun a _ _ o ho => ho, by rw [esame]; exact hrs.1, hrs.2 _ rm, fun x hx _ => hrs.2 x hx⟩, rowOk_keys ro, fun prs => ?_, rfl⟩
            · obtain ⟨i, hi, ei⟩ := List.getElem_of_mem hx
              obtain ⟨j, hj, ej⟩ := List.getElem_of_mem rm
              have h1 : (footR rs)[i]? = some ra := by
                unfold footR
                rw [List.getElem?_map, List.getElem?_eq_getElem hi, ei]
                exact congrArg some z
              have h2 : (footR rs)[j]? = some ra := by
                unfold footR
                rw [List.getElem?_map, List.getElem?_eq_getElem hj, ej]
                rfl
              have h3 : i = j := (List.getElem?_inj (by unfold footR; rw [List.length_map]; exact hi) nfr).mp (h1.trans h2.symm)
              subst h3
              rw [ei] at ej
              rw [ej] at hne
              exact hne rfl
            · rw [if_neg (by nofun)]
              unfold rowOf
              rw [plR_get, hvv]
              rfl
        · rintro σ' H5 ⟨ra, had, ap, fl, hkeys, heq, rfl⟩
          rcases sv with ⟨q2, h1, h2, ob, as2, hob, hq2, pp⟩ | ⟨h1, _⟩
          · have h25 := fl.same _ _ h2
            have hq25 := fl.same _ _ hq2
            refine ⟨_, rfl, sa, _, 3, .ref q2, rfl, rfl, SqT.of h25, at_of (j := 3) rfl rfl, q2, rfl, ⟨_, sqF hq25⟩, ?_⟩
            refine for_tup (K := K) (a := q2) (xs := as2.map V.ref) (fun j σ H6 => ∃ v9 v10, Fill H H4 q ra rs st.key (fillR had (st.prs.take j)) H6 ∧ σ = [some (.ref dp), some (.ref p), some (.ref sa), some (.ref am), some (.str (kdn st.kd)), some (.str st.tab), some (.int st.key), some (.ref fp), none, v9, v10])
              ⟨none, none, fl, rfl⟩ (fun j σ H6 _ h => ?_) ?_ ?_
            · obtain ⟨_, _, h, _⟩ := h
              exact sqF (h.same _ _ hq2)
            · rintro j y σ H6 hj ⟨v9, v10, f6, rfl⟩
              obtain ⟨u, hu, rfl⟩ := map_at hj
              obtain ⟨⟨nm, v⟩, hpr, hut⟩ := pAt pp hu
              have hut6 := f6.same _ _ hut
              have hB6q := f6.tab
              have tget : DGet H6 fp (.str st.tab) (some (.ref q)) := dget (k := .inr st.tab) (.inl (f6.keep fp (fun z => (List.nodup_cons.mp nd).1 (by rw [z]; exact foot_tab bm)) (fun z => (List.nodup_cons.mp nd).1 (List.mem_flatMap.mpr ⟨_, bm, List.mem_cons_of_mem _ z⟩)) _ hB.1)) hv
              have rget : DGet H6 q (.int st.key) (some (.ref ra)) := dget (k := .inl st.key) (.inl hB6q) (by rw [rowsK_get, get_put, if_pos rfl]; rfl)
              refine ⟨u, _, rfl, SqT.of hut6, rfl, _, _, rfl, _, _, rfl, rfl, ?_⟩
              have lrow : (rowK (fillR had (st.prs.take j))).length < sizeLine := by
                have e9 := congrArg List.length (fill_keys (cs := cs) hkeys (st.prs.take j) fun x hx => by
                  obtain ⟨c, hc, ec, _⟩ := hp x (List.mem_of_mem_take hx)
                  exact List.mem_map.mpr ⟨c, hc, ec⟩)
                rw [List.length_map, List.length_map] at e9
                have c5 := cok.few.2
                unfold rowK
                rw [List.length_map, sizeLine_eq]
                omega
              refine ⟨_, rfl, _, rfl, _, rfl, fp, _, rfl, tget, _, rfl, q, _, rfl, rget, _, rfl, ra, _, rfl, DPut.k (k := .inr nm) f6.row lrow, _, _, ?_, rfl⟩
              rw [take_snoc hpr, fill_snoc]
              exact f6.wr ap nm v
            · rintro σ H6 ⟨v9, v10, f6, rfl⟩
              rw [List.length_map, pp.length, List.take_length] at f6
              have efill : fillR had st.prs = rowNew cs had st.prs := fill_row hkeys cok.nd (fun x hx => by
                obtain ⟨c, hc, ec, _⟩ := hp x hx
                exact List.mem_map.mpr ⟨c, hc, ec⟩) sok.nd
              rw [efill] at f6
              have hBe : TabsD H6 fp (edA B st.tab q (put rs st.key (ra, rowNew cs had st.prs))) := TabsD.edit hB ndB nd hgB f6.rows f6.keep
              have hmEd : plR (put rs st.key (ra, rowNew cs had st.prs)) = mEd d st (plR rs) := by
                rw [plR_put, heq st.prs]
                unfold mEd
                rw [ec]
                cases z : st.kd with
                | drop => exact absurd z ekd
                | put => rfl
                | set => rfl
              have epl : plT (edA B st.tab q (put rs st.key (ra, rowNew cs had st.prs))) = mTabs d (plT As) st := by
                rw [edA_plT (f := mEd d st) ndB hgB hmEd, ep]
                rfl
              have tok9 : TabsOk d 60 (mTabs d (plT As) st) := tabs_made dok sok tok
              have egr : get (rowsOf (mTabs d (plT As) st) st.tab) st.key = some (rowNew cs had st.prs) := by
                unfold mTabs
                rw [edT_rows gT, ← hmEd, plR_put, get_put, if_pos rfl]
              have w2 : mWhy d (plT As) st = mRow d (mTabs d (plT As) st) st.tab st.key := by
                rw [why_two hk']
                unfold mWhy2
                cases z : st.kd with
                | drop => exact absurd z ekd
                | put => rfl
                | set => rfl
              refine ⟨_, rfl, _, rfl, _, rfl, _, rfl, dp, fp, d, edA B st.tab q (put rs st.key (ra, rowNew cs had st.prs)), st.tab, st.key, cs, rowNew cs had st.prs, rfl, hd.keep (.of_same f6.same), ⟨dok, hBe, by rw [epl]; exact tok9⟩, hm, by rw [epl]; exact egr, fun H7 am7 s7 ham7 => ?_⟩
              rw [epl] at ham7
              refine ⟨_, rfl, Nat.zero_le _, fun t1 ht1 => ?_⟩
              obtain ⟨dr, dpr, shr, eqr⟩ := dp_ref (K := K) (row_ok dok (mTabs d (plT As) st) hm st.key) (at_new (u := .tup []) ham7 ht1)
              refine ⟨dr, .tuple [], dpr, .tup (SqT.of upd_same) .nil, shr, rfl, _, rfl, ?_⟩
              rw [eqr]
              have s8 : Same H6 (upd H7 t1 (.tup [])) := s7.trans (Same.new ht1)
              have ham8 := at_new (u := .tup []) ham7 ht1
              generalize upd H7 t1 (.tup []) = H8 at s8 ham8 ⊢
              have s08 := f6.same.trans s8
              cases hh : decide (mRow d (mTabs d (plT As) st) st.tab st.key = []) with
              | true =>
                have e0 : mWhy d (plT As) st = [] := w2.trans (of_decide_eq_true hh)
                refine iteT ⟨Nat.zero_le _, fun e he => ⟨_, rfl, by show 2 ≤ sizeLine; decide, fun t ht => ?_⟩⟩
                have s9 : Same H8 (upd (upd H8 e (.tup [])) t (.tup [.ref e, .ref fp])) := (Same.new he).trans (Same.new ht)
                refine k _ t e fp _ (s08.trans s9) upd_same ?_ (hBe.keep (.of_same (s8.trans s9))) ?_
                · rw [done_none e0]
                  exact at_new upd_same ht
                · rw [done_none e0]
                  exact epl
              | false =>
                have hh' := of_decide_eq_false hh
                have e0 := done_why w2 hh'
                refine iteF ⟨_, rfl, _, rfl, by show 2 ≤ sizeLine; decide, fun t ht => ?_⟩
                have s9 : Same H8 (upd H8 t (.tup [.ref am7, .ref p])) := Same.new ht
                refine k _ t am7 p As (s08.trans s9) upd_same ?_ (tabs.keep (.of_same (s08.trans s9))) ?_
                · rw [e0]
                  exact at_new ham8 ht
                · rw [e0]
          · exact absurd h1 ekd
end
end K16

/-! K16Y: the tables made right, and the law -/
namespace K16
open PySem PySem.Spec PyProof.Rows L2 He
section
variable {P : Program} {w : World} {K : Fr} {mg : Str → Option Value} {base : Heap}
def spLRight : Sp := fun vs H Q _ => ∃ (st c dp : Addr) (d : Desc), vs = [.ref st, .ref dp, .int 12] ∧ StAt H st c ∧ DescL H dp d ∧ DescOk d ∧
  ∀ H' p B, Keep H H' → StAt H' st c → TabsD H' p B → TabsOk d 12 (plT B) → Q (.ref p) H'
theorem tabs_empty (d : Desc) : TabsOk d 0 (d.map fun e => (e.1, [])) := by
  induction d with
  | nil => exact .nil
  | cons e d ih => exact .cons ⟨rfl, ⟨List.nodup_nil, Nat.le_refl _, nofun⟩⟩ ih
theorem sc_l_right : FnScope n_l_right p_l_right (defScope s_l_right) := ⟨rfl, rfl, rfl, by decide +kernel, rfl, by decide +kernel, by decide +kernel⟩
theorem ok_l_right (T : Txt K mg w) (O_l_nothing : OkD P w K mg base CX0 1 (a_l_nothing K) p_l_nothing spLNothing) (O_l_statement : OkD P w K mg base CX0 5 (a_l_statement K) p_l_statement spStatement) (O_l_done : OkD P w K mg base CX0 4 (a_l_done K) p_l_done spLDone)
    (F : ∃ fd, FnT K "_law_right" "_law_right" s_l_right [] (a_l_right K) fd) : OkD P w K mg base CX0 6 (a_l_right K) p_l_right spLRight := by
  refine okD F sc_l_right (fun _ _ _ _ _ _ us hl => match us, hl with | [_, _, _], _ => rfl) (fun vs H Q E h => ?_) (fun cdv A outer s H vs Q E hr h => ?_)
  · obtain ⟨st, c, dp, d, rfl, _⟩ := h
    rfl
  · obtain ⟨st, c, dp, d, rfl, hs, hd, dok, k⟩ := h
    refine ⟨_, (pss_cons (ps_set (i := 3) sc_l_right.nd rfl (Or.inl rfl) (pe_own O_l_nothing (hr.mono (by decide)) T.g__law_nothing (pa_cons (pv 1) pa_nil)))
      (pss_cons (ps_for PassesOwn.never rfl (pi_range1 (by rfl) T.z_range (pa_cons (pv 2) pa_nil)) (pg_name (i := 4) sc_l_right.nd rfl (Or.inl rfl)) (pss_cons (ps_set (i := 5) sc_l_right.nd rfl (Or.inl rfl) (pe_own O_l_statement (hr.mono (by decide)) T.g__law_statement (pa_cons (pv 0) (pa_cons (pv 1) pa_nil))))
        (pss_one (ps_if (pt_mid (PW.pt (pw_or (pt_cmpR op_ne (pe_ix ix_tup (pv 5) pe_int (fun _ _ => rfl)) pe_str (nomark _)) (pw_or1 (pt_cmpR op_lt (pe_callB call_lenD (by rfl) T.z_len (by decide +kernel) (pa_cons (pe_dget (hu_of hr) (pv 3) (pe_ix ix_tup (pv 5) pe_int (fun _ _ => rfl)) (fun _ _ => rfl)) pa_nil)) pe_int (nomark _)))))) (pss_one (ps_set (i := 3) sc_l_right.nd rfl (Or.inl rfl) (pe_ix ix_tup (pe_own O_l_done (hr.mono (by decide)) T.g__law_done (pa_cons (pv 1) (pa_cons (pv 3) (pa_cons (pv 5) pa_nil)))) pe_int (fun _ _ => rfl)))) pss_nil))))
      (pss_one (ps_ret (pv 3))))), ?_⟩
    refine ⟨_, rfl, dp, d, rfl, hd, dok, fun H1 p nt => ?_⟩
    obtain ⟨s1, B0, hB0, ep0, _, _⟩ := nt
    have k1 : Keep H H1 := .of_same s1
    have tok0 : TabsOk d 0 (plT B0) := by
      rw [ep0]
      exact tabs_empty d
    refine ⟨_, rfl, 12, rfl, by decide, by decide, ?_⟩
    refine for_range (lo := 0) (n := 12) (fun i σ H2 => ∃ (p2 : Addr) (B : List ATab) (v4 v5 : Option V), σ = [some (.ref st), some (.ref dp), some (.int 12), some (.ref p2), v4, v5] ∧ Keep H H2 ∧ StAt H2 st c ∧ TabsD H2 p2 B ∧ TabsOk d i (plT B))
      ⟨p, B0, none, none, rfl, k1, hs.same s1, hB0, tok0⟩ ?_ ?_
    · rintro i σ H2 hi ⟨p2, B, v4, v5, rfl, k2, s2, hB, tok⟩
      refine ⟨_, rfl, _, rfl, st, c, dp, d, rfl, s2, hd.keep k2, dok, fun H3 sa stm k3 s3 sv sok => ?_⟩
      obtain ⟨r0, hsa, hr0⟩ := sv.at_
      obtain ⟨cs, hm, hp⟩ := sok.has
      have hB3 := hB.keep k3
      have tok12 : TabsOk d 59 (plT B) := tok.mono (by omega)
      refine ⟨fun _ H4 => H4 = H3, ?_, ?_⟩
      · refine ⟨_, rfl, sa, _, 0, .str (kdn stm.kd), rfl, rfl, SqT.of hsa, at_of (j := 0) rfl rfl, ?_⟩
        refine ⟨rfl, _, rfl, ite2 (fun _ => rfl) fun _ => ?_⟩
        obtain ⟨q, rs, bm, hgB, hv, hrs, er, rok⟩ := tabD_at dok hB3 tok12 hm
        refine ⟨_, rfl, _, rfl, sa, _, 1, .str stm.tab, rfl, rfl, SqT.of hsa, at_of (j := 1) rfl rfl, p2, _, rfl, dget (k := .inr stm.tab) (.inl hB3.1) hv, q, _, rfl, hrs.1, _, _, rfl, rfl, _, rfl, rfl⟩
      · rintro b H4 rfl
        cases b with
        | true =>
          refine ifT rfl ?_
          refine ⟨_, rfl, _, rfl, _, rfl, dp, p2, sa, d, B, stm, rfl, hd.keep (k2.trans k3), dok, hB3, tok12, sv, sok, fun H5 t rt p' C s5 ht _ hC eC => ?_⟩
          exact ⟨t, _, 1, .ref p', rfl, rfl, SqT.of ht, at_of (j := 1) rfl rfl, p', C, _, _, rfl, (k2.trans k3).trans (.of_same s5), s3.same s5, hC, by rw [eC]; exact done_ok dok sok tok⟩
        | false =>
          exact ifF rfl ⟨p2, B, _, _, rfl, k2.trans k3, s3, hB3, tok.mono (Nat.le_succ _)⟩
    · rintro σ H2 ⟨p2, B, v4, v5, rfl, k2, s2, hB, tok⟩
      exact ⟨_, rfl, k _ _ _ k2 s2 hB tok⟩
end
end K16

/-! K16Za: what the code tells, caught -/
namespace K16
open PySem PySem.Spec PyProof.Rows L2 He
/-- a call of _law_refusal on the handled exception -/
def tGot (K : Fr) (a : Addr) (cls : Value) (d : Option Addr) (t : TA) : TE := fun σ H Q => t σ H fun vs H1 => vs = [.ref a] ∧ ∃ (nm : Str) (fs : List (Str × V)) (r : List V) (t1 t2 t3 : V) (dd : Addr),
  Ex t1 t2 t3 nm fs r ∧ cls = .ref (ga K nm) ∧ d = some dd ∧ H1 dd = some (.xd fs) ∧ ∀ H' t, Same H1 H' → H' t = some (.tup r) → Q (.ref t) H'
section
variable {X : Cx} {k : Nat} {f : Addr} {ps : List Str} {sp : Sp} {x : Str} {p pos : Pos} {e : Expr} {es : List Expr} {t : TA}
theorem pe_ownS {W : WX} (O : OkD X.prog X.w X.K X.mg X.base (L2.CX X.prog X.w) k f ps sp) (hr : Room k X.A) (hm : X.mg x = some (.ref f)) (tk : Takes X W) (ha : PA X (e :: es) t) (hg : Gl X x := by rfl)
    (hdb : (x == ("__debug__" : Str)) = false := by decide) (he : starEach (e :: es) X.env = (false, eval e X.env) :: starEach es X.env := by rfl) (hpl : (backTo pos (starEach es X.env)).any (·.1) = false := by rfl) :
    PE X (.Call (.Name x p) (e :: es) [] pos) (tCallS sp (WE W) t) := by
  obtain ⟨⟨fd, G, b⟩, kp⟩ := O
  exact pe_callS G hr hg hm kp b (passAt tk) ha hdb he hpl
theorem pe_got (T : Txt X.K X.mg X.w) {fd : FuncData} (F : FnT X.K "_law_refusal" "_law_refusal" s_l_refusal [] (a_l_refusal X.K) fd) {a : Addr} {oe : Obj} {cls : Value} {d : Option Addr} (hz : Zc cls d oe) (hf : ∃ vs, oe.data = .fields vs) (hp : (a, oe) ∈ X.pn)
    (hr : L2H.RoomH 1 X.A) (ha : PA X (e :: es) t) (hg : Gl X "_law_refusal" := by rfl)
    (hdb : (("_law_refusal" : Str) == ("__debug__" : Str)) = false := by decide) (he : starEach (e :: es) X.env = (false, eval e X.env) :: starEach es X.env := by rfl) (hpl : (backTo pos (starEach es X.env)).any (·.1) = false := by rfl) :
    PE X (.Call (.Name "_law_refusal" p) (e :: es) [] pos) (tGot X.K a cls d t) := by
  refine ⟨fun pins s σ H Q I h => ?_⟩
  refine wpAny_Call_Name_kw (ld_glob I hg T.g__law_refusal ?_ hdb)
  refine PySem.W.callWith_K (h₀ := X.base) I.ok.mod.kin F.kp (thn (ha.run pos pins s σ H _ I h) fun us s1 ⟨vs, H1, I1, r, q⟩ => ⟨I1.kIn, ?_⟩) he hpl
  obtain ⟨rfl, nm, fs, rr, t1, t2, t3, dd, ex, rfl, rfl, hx, kk⟩ := q
  obtain ⟨u, rfl, ru⟩ : ∃ u, us = [u] ∧ RelV (.ref a) u := by
    cases r with
    | cons a b =>
      cases b with
      | nil => exact ⟨_, rfl, a⟩
  obtain rfl : u = Value.ref a := ru
  have P1 := I1.pin (a, oe) (List.mem_append_left _ hp)
  have hpin : L2H.PinOk X.stack H1 s1 (a, oe) := ⟨P1.1, P1.2.1, fun hm => (List.mem_cons.mp (I1.stkSub a hm)).elim P1.2.2.1 P1.2.2.2.1, P1.2.2.2.2⟩
  refine wpAny_call (codeAny_mono (run_refusal T F ex ⟨hz, hf⟩ hx hr hpin I1.env0 kk) fun r s' hq => ?_)
  cases r with
  | error e => exact False.elim hq
  | ok fl =>
    cases fl with
    | ret u => exact I1.after hq
    | next => exact False.elim hq
    | brk => exact False.elim hq
    | cont => exact False.elim hq
end
section
variable {P : Program} {w : World} {K : Fr} {mg : Str → Option Value} {base : Heap}
def spLTold (K : Fr) : Sp := fun vs H Q _ => ∃ (x p sa : Addr) (d : Desc) (As : List ATab) (s : Stm), vs = [.ref x, .ref p, .ref sa] ∧ SchI K H x d ∧ DescOk d ∧ TabsD H p As ∧ TabsOk d 59 (plT As) ∧ StmV H sa s ∧ StmOk d s ∧
  ∀ H' t rt p' B, Same H H' → H' t = some (.tup [.ref rt, .ref p']) → H' rt = some (.tup (mDone d (plT As) s).1) → TabsD H' p' B → plT B = (mDone d (plT As) s).2 → Q (.ref t) H'
theorem sc_l_told : FnScope n_l_told p_l_told (defScope s_l_told) := ⟨rfl, rfl, rfl, by decide +kernel, rfl, by decide +kernel, by decide +kernel⟩
theorem ok_l_told (T : Txt K mg w) (O_done : OkD P w K mg base (L2.CX P w) 5 (a_done K) p_done (spDone K)) {fr : FuncData} (FR : FnT K "_law_refusal" "_law_refusal" s_l_refusal [] (a_l_refusal K) fr)
    (F : ∃ fd, FnT K "_law_told" "_law_told" s_l_told [] (a_l_told K) fd) : OkD P w K mg base CX0 6 (a_l_told K) p_l_told (spLTold K) := by
  refine okD F sc_l_told (fun _ _ _ _ _ _ us hl => match us, hl with | [_, _, _], _ => rfl) (fun vs H Q E h => ?_) (fun cdv A outer s H vs Q E hr h => ?_)
  · obtain ⟨x, p, sa, d, As, st, rfl, _⟩ := h
    rfl
  · obtain ⟨x, p, sa, d, As, st, rfl, sch, dok, tabs, tok, sv, sok, k⟩ := h
    refine ⟨_, (pss_cons (ps_set (i := 3) sc_l_told.nd rfl (Or.inl rfl) (pv 1))
      (pss_cons (ps_set (i := 4) sc_l_told.nd rfl (Or.inl rfl) (pe_tup pa_nil))
      (pss_cons (ps_try_as (i := 5) (tb := fun W => tAsg (tCallS (spDone K) (WE W) (tCons (tVar 0) (tCons (tVar 1) (tCons (tVar 2) tNil)))) (gName 3)) (ts := fun a cls d => tAsg (tGot K a cls d (tCons (tVar 5) tNil)) (gName 4)) (Wout := fun _ _ _ _ => False) rfl rfl sc_l_told.nd rfl rfl ⟨rfl, by decide, Or.inl T.g_HoldError⟩ takes0 (fun W pn xe tk _ => pss_one (ps_set (i := 3) sc_l_told.nd rfl (Or.inl rfl) (by exact (pe_ownS O_done (hr.mono (show 5 ≤ 5 by decide)) T.g_done tk (by exact (pa_cons (pv 0) (pa_cons (pv 1) (pa_cons (pv 2) pa_nil)))))))) (fun a oe cls d pn hz hf => pss_one (ps_set (i := 4) sc_l_told.nd rfl (Or.inl rfl) (by exact (pe_got T FR hz hf List.mem_cons_self ⟨(Room.mono hr (show 1 ≤ 5 by decide)).dp, (Room.mono hr (show 1 ≤ 5 by decide)).un⟩ (by exact (pa_cons (pv 5) pa_nil)))))))
      (pss_one (ps_ret (pe_tup (pa_cons (pv 4) (pa_cons (pv 3) pa_nil)))))))), ?_⟩
    refine ⟨_, rfl, Nat.zero_le _, fun t0 ht0 => ?_⟩
    have s0 : Same H (upd H t0 (.tup [])) := Same.new ht0
    generalize eH0 : upd H t0 (.tup []) = H0 at s0 ⊢
    have ht : H0 t0 = some (.tup []) := by
      rw [← eH0]
      exact upd_same
    refine ⟨_, rfl, _, rfl, _, rfl, x, p, sa, d, As, st, rfl, sch.keep (.of_same s0), dok, tabs.keep (.of_same s0), tok, sv.same s0, sok, ?_, ?_⟩
    · intro e0 H1 p' B s1 hB eB
      refine ⟨_, rfl, _, rfl, by show 2 ≤ sizeLine; decide, fun t2 ht2 => ?_⟩
      have s2 : Same H1 (upd H1 t2 (.tup [.ref t0, .ref p'])) := Same.new ht2
      refine k _ t2 t0 p' B ((s0.trans s1).trans s2) upd_same ?_ (hB.keep (.of_same s2)) ?_
      · rw [done_none e0]
        exact s2 _ _ (s1 _ _ ht)
      · rw [done_none e0]
        exact eB
    · intro rr er nr cls dd H1 ⟨nm, t1, t2, t3, fs, d0, ex, ec, ed, s1, hd0⟩
      refine ⟨true, ?_, fun _ a ha => ?_, fun z => nomatch z⟩
      · rw [ec]
        cases ex
        · exact T.e_Taken
        · exact T.e_NoRow
        · exact T.e_Bare
        · exact T.e_Missing
        · exact T.e_Twice
        · exact T.e_Held
      · refine ⟨_, rfl, rfl, nm, fs, rr, t1, t2, t3, d0, ex, ec, ed, hd0, fun H2 rt s2 hrt => ?_⟩
        refine ⟨_, rfl, _, rfl, by show 2 ≤ sizeLine; decide, fun t2 ht2 => ?_⟩
        have s3 : Same H2 (upd H2 t2 (.tup [.ref rt, .ref p])) := Same.new ht2
        have s9 := ((s0.trans s1).trans s2).trans s3
        refine k _ t2 rt p As s9 upd_same ?_ (tabs.keep (.of_same s9)) ?_
        · rw [done_why er nr]
          exact s3 _ _ hrt
        · rw [done_why er nr]
end
end K16

/-! K16Eq: equality of tables, of pairs of a refusal and tables -/
namespace K16
open PySem PySem.Spec PyProof.Rows L2 He
/-! ### the plain part -/
theorem wok_flat {kd : Str} {v : V} (h : v = .non ∨ WOk kd v) : flatB v = true := by
  rcases h with rfl | h
  · rfl
  · rcases h with ⟨_, i, rfl⟩ | ⟨_, t, rfl, _⟩ | ⟨_, b, rfl⟩ | ⟨_, i, rfl, _⟩ <;> rfl
theorem eqTabs_refl {d : Desc} {n : Nat} {T : Tabs} (h : TabsOk d n T) : EqTabs T T := by
  unfold EqTabs
  have : ∀ (l : Tabs), (∀ x ∈ l, (x.2.map (·.1)).Nodup) → Paired (fun (x y : Str × Rows) => x.1 = y.1 ∧ (x.2.map (·.1)).Nodup ∧ EqRows x.2 y.2) l l := by
    intro l
    induction l with
    | nil => exact fun _ => .nil
    | cons a l ih => exact fun g => .cons ⟨rfl, g a List.mem_cons_self, rfl, fun _ => rfl⟩ (ih fun x hx => g x (List.mem_cons_of_mem _ hx))
  refine this T fun x hx => ?_
  obtain ⟨i, hi⟩ := List.getElem?_of_mem hx
  obtain ⟨e, he, ee, ro⟩ := pAt2 h hi
  exact ro.nd
theorem tabs_eqR {K : Fr} {H : Hp} {p1 p2 : Addr} {A B : List ATab} {d : Desc} {n m : Nat} (dok : DescOk d) (h1 : TabsD H p1 A) (h2 : TabsD H p2 B) (t1 : TabsOk d n (plT A)) (t2 : TabsOk d m (plT B)) (e : EqTabs (plT A) (plT B)) :
    ∃ ks ls, H p1 = some (.dK ks) ∧ H p2 = some (.dK ls) ∧ ks.length = ls.length ∧ ∀ p ∈ ks, ∃ u, valV ls p.1 = some u ∧ EqV K H 3 p.2 u := by
  have nd2 : (B.map (·.1)).Nodup := names_nd dok t2
  refine ⟨_, _, h1.1, h2.1, ?_, fun p hp => ?_⟩
  · have l := e.length
    unfold plT at l
    unfold tabsK
    rw [List.length_map, List.length_map] at l ⊢
    exact l
  · obtain ⟨t, ht, rfl⟩ := List.mem_map.mp hp
    obtain ⟨i, hi⟩ := List.getElem?_of_mem ht
    have hi1 : (plT A)[i]? = some (t.1, plR t.2.2) := by
      unfold plT
      rw [List.getElem?_map, hi]
      rfl
    obtain ⟨y, hy, en, ndr, er⟩ := pAt e hi1
    obtain ⟨t', ht', rfl⟩ := map_at hy
    have hb : t' ∈ B := List.mem_of_getElem? ht'
    have hg : get B t'.1 = some t'.2 := mem_get nd2 hb
    dsimp only at en ndr er
    obtain ⟨c, hc, ec, ro⟩ := pAt2 t1 hi1
    have cok := dok.ok c (List.mem_of_getElem? hc)
    dsimp only at ro ec
    refine ⟨.ref t'.2.1, ?_, .inr (.inr (.inr ⟨t.2.1, t'.2.1, _, _, rfl, rfl, (h1.2 t ht).1, (h2.2 t' hb).1, ?_, fun p hp => ?_⟩))⟩
    · show valV (tabsK B) (.inr t.1) = _
      rw [tabsK_get, en, hg]
      rfl
    · have l := er.1
      unfold plR at l
      unfold rowsK
      rw [List.length_map, List.length_map] at l ⊢
      exact l
    · obtain ⟨r, hr, rfl⟩ := List.mem_map.mp hp
      have hrm : (r.1, r.2.2) ∈ plR t.2.2 := List.mem_map.mpr ⟨r, hr, rfl⟩
      have g1 := mem_get ndr hrm
      rw [er.2, plR_get] at g1
      obtain ⟨⟨a2, row2⟩, g2, e2⟩ := Option.map_eq_some_iff.mp g1
      dsimp only at e2
      have g3 := get_mem g2
      have hrow := (h2.2 t' hb).2 _ g3
      have hrow1 := (h1.2 t ht).2 r hr
      dsimp only at hrow
      rw [e2] at hrow
      have ok := ro.ok _ hrm
      have ndk : (r.2.2.map (·.1)).Nodup := by
        have k := rowOk_keys ok
        dsimp only at k
        rw [k]
        exact cok.nd
      refine ⟨.ref a2, ?_, .inr (.inr (.inr ⟨r.2.1, a2, _, _, rfl, rfl, hrow1, hrow, rfl, fun p hp => ?_⟩))⟩
      · show valV (rowsK t'.2.2) (.inl r.1) = _
        rw [rowsK_get, g2]
        rfl
      · obtain ⟨q, hq, rfl⟩ := List.mem_map.mp hp
        have gq := mem_get ndk hq
        refine ⟨q.2, ?_, .inl ⟨rfl, ?_⟩⟩
        · show valV (rowK r.2.2) (.inr q.1) = _
          rw [rowK_get]
          exact gq
        · obtain ⟨c', _, _, z⟩ := rowOk_get ok gq
          exact wok_flat z
/-! ### == of two tuples of equal items -/
section
variable {X : Cx} {pins : List (Addr × Obj)} {σ : L2.St} {H : Hp} {s : Shared}
theorem tup_run (I : Inv X pins σ H s) {A : Around} {F : V → V → Prop} (hu : A.units < cLine) (ih : ∀ x y v u, F x y → RelV x v → RelV y u → SeqAt.EqP X.prog X.w A.in1 s v u true) {a b : Addr} {xs ys : List V} (ha : H a = some (.tup xs)) (hb : H b = some (.tup ys)) (hp : Paired F xs ys)
    (E Q : Value → Shared → Prop) (q : Q (.bool true) s) : wpAny (model X.prog X.w) A (richCompare .Eq (.ref a) (.ref b)) Q E s := by
  obtain ⟨us, r1, p1, _⟩ := I.tuple (SqT.of ha)
  obtain ⟨ws, r2, p2, _⟩ := I.tuple (SqT.of hb)
  have hsz : us.toArray.size = ws.toArray.size := by
    rw [List.size_toArray, List.size_toArray, ← r1.length, ← r2.length]
    exact Paired.length hp
  refine SeqAt.rcIn_tuples (e := fun _ => true) p1 p2 hu (fun j h1 h2 => ?_) ?_
  · have k := items_run ih hp r1 r2 j (by simpa using h1) (by simpa using h2)
    show SeqAt.EqP X.prog X.w A.in1 s _ _ true
    simpa using k
  · rw [show ((List.range (min us.toArray.size ws.toArray.size)).all fun _ => true) = true from List.all_eq_true.mpr fun _ _ => rfl, hsz]
    simpa using q
/-- one flat tuple twice, or EqV -/
def EqW (K : Fr) (H : Hp) (x y : V) : Prop := (∃ a b r, x = .ref a ∧ y = .ref b ∧ H a = some (.tup r) ∧ H b = some (.tup r) ∧ ∀ v ∈ r, flatB v = true) ∨ EqV K H 4 x y
theorem eqW_run (I : Inv X pins σ H s) (A : Around) (hu : A.units + 5 < cLine) (x y : V) (v u : Value) (h : EqW X.K H x y) (rx : RelV x v) (ry : RelV y u) : SeqAt.EqP X.prog X.w A s v u true := by
  rcases h with ⟨a, b, r, rfl, rfl, ha, hb, fl⟩ | h
  · obtain rfl : v = Value.ref a := rx
    obtain rfl : u = Value.ref b := ry
    by_cases e : a = b
    · subst e
      exact (SeqAt.EqAt.same _).eqP
    · refine SeqAt.eqP_refs e fun E Q q => tup_run (F := fun x y => x = y ∧ flatB x = true) I (by omega) (fun x y v u h rx ry => ?_) ha hb ?_ E Q q
      · obtain ⟨rfl, f⟩ := h
        exact (eqAt_same rx ry f).eqP
      · clear ha hb
        induction r with
        | nil => exact .nil
        | cons z r ih => exact .cons ⟨rfl, fl z List.mem_cons_self⟩ (ih fun v hv => fl v (List.mem_cons_of_mem _ hv))
  · exact eqV_run I 4 A (by omega) x y v u h rx ry
def rEqW (K : Fr) : R2 := fun x y H Q => ∃ a b xs ys, x = .ref a ∧ y = .ref b ∧ H a = some (.tup xs) ∧ H b = some (.tup ys) ∧ Paired (EqW K H) xs ys ∧ Q (.bl true) H
theorem op_eqW (hu : X.A.units + 64 < cLine) : OpR X (compareOp .Eq) (rEqW X.K) := by
  intro pins s σ H x y v u Q I rx ry h
  obtain ⟨a, b, xs, ys, rfl, rfl, ha, hb, hp, q⟩ := h
  obtain rfl : v = Value.ref a := rx
  obtain rfl : u = Value.ref b := ry
  exact tup_run (A := X.A) I (by omega) (eqW_run I X.A.in1 (by show X.A.units + 1 + 5 < cLine; omega)) ha hb hp _ _ ⟨.bl true, H, I, rfl, q⟩
/-! ### != of two dicts that are equal -/
def rNeV (K : Fr) : R2 := fun x y H Q => ∃ a b ks ls, x = .ref a ∧ y = .ref b ∧ H a = some (.dK ks) ∧ H b = some (.dK ls) ∧ ks.length = ls.length ∧ (∀ p ∈ ks, ∃ u, valV ls p.1 = some u ∧ EqV K H 3 p.2 u) ∧ Q (.bl false) H
theorem op_neV (hu : X.A.units + 64 < cLine) : OpR X (compareOp .NotEq) (rNeV X.K) := by
  intro pins s σ H x y v u Q I rx ry h
  obtain ⟨a, b, ks, ls, rfl, rfl, ha, hb, hl, hp, q⟩ := h
  obtain rfl : v = Value.ref a := rx
  obtain rfl : u = Value.ref b := ry
  obtain ⟨_, ya, va, ra, da⟩ := (show ObjOk X.prog X.w H s.heap a (.dK ks) from I.hok a _ ha)
  obtain ⟨_, yb, vb, rb, db⟩ := (show ObjOk X.prog X.w H s.heap b (.dK ls) from I.hok b _ hb)
  have hlen : va.length = vb.length := by rw [← ra.length, ← rb.length]; exact hl
  have hits : PySem.W.KeqHitsP X.prog X.w X.A.in1 s vb va true := hits_run (eqV_run I 3 X.A.in1 (by show X.A.units + 1 + 3 < cLine; omega)) rb ra hp
  refine wpAny_richCompare_same_room (op := .NotEq) da.typeIs db.typeIs PySem.F.slot_dict_ne
    (wpAny_call_entry PySem.F.slot_dict_ne da.typeIs PySem.F.entry_dict_ne ?_ (PySem.F.args_dict_ne_2 _ _)) (by omega)
  show wpAny _ _ (Builtin.Dict.dictSlotArgs "__ne__" ⟨[Value.ref a, Value.ref b], []⟩ >>= _) _ _ s
  refine wpAny_bind ?_
  unfold Builtin.Dict.dictSlotArgs
  refine wpAny_bind (PySem.wpAny_notOrdered_dict da.typeIs ?_)
  show wpAny _ _ (pure (Value.ref a, Value.ref b)) _ _ s
  refine wpAny_pure (wpAny_bind (wpAny_isInstance (T := "dict") db.typeIs PySem.F.sub_dict_dict ?_))
  simp only [Bool.not_true, if_false, Bool.false_eq_true]
  refine wpAny_bind (wpAny_pure (wpAny_bind (wpAny_pure (wpAny_bind (PySem.W.samePairsP ya yb da db (fun _ => hits) ?_)))))
  refine wpAny_pure ⟨_, rfl, (fun x => nomatch x), ?_⟩
  have e : (va.length == vb.length && true) = true := by simp [hlen]
  refine ⟨.bl false, H, I, ?_, q⟩
  rw [e]
  rfl
end
end K16

/-! K16Zb: a list of statements, by both -/
namespace K16
open PySem PySem.Spec PyProof.Rows L2 He
theorem okV_flat {v : V} (h : okV v) : flatB v = true := by
  cases v with
  | str s => rfl
  | int i => rfl
  | _ => exact h.elim
theorem why_ok {d : Desc} (dok : DescOk d) {s : Stm} (sok : StmOk d s) (T : Tabs) : ∀ v ∈ mWhy d T s, okV v := by
  obtain ⟨cs, hm, _⟩ := sok.has
  intro v hv
  unfold mWhy at hv
  split at hv
  · unfold mWhy2 at hv
    split at hv
    · split at hv
      · cases hv
      · rcases List.mem_cons.mp hv with rfl | hv
        · exact (show PyData.strOk "Held" = true by decide +kernel)
        · exact held_ok dok T s.tab s.key v hv
    · exact row_ok dok (mTabs d T s) hm s.key v hv
  · exact key_ok dok sok T v hv
theorem done_fst {d : Desc} {T : Tabs} {s : Stm} : (mDone d T s).1 = mWhy d T s := by
  unfold mDone
  split
  · rename_i e
    rw [e]
  · rfl
def outs (d : Desc) (T : Tabs) (ss : List Stm) : List (List V) × Tabs := ss.foldl (fun o s => (o.1 ++ [(mDone d o.2 s).1], (mDone d o.2 s).2)) ([], T)
theorem outs_snoc (d : Desc) (T : Tabs) (ss : List Stm) (s : Stm) : outs d T (ss ++ [s]) = ((outs d T ss).1 ++ [(mDone d (outs d T ss).2 s).1], (mDone d (outs d T ss).2 s).2) := by
  unfold outs
  rw [List.foldl_append]
  rfl
theorem outs_len (d : Desc) (T : Tabs) (ss : List Stm) : (outs d T ss).1.length = ss.length := by
  unfold outs
  have key : ∀ (l : List Stm) (o : List (List V) × Tabs), (l.foldl (fun o s => (o.1 ++ [(mDone d o.2 s).1], (mDone d o.2 s).2)) o).1.length = o.1.length + l.length := by
    intro l
    induction l with
    | nil => exact fun _ => rfl
    | cons a l ih =>
      intro o
      rw [List.foldl_cons, ih]
      simp only [List.length_append, List.length_cons, List.length_nil]
      omega
  rw [key]
  exact Nat.zero_add _
theorem TabsD.wrL {H : Hp} {p a : Addr} {B : List ATab} {xs : List V} {u : HO} (h : TabsD H p B) (e : H a = some (.lst xs)) : TabsD (upd H a u) p B :=
  ⟨upd_at h.1 e nofun, fun t ht => ⟨upd_at (h.2 t ht).1 e nofun, fun r hr => upd_at ((h.2 t ht).2 r hr) e nofun⟩⟩
section
variable {P : Program} {w : World} {K : Fr} {mg : Str → Option Value} {base : Heap}
def spLBoth (K : Fr) : Sp := fun vs H Q _ => ∃ (x dp p l : Addr) (d : Desc) (As : List ATab) (ss : List Stm) (as : List Addr), vs = [.ref x, .ref dp, .ref p, .ref l] ∧ SchI K H x d ∧ DescL H dp d ∧ DescOk d ∧ TabsD H p As ∧ TabsOk d 57 (plT As) ∧
  H l = some (.lst (as.map V.ref)) ∧ Paired (StmV H) as ss ∧ (∀ s ∈ ss, StmOk d s) ∧ ss.length ≤ 2 ∧
  ∀ H' t rl p' B rs, Same H H' → H' t = some (.tup [.ref rl, .ref p', .bl true]) → H' rl = some (.lst (rs.map V.ref)) → Paired (fun (r : Addr) v => H' r = some (.tup v)) rs (outs d (plT As) ss).1 → TabsD H' p' B → plT B = (outs d (plT As) ss).2 → Q (.ref t) H'
theorem sc_l_both : FnScope n_l_both p_l_both (defScope s_l_both) := ⟨rfl, rfl, rfl, by decide +kernel, rfl, by decide +kernel, by decide +kernel⟩
theorem ok_l_both (T : Txt K mg w) (O_l_copied : OkD P w K mg base CX0 1 (a_l_copied K) p_l_copied spCopied) (O_l_told : OkD P w K mg base CX0 6 (a_l_told K) p_l_told (spLTold K)) (O_l_done : OkD P w K mg base CX0 4 (a_l_done K) p_l_done spLDone)
    (F : ∃ fd, FnT K "_law_both" "_law_both" s_l_both [] (a_l_both K) fd) : OkD P w K mg base CX0 7 (a_l_both K) p_l_both (spLBoth K) := by
  refine okD F sc_l_both (fun _ _ _ _ _ _ us hl => match us, hl with | [_, _, _, _], _ => rfl) (fun vs H Q E h => ?_) (fun cdv A outer s H vs Q E hr h => ?_)
  · obtain ⟨x, dp, p, l, d, As, ss, as, rfl, _⟩ := h
    rfl
  · obtain ⟨x, dp, p, l, d, As, ss, as, rfl, sch, hd, dok, tabs, tok, hl, pss, sok, few, k⟩ := h
    refine ⟨_, (pss_cons (ps_set (i := 4) sc_l_both.nd rfl (Or.inl rfl) (pe_lst pa_nil))
      (pss_cons (ps_set (i := 5) sc_l_both.nd rfl (Or.inl rfl) (pe_own O_l_copied (hr.mono (by decide)) T.g__law_copied (pa_cons (pv 2) pa_nil)))
      (pss_cons (ps_set (i := 6) sc_l_both.nd rfl (Or.inl rfl) (pv 2))
      (pss_cons (ps_set (i := 7) sc_l_both.nd rfl (Or.inl rfl) pe_bl)
      (pss_cons (ps_for PassesOwn.never rfl (pi_list (pv 3)) (pg_name (i := 8) sc_l_both.nd rfl (Or.inl rfl)) (pss_cons (ps_asg (pe_own O_l_told (hr.mono (by decide)) T.g__law_told (pa_cons (pv 0) (pa_cons (pv 5) (pa_cons (pv 8) pa_nil)))) (pg_tup rfl (pgs_cons (pg_name (i := 9) sc_l_both.nd rfl (Or.inl rfl)) (pgs_cons (pg_name (i := 5) sc_l_both.nd rfl (Or.inl rfl)) pgs_nil))))
        (pss_cons (ps_set (i := 10) sc_l_both.nd rfl (Or.inl rfl) (pe_own O_l_done (hr.mono (by decide)) T.g__law_done (pa_cons (pv 1) (pa_cons (pv 6) (pa_cons (pv 8) pa_nil)))))
        (pss_cons (ps_set (i := 6) sc_l_both.nd rfl (Or.inl rfl) (pe_ix ix_tup (pv 10) pe_int (fun _ _ => rfl)))
        (pss_cons (ps_expr (pe_bm PySem.F.plainAttrs_list PySem.F.slot_list_append PySem.F.type_list_append mt_append (pv 4) (pa_cons (pv 9) pa_nil)))
        (pss_one (ps_set (i := 7) sc_l_both.nd rfl (Or.inl rfl) (pe_and (pv 7) (pe_one (pe_cmpR (op_eqW hr.units) (pe_tup (pa_cons (pv 9) (pa_cons (pv 5) pa_nil))) (pv 10) (nomark _)))))))))))
      (pss_one (ps_ret (pe_tup (pa_cons (pv 4) (pa_cons (pv 5) (pa_cons (pv 7) pa_nil))))))))))), ?_⟩
    refine ⟨Nat.zero_le _, fun rl hrl => ?_⟩
    have s0 : Same H (upd H rl (.lst [])) := Same.new hrl
    have e0 : upd H rl (.lst []) rl = some (.lst []) := upd_same
    generalize upd H rl (.lst []) = H0 at s0 e0 ⊢
    refine ⟨_, rfl, p, As, rfl, tabs.keep (.of_same s0), tkeys_of dok tok (by decide), fun H1 cp C s1 hC eC _ _ => ?_⟩
    have s01 := s0.trans s1
    refine ⟨_, rfl, ?_⟩
    refine ⟨_, rfl, l, rfl, ⟨_, SqL.of (s01 _ _ hl)⟩, ?_⟩
    refine for_list (K := K) (a := l) (xs := as.map V.ref) (fun i σ H2 => ∃ (tp up : Addr) (Bt Bu : List ATab) (rs : List Addr) (v8 v9 v10 : Option V), σ = [some (.ref x), some (.ref dp), some (.ref p), some (.ref l), some (.ref rl), some (.ref tp), some (.ref up), some (.bl true), v8, v9, v10] ∧
        Same H H2 ∧ H2 rl = some (.lst (rs.map V.ref)) ∧ Paired (fun (r : Addr) v => H2 r = some (.tup v)) rs (outs d (plT As) (ss.take i)).1 ∧ TabsD H2 tp Bt ∧ plT Bt = (outs d (plT As) (ss.take i)).2 ∧ TabsD H2 up Bu ∧ plT Bu = (outs d (plT As) (ss.take i)).2 ∧ TabsOk d (57 + i) (outs d (plT As) (ss.take i)).2)
      ⟨cp, p, C, As, [], none, none, none, rfl, s01, s1 _ _ e0, .nil, hC, eC, tabs.keep (.of_same s01), rfl, tok⟩ (fun i σ H2 _ h => ?_) ?_ ?_
    · obtain ⟨_, _, _, _, _, _, _, _, _, s2, _⟩ := h
      exact SqL.of (s2 _ _ hl)
    · rintro i y σ H2 hi ⟨tp, up, Bt, Bu, rs, v8, v9, v10, rfl, s2, hrl2, prs, hBt, et, hBu, eu, tk⟩
      obtain ⟨sa, hsa, rfl⟩ := map_at hi
      obtain ⟨st, hst, sv⟩ := pAt pss hsa
      have ok1 := sok st (List.mem_of_getElem? hst)
      have i2 : i < ss.length := lt_of_at hst
      have tk59 : TabsOk d 59 (outs d (plT As) (ss.take i)).2 := tk.mono (by omega)
      have hlen : (outs d (plT As) (ss.take i)).1.length = rs.length := prs.length.symm
      rw [take_snoc hst, outs_snoc]
      generalize eo : outs d (plT As) (ss.take i) = o at prs et eu tk tk59 hlen ⊢
      refine ⟨_, rfl, _, rfl, _, rfl, x, tp, sa, d, Bt, st, rfl, sch.keep (.of_same s2), dok, hBt, by rw [et]; exact tk59, sv.same s2, ok1, fun H3 t rt tp' Bt' s3 ht hrt hBt' et' => ?_⟩
      refine ⟨t, _, rfl, SqT.of ht, rfl, _, _, rfl, _, _, rfl, rfl, ?_⟩
      have s23 := s2.trans s3
      refine ⟨_, rfl, _, rfl, _, rfl, dp, up, sa, d, Bu, st, rfl, hd.keep (.of_same s23), dok, hBu.keep (.of_same s3), by rw [eu]; exact tk59, sv.same s23, ok1, fun H4 wt rt2 up' Bu' s4 hwt hrt2 hBu' eu' => ?_⟩
      refine ⟨_, rfl, wt, _, 1, .ref up', rfl, rfl, SqT.of hwt, at_of (j := 1) rfl rfl, ?_⟩
      have s24 := s23.trans s4
      have hrl4 := s4 _ _ (s3 _ _ hrl2)
      have few8 : rs.length < sizeLine := by
        have z : o.1.length ≤ 2 := by
          rw [← eo, outs_len, List.length_take]
          omega
        rw [sizeLine_eq]
        omega
      refine ⟨_, rfl, .inl ⟨rfl, _, SqL.of hrl4⟩, _, rfl, rl, _, _, rfl, rfl, hrl4, by rw [List.length_map]; exact few8, ?_⟩
      have s25 : Same H (upd H4 rl (.lst (rs.map V.ref ++ [.ref rt]))) := sWr s24 hrl
      have prs4 : Paired (fun (r : Addr) v => upd H4 rl (.lst (rs.map V.ref ++ [.ref rt])) r = some (.tup v)) rs o.1 := pMap prs fun a v z => upd_at (s4 _ _ (s3 _ _ z)) hrl4 nofun
      have hrt5 : upd H4 rl (.lst (rs.map V.ref ++ [.ref rt])) rt = some (.tup (mDone d (plT Bt) st).1) := upd_at (s4 _ _ hrt) hrl4 nofun
      have hrt25 : upd H4 rl (.lst (rs.map V.ref ++ [.ref rt])) rt2 = some (.tup (mDone d (plT Bu) st).1) := upd_at hrt2 hrl4 nofun
      have hwt5 : upd H4 rl (.lst (rs.map V.ref ++ [.ref rt])) wt = some (.tup [.ref rt2, .ref up']) := upd_at hwt hrl4 nofun
      have hrl5 : upd H4 rl (.lst (rs.map V.ref ++ [.ref rt])) rl = some (.lst (rs.map V.ref ++ [.ref rt])) := upd_same
      have hBt5 : TabsD (upd H4 rl (.lst (rs.map V.ref ++ [.ref rt]))) tp' Bt' := (hBt'.keep (.of_same s4)).wrL hrl4
      have hBu5 : TabsD (upd H4 rl (.lst (rs.map V.ref ++ [.ref rt]))) up' Bu' := hBu'.wrL hrl4
      generalize upd H4 rl (.lst (rs.map V.ref ++ [.ref rt])) = H5 at s25 prs4 hrt5 hrt25 hwt5 hrl5 hBt5 hBu5 ⊢
      rw [et] at et' hrt5
      rw [eu] at eu' hrt25
      have tok1 := done_ok dok ok1 tk
      refine ⟨_, rfl, true, rfl, ifT rfl ⟨_, rfl, _, rfl, by show 2 ≤ sizeLine; decide, fun t2 ht2 => ?_⟩⟩
      have s6 : Same H5 (upd H5 t2 (.tup [.ref rt, .ref tp'])) := Same.new ht2
      obtain ⟨ks, ls, hk, hl2, len, hit⟩ := tabs_eqR (K := K) dok (hBt5.keep (.of_same s6)) (hBu5.keep (.of_same s6)) (by rw [et']; exact tok1) (by rw [eu']; exact tok1) (by rw [et', eu']; exact eqTabs_refl tok1)
      refine ⟨_, rfl, t2, wt, _, _, rfl, rfl, upd_same, s6 _ _ hwt5, .cons (.inl ⟨rt, rt2, _, rfl, rfl, s6 _ _ hrt5, s6 _ _ hrt25, fun v hv => ?_⟩) (.cons (.inr (.inr (.inr (.inr ⟨tp', up', ks, ls, rfl, rfl, hk, hl2, len, hit⟩)))) .nil), ?_⟩
      · rw [done_fst] at hv
        exact okV_flat (why_ok dok ok1 _ v hv)
      · refine ⟨tp', up', Bt', Bu', rs ++ [rt], _, _, _, rfl, s25.trans s6, ?_, ?_, hBt5.keep (.of_same s6), et', hBu5.keep (.of_same s6), eu', tok1⟩
        · rw [List.map_append]
          exact s6 _ _ hrl5
        · exact pSnoc (pMap prs4 fun _ _ z => s6 _ _ z) (s6 _ _ hrt5)
    · rintro σ H2 ⟨tp, up, Bt, Bu, rs, v8, v9, v10, rfl, s2, hrl2, prs, hBt, et, hBu, eu, tk⟩
      rw [List.length_map, pss.length, List.take_length] at prs et
      refine ⟨_, rfl, _, rfl, _, rfl, by show 3 ≤ sizeLine; decide, fun t ht => ?_⟩
      have s3 : Same H2 (upd H2 t (.tup [.ref rl, .ref tp, .bl true])) := Same.new ht
      exact k _ t rl tp Bt rs (s2.trans s3) upd_same (s3 _ _ hrl2) (pMap prs fun _ _ z => s3 _ _ z) (hBt.keep (.of_same s3)) et
end
end K16

/-! K16Zc: the law -/
namespace K16
open PySem PySem.Spec PyProof.Rows L2 He
section
variable {P : Program} {w : World} {K : Fr} {mg : Str → Option Value} {base : Heap}
theorem slice13 {K : Fr} {H : Hp} {sa : Addr} {s : Stm} {Z : V → Hp → Prop} (h : StmV H sa s) (main : ∀ a H1, Same H H1 → H1 a = some (.tup [.str s.tab, .int s.key]) → Z (.ref a) H1) : rSlA K (.ref sa) (some 1) (some 3) H Z := by
  obtain ⟨r, hsa, hr⟩ := h.at_
  have ec : cutV (.str (kdn s.kd) :: .str s.tab :: .int s.key :: r) (some 1) (some 3) = [.str s.tab, .int s.key] := by
    cases r with
    | nil => rfl
    | cons a r =>
      cases r with
      | nil => rfl
      | cons b r => exact absurd hr (by simp)
  refine ⟨sa, _, rfl, SqT.of hsa, fun hw => ?_, fun _ p hp => ?_⟩
  · obtain ⟨h1, _⟩ := hw
    exfalso
    cases r with
    | nil => exact absurd h1 (by show ¬ HT.sIx 3 0 (some 1) = 0; decide)
    | cons a r =>
      cases r with
      | nil => exact absurd h1 (by show ¬ HT.sIx 4 0 (some 1) = 0; decide)
      | cons b r => exact absurd hr (by simp)
  · rw [ec]
    exact main p _ (Same.new hp) upd_same
theorem dp_place {K : Fr} {H : Hp} {a : Addr} {t : Str} {k : Int} (ht : PyData.strOk t = true) (h : H a = some (.tup [.str t, .int k])) : Dp K H (.ref a) (.tuple [.str t, .int k]) ∧ SeqAt.shaped (.tuple [.str t, .int k]) = true := by
  refine ⟨.tup (SqT.of h) (.cons (.str t) (.cons (.int k) .nil)), ?_⟩
  simp [SeqAt.shaped, PyData.canLay0, PyData.canLayAll0, PyData.depth, PyData.depthAll, ht]
theorem dp_two {K : Fr} {H : Hp} {l a b : Addr} {v1 v2 : List V} (h1 : ∀ v ∈ v1, okV v) (h2 : ∀ v ∈ v2, okV v) (hl : H l = some (.lst [.ref a, .ref b])) (ha : H a = some (.tup v1)) (hb : H b = some (.tup v2)) :
    ∃ dd, Dp K H (.ref l) dd ∧ SeqAt.shaped dd = true ∧ PyData.eqv dd (.list [.tuple [], .tuple []]) = (decide (v1 = []) && decide (v2 = [])) := by
  obtain ⟨d1, p1, q1, r1, s1⟩ := dp_all v1 h1
  obtain ⟨d2, p2, q2, r2, s2⟩ := dp_all v2 h2
  refine ⟨.list [.tuple d1, .tuple d2], .lst (SqL.of hl) (.cons (.tup (SqT.of ha) (p1 K H)) (.cons (.tup (SqT.of hb) (p2 K H)) .nil)), ?_, ?_⟩
  · simp [SeqAt.shaped, PyData.canLay0, PyData.canLayAll0, PyData.depth, PyData.depthAll, q1, q2, r1, r2]
  · cases v1 with
    | nil =>
      rw [List.length_eq_zero_iff.mp s1]
      cases v2 with
      | nil =>
        rw [List.length_eq_zero_iff.mp s2]
        rfl
      | cons x y =>
        cases d2 with
        | nil => cases s2
        | cons a b => rfl
    | cons x y =>
      cases d1 with
      | nil => cases s1
      | cons a b => rfl
theorem outs_two (d : Desc) (T : Tabs) (a b : Stm) : outs d T [a, b] = ([(mDone d T a).1, (mDone d (mDone d T a).2 b).1], (mDone d (mDone d T a).2 b).2) := rfl
theorem outs_none {d : Desc} {T : Tabs} {a b : Stm} (h1 : (mDone d T a).1 = []) (h2 : (mDone d (mDone d T a).2 b).1 = []) : (outs d T [a, b]).2 = mTabs d (mTabs d T a) b := by
  rw [done_fst] at h1 h2
  have e1 := done_none h1
  rw [e1] at h2
  dsimp only at h2
  rw [outs_two, e1]
  dsimp only
  rw [done_none h2]
theorem outs_ok {d : Desc} (dok : DescOk d) {a b : Stm} (oa : StmOk d a) (ob : StmOk d b) (T : Tabs) : (∀ v ∈ (mDone d T a).1, okV v) ∧ ∀ v ∈ (mDone d (mDone d T a).2 b).1, okV v := by
  rw [done_fst, done_fst]
  exact ⟨why_ok dok oa _, why_ok dok ob _⟩
def spLaw (K : Fr) : Sp := fun vs H Q _ => ∃ (p : Addr) (ns : List Int), vs = [.ref p] ∧ SqL K H p (ns.map V.int) ∧ ns.length ≤ 63 ∧ ∀ H', Q (.bl true) H'
theorem sc_law : FnScope n_law p_law (defScope s_law) := ⟨rfl, rfl, rfl, by decide +kernel, rfl, by decide +kernel, by decide +kernel⟩
theorem ok_law (T : Txt K mg w) (O_l_fresh : OkD P w K mg base CX0 1 (a_l_fresh K) p_l_fresh (spFresh K)) (O_l_desc : OkD P w K mg base CX0 4 (a_l_desc K) p_l_desc spDesc) (O_l_schema : OkD P w K mg base CX0 6 (a_l_schema K) p_l_schema (spSchema K)) (O_l_right : OkD P w K mg base CX0 6 (a_l_right K) p_l_right spLRight)
    (O_l_statement : OkD P w K mg base CX0 5 (a_l_statement K) p_l_statement spStatement) (O_l_both : OkD P w K mg base CX0 7 (a_l_both K) p_l_both (spLBoth K))
    {fd : FuncData} (F : FnT K "law" "law" s_law [] (a_law K) fd) : FnOk P w K mg base CX0 8 (a_law K) fd p_law (spLaw K) := by
  refine F.ok sc_law (fun vs H Q E h => ?_) fun cdv A outer s H vs Q E hr h => ?_
  · obtain ⟨p, ns, rfl, _⟩ := h
    rfl
  · obtain ⟨p, ns, rfl, hp, few, k⟩ := h
    refine ⟨_, PSs.nox (pss_cons (ps_set (i := 1) sc_law.nd rfl (Or.inl rfl) (pe_own O_l_fresh (hr.mono (by decide)) T.g__law_fresh (pa_cons (pv 0) pa_nil)))
      (pss_cons (ps_set (i := 2) sc_law.nd rfl (Or.inl rfl) (pe_own O_l_desc (hr.mono (by decide)) T.g__law_desc (pa_cons (pv 1) (pa_cons pe_int pa_nil))))
      (pss_cons (ps_set (i := 3) sc_law.nd rfl (Or.inl rfl) (pe_own O_l_schema (hr.mono (by decide)) T.g__law_schema (pa_cons (pv 2) pa_nil)))
      (pss_cons (ps_set (i := 4) sc_law.nd rfl (Or.inl rfl) (pe_own O_l_right (hr.mono (by decide)) T.g__law_right (pa_cons (pv 1) (pa_cons (pv 2) (pa_cons pe_int pa_nil)))))
      (pss_cons (ps_for PassesOwn.never rfl (pi_range1 (by rfl) T.z_range (pa_cons pe_int pa_nil)) (pg_name (i := 5) sc_law.nd rfl (Or.inl rfl)) (pss_cons (ps_par (i := 6) (j := 7) (by rfl) sc_law.nd rfl rfl (by decide) rfl rfl (pa_cons (pe_own O_l_statement (hr.mono (by decide)) T.g__law_statement (pa_cons (pv 1) (pa_cons (pv 2) pa_nil))) (pa_cons (pe_own O_l_statement (hr.mono (by decide)) T.g__law_statement (pa_cons (pv 1) (pa_cons (pv 2) pa_nil))) pa_nil)) (by rfl))
        (pss_one (ps_if (pt_cmpR (op_neD hr.units) (pe_slice sl_tupA (pv 6) (po_some pe_int) (po_some pe_int)) (pe_slice sl_tupA (pv 7) (po_some pe_int) (po_some pe_int)) (nomark _)) (pss_cons (ps_asg (pe_own O_l_both (hr.mono (by decide)) T.g__law_both (pa_cons (pv 3) (pa_cons (pv 2) (pa_cons (pv 4) (pa_cons (pe_lst (pa_cons (pv 6) (pa_cons (pv 7) pa_nil))) pa_nil))))) (pg_tup rfl (pgs_cons (pg_name (i := 8) sc_law.nd rfl (Or.inl rfl)) (pgs_cons (pg_name (i := 9) sc_law.nd rfl (Or.inl rfl)) (pgs_cons (pg_name (i := 10) sc_law.nd rfl (Or.inl rfl)) pgs_nil)))))
          (pss_cons (ps_asg (pe_own O_l_both (hr.mono (by decide)) T.g__law_both (pa_cons (pv 3) (pa_cons (pv 2) (pa_cons (pv 4) (pa_cons (pe_lst (pa_cons (pv 7) (pa_cons (pv 6) pa_nil))) pa_nil))))) (pg_tup rfl (pgs_cons (pg_name (i := 11) sc_law.nd rfl (Or.inl rfl)) (pgs_cons (pg_name (i := 12) sc_law.nd rfl (Or.inl rfl)) (pgs_cons (pg_name (i := 13) sc_law.nd rfl (Or.inl rfl)) pgs_nil)))))
          (pss_one (ps_if (pt_mid (PW.pt (pw_or (pt_not (pt_val (pv 10))) (pw_or (pt_not (pt_val (pv 13))) (pw_or1 (PW.pt (pw_and (pt_cmpR (op_eqD hr.units) (pv 8) (pe_lst (pa_cons (pe_tup pa_nil) (pa_cons (pe_tup pa_nil) pa_nil))) (nomark _)) (pw_and (pt_cmpR (op_eqD hr.units) (pv 11) (pe_lst (pa_cons (pe_tup pa_nil) (pa_cons (pe_tup pa_nil) pa_nil))) (nomark _)) (pw_and1 (pt_cmpR (op_neV hr.units) (pv 9) (pv 12) (nomark _))))))))))) (pss_one (ps_ret pe_bl)) pss_nil)))) pss_nil))))
      (pss_one (ps_ret pe_bl))))))), ?_⟩
    refine ⟨_, rfl, p, ns, rfl, hp, few, fun st c H1 s1 st1 => ?_⟩
    refine ⟨_, rfl, st, c, 3, rfl, by decide, by decide, st1, fun dp d H2 k2 st2 hd2 dok => ?_⟩
    refine ⟨_, rfl, dp, d, rfl, hd2, dok, fun H3 x s3 sch3 => ?_⟩
    refine ⟨_, rfl, _, rfl, st, c, dp, d, rfl, st2.same s3, hd2.keep (.of_same s3), dok, fun H4 tp B k4 st4 hB4 tok => ?_⟩
    have hd4 := hd2.keep ((Keep.of_same s3).trans k4)
    have sch4 := sch3.keep k4
    refine ⟨4, rfl, by decide, by decide, ?_⟩
    refine for_range (lo := 0) (n := 4) (fun i σ H5 => ∃ v5 v6 v7 v8 v9 v10 v11 v12 v13 : Option V, σ = [some (.ref p), some (.ref st), some (.ref dp), some (.ref x), some (.ref tp), v5, v6, v7, v8, v9, v10, v11, v12, v13] ∧ Keep H4 H5 ∧ StAt H5 st c)
      ⟨none, none, none, none, none, none, none, none, none, rfl, Keep.refl _, st4⟩ ?_ ?_
    · rintro i σ H5 hi ⟨v5, v6, v7, v8, v9, v10, v11, v12, v13, rfl, k5, st5⟩
      refine ⟨_, rfl, _, rfl, st, c, dp, d, rfl, st5, hd4.keep k5, dok, fun H6 sa a k6 st6 sva oa => ?_⟩
      refine ⟨_, rfl, _, rfl, st, c, dp, d, rfl, st6, hd4.keep (k5.trans k6), dok, fun H7 sb b k7 st7 svb ob => ?_⟩
      refine ⟨_, _, rfl, ?_⟩
      have sva7 := sva.keep k7
      have k47 := (k5.trans k6).trans k7
      have hd7 := hd4.keep k47
      have sch7 := sch4.keep k47
      have hB7 := hB4.keep k47
      have tok57 : TabsOk d 57 (plT B) := tok.mono (by decide)
      refine ⟨_, rfl, 1, rfl, 3, rfl, slice13 sva7 fun a1 H8 s8 ha1 => ?_⟩
      refine ⟨_, rfl, 1, rfl, 3, rfl, slice13 (svb.same s8) fun b1 H9 s9 hb1 => ?_⟩
      obtain ⟨ca, hma, _⟩ := oa.has
      obtain ⟨cb, hmb, _⟩ := ob.has
      obtain ⟨da, sha⟩ := dp_place (K := K) (desc_ok dok (List.mem_map.mpr ⟨_, hma, rfl⟩)) (s9 _ _ ha1)
      obtain ⟨db, shb⟩ := dp_place (K := K) (desc_ok dok (List.mem_map.mpr ⟨_, hmb, rfl⟩)) hb1
      refine ⟨_, _, da, db, sha, shb, _, rfl, ?_⟩
      have s79 := s8.trans s9
      have k49 := k47.trans (.of_same s79)
      have st9 := st7.same s79
      cases hne : PyData.eqv (.tuple [.str a.tab, .int a.key]) (.tuple [.str b.tab, .int b.key]) with
      | true => exact ifF rfl ⟨_, _, _, _, _, _, _, _, _, rfl, k49, st9⟩
      | false =>
        refine ifT rfl ?_
        have ne : ¬ (a.tab = b.tab ∧ a.key = b.key) := fun z => by
          rw [z.1, z.2] at hne
          exact absurd hne (by simp [PyData.eqv, PyData.eqvAll])
        refine ⟨_, rfl, _, rfl, _, rfl, _, rfl, _, rfl, by show 2 ≤ sizeLine; decide, fun l1 hl1 => ?_⟩
        have s10 : Same H9 (upd H9 l1 (.lst [.ref sa, .ref sb])) := Same.new hl1
        have s710 := s79.trans s10
        refine ⟨x, dp, tp, l1, d, B, [a, b], [sa, sb], rfl, sch7.keep (.of_same s710), hd7.keep (.of_same s710), dok, hB7.keep (.of_same s710), tok57, upd_same, .cons (sva7.same s710) (.cons (svb.same s710) .nil), ?_, Nat.le_refl _, fun H11 t1 rl1 p1 B1 rs1 s11 ht1 hrl1 prs1 hB1 eB1 => ?_⟩
        · intro s hs
          rcases List.mem_cons.mp hs with rfl | hs
          · exact oa
          · rw [List.mem_singleton.mp hs]
            exact ob
        have s711 := s710.trans s11
        refine ⟨t1, _, rfl, SqT.of ht1, rfl, _, _, rfl, _, _, rfl, _, _, rfl, rfl, ?_⟩
        refine ⟨_, rfl, _, rfl, _, rfl, _, rfl, _, rfl, by show 2 ≤ sizeLine; decide, fun l2 hl2 => ?_⟩
        have s12 : Same H11 (upd H11 l2 (.lst [.ref sb, .ref sa])) := Same.new hl2
        have s712 := s711.trans s12
        refine ⟨x, dp, tp, l2, d, B, [b, a], [sb, sa], rfl, sch7.keep (.of_same s712), hd7.keep (.of_same s712), dok, hB7.keep (.of_same s712), tok57, upd_same, .cons (svb.same s712) (.cons (sva7.same s712) .nil), ?_, Nat.le_refl _, fun H13 t2 rl2 p2 B2 rs2 s13 ht2 hrl2 prs2 hB2 eB2 => ?_⟩
        · intro s hs
          rcases List.mem_cons.mp hs with rfl | hs
          · exact ob
          · rw [List.mem_singleton.mp hs]
            exact oa
        refine ⟨t2, _, rfl, SqT.of ht2, rfl, _, _, rfl, _, _, rfl, _, _, rfl, rfl, ?_⟩
        have s713 := s712.trans s13
        have s1113 := s12.trans s13
        have hrl1' := s1113 _ _ hrl1
        have prs1' := pMap prs1 fun _ _ z => s1113 _ _ z
        have hB1' := hB1.keep (.of_same s1113)
        rw [outs_two] at prs1' prs2
        dsimp only at prs1' prs2
        obtain ⟨u1, u2, eu⟩ : ∃ u1 u2, rs1 = [u1, u2] := by
          cases prs1' with
          | cons _ q => cases q with
            | cons _ q => cases q with
              | nil => exact ⟨_, _, rfl⟩
        obtain ⟨w1, w2, ew⟩ : ∃ w1 w2, rs2 = [w1, w2] := by
          cases prs2 with
          | cons _ q => cases q with
            | cons _ q => cases q with
              | nil => exact ⟨_, _, rfl⟩
        subst eu ew
        have hu1 := pAt2 prs1' (i := 0) rfl
        have hu2 := pAt2 prs1' (i := 1) rfl
        have hw1 := pAt2 prs2 (i := 0) rfl
        have hw2 := pAt2 prs2 (i := 1) rfl
        obtain ⟨_, z, hu1⟩ := hu1
        cases z
        obtain ⟨_, z, hu2⟩ := hu2
        cases z
        obtain ⟨_, z, hw1⟩ := hw1
        cases z
        obtain ⟨_, z, hw2⟩ := hw2
        cases z
        obtain ⟨oka1, oka2⟩ := outs_ok dok oa ob (plT B)
        obtain ⟨okb1, okb2⟩ := outs_ok dok ob oa (plT B)
        refine ⟨fun r H14 => r = false ∧ Same H13 H14, ?_, ?_⟩
        · refine ⟨_, rfl, true, rfl, ifF rfl ⟨_, rfl, true, rfl, ifF rfl ?_⟩⟩
          refine ⟨_, rfl, Nat.zero_le _, fun e1 he1 => ⟨Nat.zero_le _, fun e2 he2 => ⟨by show 2 ≤ sizeLine; decide, fun l3 hl3 => ?_⟩⟩⟩
          have s14 : Same H13 (upd (upd (upd H13 e1 (.tup [])) e2 (.tup [])) l3 (.lst [.ref e1, .ref e2])) := ((Same.new he1).trans (Same.new he2)).trans (Same.new hl3)
          have q1 := at_new (u := .lst [.ref e1, .ref e2]) (at_new (u := .tup []) (upd_same (H := H13) (a := e1) (o := .tup [])) he2) hl3
          have q2 := at_new (u := .lst [.ref e1, .ref e2]) (upd_same (H := upd H13 e1 (.tup [])) (a := e2) (o := .tup [])) hl3
          have q3 : upd (upd (upd H13 e1 (.tup [])) e2 (.tup [])) l3 (.lst [.ref e1, .ref e2]) l3 = some (.lst [.ref e1, .ref e2]) := upd_same
          generalize upd (upd (upd H13 e1 (.tup [])) e2 (.tup [])) l3 (.lst [.ref e1, .ref e2]) = H14 at s14 q1 q2 q3 ⊢
          obtain ⟨d1, dp1, sh1, ev1⟩ := dp_two (K := K) oka1 oka2 (s14 _ _ hrl1') (s14 _ _ hu1) (s14 _ _ hu2)
          refine ⟨d1, .list [.tuple [], .tuple []], dp1, .lst (SqL.of q3) (.cons (.tup (SqT.of q1) .nil) (.cons (.tup (SqT.of q2) .nil) .nil)), sh1, rfl, _, rfl, ?_⟩
          rw [ev1]
          cases hz1 : (decide ((mDone d (plT B) a).1 = []) && decide ((mDone d (mDone d (plT B) a).2 b).1 = [])) with
          | false => exact iteF ⟨rfl, s14⟩
          | true =>
            refine iteT ?_
            refine ⟨_, rfl, Nat.zero_le _, fun e3 he3 => ⟨Nat.zero_le _, fun e4 he4 => ⟨by show 2 ≤ sizeLine; decide, fun l4 hl4 => ?_⟩⟩⟩
            have s15 : Same H14 (upd (upd (upd H14 e3 (.tup [])) e4 (.tup [])) l4 (.lst [.ref e3, .ref e4])) := ((Same.new he3).trans (Same.new he4)).trans (Same.new hl4)
            have r1 := at_new (u := .lst [.ref e3, .ref e4]) (at_new (u := .tup []) (upd_same (H := H14) (a := e3) (o := .tup [])) he4) hl4
            have r2 := at_new (u := .lst [.ref e3, .ref e4]) (upd_same (H := upd H14 e3 (.tup [])) (a := e4) (o := .tup [])) hl4
            have r3 : upd (upd (upd H14 e3 (.tup [])) e4 (.tup [])) l4 (.lst [.ref e3, .ref e4]) l4 = some (.lst [.ref e3, .ref e4]) := upd_same
            generalize upd (upd (upd H14 e3 (.tup [])) e4 (.tup [])) l4 (.lst [.ref e3, .ref e4]) = H15 at s15 r1 r2 r3 ⊢
            have s1315 := s14.trans s15
            obtain ⟨d2, dp2, sh2, ev2⟩ := dp_two (K := K) okb1 okb2 (s1315 _ _ hrl2) (s1315 _ _ hw1) (s1315 _ _ hw2)
            refine ⟨d2, .list [.tuple [], .tuple []], dp2, .lst (SqL.of r3) (.cons (.tup (SqT.of r1) .nil) (.cons (.tup (SqT.of r2) .nil) .nil)), sh2, rfl, _, rfl, ?_⟩
            rw [ev2]
            cases hz2 : (decide ((mDone d (plT B) b).1 = []) && decide ((mDone d (mDone d (plT B) b).2 a).1 = [])) with
            | false => exact iteF ⟨rfl, s1315⟩
            | true =>
              refine iteT ?_
              rw [Bool.and_eq_true, decide_eq_true_iff, decide_eq_true_iff] at hz1 hz2
              have x1 := eB1.trans (outs_none hz1.1 hz1.2)
              have x2 := eB2.trans (outs_none hz2.1 hz2.2)
              have ok1 := tabs_made dok ob (tabs_made dok oa tok57)
              have ok2 := tabs_made dok oa (tabs_made dok ob tok57)
              obtain ⟨ks, ls, hk1, hk2, len, hit⟩ := tabs_eqR (K := K) dok (hB1'.keep (.of_same s1315)) (hB2.keep (.of_same s1315)) (by rw [x1]; exact ok1) (by rw [x2]; exact ok2) (by rw [x1, x2]; exact tabs_either ne tok57)
              exact ⟨_, rfl, _, rfl, p1, p2, ks, ls, rfl, rfl, hk1, hk2, len, hit, _, rfl, rfl, s1315⟩
        · rintro r H14 ⟨rfl, s14⟩
          refine ifF rfl ⟨_, _, _, _, _, _, _, _, _, rfl, k47.trans (.of_same (s713.trans s14)), st7.same (s713.trans s14)⟩
    · rintro σ H5 ⟨v5, v6, v7, v8, v9, v10, v11, v12, v13, rfl, k5, st5⟩
      exact k _
end
end K16

/-! K16Zd: the end -/
namespace K16
open PySem PySem.Spec PyProof.Rows L2 He
theorem facts {P : Program} {w : World} {K : Fr} {h : Heap} {mg : Str → Option Value} {f : Addr} (X : K.In h) (G : h.Ns mainGlobals mg) (hfa : mg ("law" : Str) = some (.ref f)) (c : SaysX fa fn ts xs w K) :
    ∃ fd : FuncData, (∀ (s : Shared) (v : Value), BindsTo s fd ⟨[v], []⟩ [("_law_script", v)]) ∧ ∀ base : Heap, K.In base → base.Ns mainGlobals mg → FnOk P w K mg base CX0 8 f fd ["_law_script"] (spLaw K) := by
  have T := txt_of X G c
  obtain ⟨fd, F⟩ := F_law c
  have e := hfa.symm.trans T.g_law
  cases e
  have b := FunD.bindsA (ps := ["_law_script"]) F fun _ _ _ _ _ _ us hl => match us, hl with | [_], _ => rfl
  refine ⟨fd, fun s v => b s [v] rfl, fun base _ _ => ?_⟩
  have o_fill := ok_fill (P := P) (base := base) T (F_l_fill c)
  have o_take := ok_take T o_fill (F_l_take c)
  have o_words := ok_words T o_take (F_l_words c)
  have o_desc := ok_desc T o_take o_words (F_l_desc c)
  have o_fresh := ok_fresh (P := P) (base := base) T (F_l_fresh c)
  have o_written := ok_is_written (P := P) (base := base) T (F_is_written c)
  have o_word := ok_is_word T o_written (F_is_word c)
  have o_whole := ok_is_whole (P := P) (base := base) T (F_is_whole c)
  have o_lwhole := ok_l_whole (P := P) (base := base) T (F_l_whole c)
  have o_key := ok_is_key T o_whole (F_is_key c)
  have o_text := ok_is_text T o_written (F_is_text c)
  have o_truth := ok_is_truth (P := P) (base := base) T (F_is_truth c)
  have o_link := ok_is_link T o_whole (F_is_link c)
  have o_kind := ok_of_kind T o_whole o_text o_truth o_link (F_of_kind c)
  have o_colam := ok_column_amiss T o_word (F_column_amiss c)
  obtain ⟨fc, FC⟩ := F_Column_init c
  have OC := ok_Column_init T o_colam FC
  have o_form := ok_form_amiss (P := P) (base := base) T (F_form_amiss c)
  have o_scham := ok_schema_amiss T o_word o_form (F_schema_amiss c)
  obtain ⟨fs, FS⟩ := F_Schema_init c
  have OS := ok_Schema_init T o_scham FS
  have bS : Binds K fs p_Schema_init [] := FS.bindsN fun _ _ _ _ _ _ us hl => match us, hl with | [_, _], _ => rfl
  have o_schema := ok_l_schema T FC OC OS bS (F_l_schema c)
  have o_Swords := ok_Schema_words (P := P) (base := base) T (F_Schema_words c)
  have o_Scols := ok_Schema_columns (P := P) (base := base) T (F_Schema_columns c)
  have o_Stold := ok_Schema_told T o_Scols (F_Schema_told c)
  have o_copied := ok_copied (P := P) (base := base) T (F_copied c)
  have o_lcopied := ok_l_copied (P := P) (base := base) T (F_l_copied c)
  have o_places := ok_places T o_Swords (F_places c)
  have o_links := ok_links_of T o_Scols (F_links_of c)
  have o_holders := ok_holders T o_places o_links (F_holders c)
  have o_bare := ok_is_bare (P := P) (base := base) T (F_is_bare c)
  have o_missing := ok_is_missing (P := P) (base := base) T (F_is_missing c)
  have o_twice := ok_is_twice (P := P) (base := base) T (F_is_twice c)
  have o_pairs := ok_pairs_of (P := P) (base := base) T (F_pairs_of c)
  have o_askp := ok_ask_pairs T o_Scols o_Stold o_pairs o_kind (F_ask_pairs c)
  obtain ⟨f1, F1⟩ := F_Taken_init c
  obtain ⟨f2, F2⟩ := F_NoRow_init c
  obtain ⟨f3, F3⟩ := F_Bare_init c
  obtain ⟨f4, F4⟩ := F_Missing_init c
  obtain ⟨f5, F5⟩ := F_Twice_init c
  obtain ⟨f6, F6⟩ := F_Held_init c
  have b1 : Binds K f1 p_Taken_init [] := F1.bindsN fun _ _ _ _ _ _ us hl => match us, hl with | [_, _, _], _ => rfl
  have b2 : Binds K f2 p_NoRow_init [] := F2.bindsN fun _ _ _ _ _ _ us hl => match us, hl with | [_, _, _], _ => rfl
  have b3 : Binds K f3 p_Bare_init [] := F3.bindsN fun _ _ _ _ _ _ us hl => match us, hl with | [_, _, _, _], _ => rfl
  have b4 : Binds K f4 p_Missing_init [] := F4.bindsN fun _ _ _ _ _ _ us hl => match us, hl with | [_, _, _, _], _ => rfl
  have b5 : Binds K f5 p_Twice_init [] := F5.bindsN fun _ _ _ _ _ _ us hl => match us, hl with | [_, _, _, _], _ => rfl
  have b6 : Binds K f6 p_Held_init [] := F6.bindsN fun _ _ _ _ _ _ us hl => match us, hl with | [_, _, _, _], _ => rfl
  have o_askk := ok_ask_key T o_key (ok_Taken_init T F1) b1 (ok_NoRow_init T F2) b2 (F_ask_key c)
  have o_askr := ok_ask_row T o_Scols o_bare o_missing o_twice (ok_Bare_init T F3) b3 (ok_Missing_init T F4) b4 (ok_Twice_init T F5) b5 (F_ask_row c)
  have o_done := ok_done T o_askp o_askk o_copied o_holders o_pairs o_Scols o_askr (ok_Held_init T F6) b6 (F_done c)
  have o_fits := ok_l_fits T o_lwhole (F_l_fits c)
  have o_worth := ok_l_worth T o_take (F_l_worth c)
  have o_lkey := ok_l_key T o_take (F_l_key c)
  have o_lpairs := ok_l_pairs T o_take o_worth (F_l_pairs c)
  have o_stm := ok_l_statement T o_take o_lkey o_lpairs (F_l_statement c)
  have o_filled := ok_l_filled (P := P) (base := base) T (F_l_filled c)
  have o_nothing := ok_l_nothing (P := P) (base := base) T (F_l_nothing c)
  have o_linked := ok_l_linked (P := P) (base := base) T (F_l_linked c)
  have o_rowam := ok_l_row_amiss (P := P) (base := base) T (F_l_row_amiss c)
  have o_formam := ok_l_form_amiss T o_fits o_lwhole (F_l_form_amiss c)
  have o_ldone := ok_l_done T o_formam o_lcopied o_linked o_filled o_rowam (F_l_done c)
  have o_right := ok_l_right T o_nothing o_stm o_ldone (F_l_right c)
  obtain ⟨fr, FR⟩ := F_l_refusal c
  have o_told := ok_l_told T o_done FR (F_l_told c)
  have o_both := ok_l_both T o_lcopied o_told o_ldone (F_l_both c)
  exact ok_law T o_fresh o_desc o_schema o_right o_stm o_both F
end K16
open PySem PySem.W PySem.Calls PyProof.Rows
theorem PySem.Challenge.cw_rowhold_k16_whole_statements_in_either_o_holds : PySem.Challenge.rw_rowhold_k16_whole_statements_in_either_o.Holds := by
  w_on; o_law
  refine HandSHeadRun.head_any (r := K16.R) (q := view K16.R.prog [78]) (H := K16.hk) (ob := K16.ob) (M := 12000) (loose := K16.names) (d := HandSHeadRun.topDef K16.R.prog 78) (kwd := []) K16.ob_eq
    (by kernel_rfl) (fun s => by kernel_rfl) K16.run (by kernel_rfl) (by kernel_rfl) (by kernel_rfl) (by rfl) (by first | assumption | decide +kernel) (by decide +kernel) ⟨rfl, rfl, rfl, rfl, rfl, by decide +kernel⟩ ?hw ?hc
  case hw => w_witness2
  case hc =>
    refine L2.walk_ofE (l := PySem.Challenge.rw_rowhold_k16_whole_statements_in_either_o) (n := 63) (k := 8) (x := "_law_script") (CX := L2.CX0) rfl (by decide) (by kernel_rfl) ⟨rfl, by decide, by decide⟩ ?F (fun _ _ _ _ z => z)
    intro w mg fa h Y G hmg0
    obtain ⟨K, KX, c⟩ := Y
    have hmg : mg ("law" : PySem.Str) = some (.ref fa) := by
      have e : (HandSHeadRun.topDef K16.R.prog 78).name = ("law" : PySem.Str) := by kernel_rfl
      rw [← e]
      exact hmg0
    obtain ⟨fd, hb, hF⟩ := K16.facts (P := (PySem.Challenge.rw_rowhold_k16_whole_statements_in_either_o).prog) (w := w) KX G hmg c
    exact ⟨K, fd, K16.spLaw K, KX, hb, fun H a ns hl _ hS => ⟨a, ns, rfl, hS, hl, fun _ => rfl⟩, hF⟩
