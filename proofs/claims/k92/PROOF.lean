import PyProof.Rows.All
import Wide.All
import OpenK.AllK
import Wide.FinOn
import KE.KStateDown
import Lean
import HandS.ForMost
import HandS.Exc
import HandS.TryOnly
import HandS.ExcOwn
import HandS.ExcInit
import HandS.WordsExc
import HandS.Defaults
import HandS.IsInst
import HandS.HeadHook4
import HandS.Flow
import HandS.Steps
import HandS.TupAny
import HandS.TupMul
import HandS.ClsMeth
import HandS.Evl
import HandS.Lambda
import KE.GoesEnum
import KE.KUnpackStar
import PyProof.AutoSeq1
import PyProof.NeKinds
import HandS.ExcIs
import HandS.ExcField
import KE.IntTextLaws
import KE.KIntText
import HandS.Codes
import HandS.Head0
import HandS.Head1
import HandS.Head2
import HandS.HeadWalk
import Wide.Once
import PySem.Challenge.RW_flowyard_k92_wrong_lines_of_tables_and_t
set_option Elab.async false
set_option linter.all false
set_option maxRecDepth 100000
set_option maxHeartbeats 0
namespace Fy
open PySem PySem.Spec PyProof.Rows L2 LamX
def topS (i : Nat) : Stmt := PySem.Challenge.pw_flowyard_k92_wrong_lines_of_tables_and_t.main.body.getD i (.Pass ⟨0, 0, 0, 0⟩)
abbrev s_is_sign : Stmt := topS 6
abbrev s_is_text : Stmt := topS 7
abbrev s_is_number : Stmt := topS 30
abbrev s_is_text_word : Stmt := topS 31
abbrev s_text_in : Stmt := topS 32
abbrev s_parts_of : Stmt := topS 67
abbrev s_has_shape : Stmt := topS 68
abbrev s_is_term : Stmt := topS 69
abbrev s_term_text : Stmt := topS 77
abbrev s_written : Stmt := topS 78
abbrev s_read_by : Stmt := topS 79
abbrev s_read_table : Stmt := topS 80
abbrev s_read_term : Stmt := topS 81
abbrev s__law_pot : Stmt := topS 83
abbrev s__law_draw : Stmt := topS 84
abbrev s__law_pick : Stmt := topS 85
abbrev s__law_dash : Stmt := topS 86
abbrev s__law_table : Stmt := topS 87
abbrev s__law_table_lines : Stmt := topS 88
abbrev s__law_term : Stmt := topS 89
abbrev s__law_whole : Stmt := topS 90
abbrev s__law_told : Stmt := topS 91
abbrev s__law_odd_line : Stmt := topS 92
abbrev s__law_far_place : Stmt := topS 93
abbrev s__law_tables_right : Stmt := topS 94
abbrev s__law_sixty_right : Stmt := topS 95
abbrev s__law_odd_term : Stmt := topS 96
abbrev s__law_terms_right : Stmt := topS 97
abbrev s__law_right : Stmt := topS 98
abbrev s_law : Stmt := topS 99
abbrev s_TableReader___init__ : Stmt := inClass (topS 56) 0
abbrev s_TableReader_take : Stmt := inClass (topS 56) 1
abbrev s_TableReader_is_whole : Stmt := inClass (topS 56) 2
abbrev s_TableReader_wrong_lines : Stmt := inClass (topS 56) 3
abbrev s_TableReader_made : Stmt := inClass (topS 56) 4
abbrev s_TermReader___init__ : Stmt := inClass (topS 57) 0
abbrev s_TermReader_pass_over : Stmt := inClass (topS 57) 1
abbrev s_TermReader_word : Stmt := inClass (topS 57) 2
abbrev s_TermReader_signs : Stmt := inClass (topS 57) 3
abbrev s_TermReader_node : Stmt := inClass (topS 57) 4
abbrev s_TermReader_take : Stmt := inClass (topS 57) 5
abbrev s_TermReader_is_whole : Stmt := inClass (topS 57) 6
abbrev s_TermReader_wrong_lines : Stmt := inClass (topS 57) 7
abbrev s_TermReader_made : Stmt := inClass (topS 57) 8
abbrev s_FlowError___init__ : Stmt := inClass (topS 11) 0
abbrev s_InvalidLines___init__ : Stmt := inClass (topS 21) 0
/-- the tables of the defs that make lambdas -/
def lamNames : List Str := ["_law_tables_right", "_law_sixty_right", "_law_terms_right", "_law_right"]
def lamT (K : PySem.W.Frag) : List (Addr × Str) := lamNames.map fun x => ((He.cT K (x, none)).2, (x ++ (".<locals>." : Str)) ++ ("<lambda>" : Str))
end Fy
/-! the head: facts by names, the run -/
namespace Fy
open PySem PySem.Spec PyProof.Rows L2 LamX
def dG (x : Str) (st : Stmt) : He.DefD := ⟨(x, none), x, x, defArgs st, defBody st, defScope st, [], []⟩
def dM (C m q : Str) (st : Stmt) : He.DefD := ⟨(C, some m), m, q, defArgs st, defBody st, defScope st, [], []⟩
def hFn : List He.DefD := ([dG "is_sign" s_is_sign, dG "is_text" s_is_text, dG "is_number" s_is_number, dG "is_text_word" s_is_text_word, dG "text_in" s_text_in, dG "parts_of" s_parts_of, dG "has_shape" s_has_shape, dG "is_term" s_is_term, dG "term_text" s_term_text, dG "written" s_written] : List He.DefD) ++ ([dG "read_by" s_read_by, dG "read_table" s_read_table, dG "read_term" s_read_term, dG "_law_pot" s__law_pot, dG "_law_draw" s__law_draw, dG "_law_pick" s__law_pick, dG "_law_dash" s__law_dash, dG "_law_table" s__law_table, dG "_law_table_lines" s__law_table_lines, dG "_law_term" s__law_term] : List He.DefD) ++ ([dG "_law_whole" s__law_whole, dG "_law_told" s__law_told, dG "_law_odd_line" s__law_odd_line, dG "_law_far_place" s__law_far_place, dG "_law_tables_right" s__law_tables_right, dG "_law_sixty_right" s__law_sixty_right, dG "_law_odd_term" s__law_odd_term, dG "_law_terms_right" s__law_terms_right, dG "_law_right" s__law_right, dG "law" s_law] : List He.DefD) ++ ([dM "TableReader" "__init__" "TableReader.__init__" s_TableReader___init__, dM "TableReader" "take" "TableReader.take" s_TableReader_take, dM "TableReader" "is_whole" "TableReader.is_whole" s_TableReader_is_whole, dM "TableReader" "wrong_lines" "TableReader.wrong_lines" s_TableReader_wrong_lines, dM "TableReader" "made" "TableReader.made" s_TableReader_made, dM "TermReader" "__init__" "TermReader.__init__" s_TermReader___init__, dM "TermReader" "pass_over" "TermReader.pass_over" s_TermReader_pass_over, dM "TermReader" "word" "TermReader.word" s_TermReader_word, dM "TermReader" "signs" "TermReader.signs" s_TermReader_signs, dM "TermReader" "node" "TermReader.node" s_TermReader_node] : List He.DefD) ++ ([dM "TermReader" "take" "TermReader.take" s_TermReader_take, dM "TermReader" "is_whole" "TermReader.is_whole" s_TermReader_is_whole, dM "TermReader" "wrong_lines" "TermReader.wrong_lines" s_TermReader_wrong_lines, dM "TermReader" "made" "TermReader.made" s_TermReader_made, dM "FlowError" "__init__" "FlowError.__init__" s_FlowError___init__, dM "InvalidLines" "__init__" "InvalidLines.__init__" s_InvalidLines___init__] : List He.DefD)
def hFa : List He.Fa := ([.free "isinstance", .free "str", .free "int", .free "tuple", .free "list", .free "bool", .free "len", .free "all", .free "any", .free "range"] : List He.Fa) ++ ([.free "enumerate", .free "abs", .free "max", .free "min", .free "divmod", .free "ValueError", .glo "SIGNS", .str "EMPTY" "-", .str "FIGURES" "0123456789", .str "LINE_END" "\n"] : List He.Fa) ++ ([.str "LETTERS" "abcdefghijklmnopqrstuvwxyz", .int "MOST_PLACES" 60, .int "MOST_NODES_readers" 9, .int "MOST_NODES_terms" 9, .str "IN" "in", .str "LATE" "late", .str "BY" "by", .str "KEEP" "keep", .str "THEN" "then", .glo "OF_ONE"] : List He.Fa) ++ ([.glo "OF_TWO", .glo "PARTS", .glo "is_sign", .glo "is_text", .glo "is_number", .glo "is_text_word", .glo "text_in", .glo "parts_of", .glo "has_shape", .glo "is_term"] : List He.Fa) ++ ([.glo "term_text", .glo "written", .glo "read_by", .glo "read_table", .glo "read_term", .glo "_law_pot", .glo "_law_draw", .glo "_law_pick", .glo "_law_dash", .glo "_law_table"] : List He.Fa) ++ ([.glo "_law_table_lines", .glo "_law_term", .glo "_law_whole", .glo "_law_told", .glo "_law_odd_line", .glo "_law_far_place", .glo "_law_tables_right", .glo "_law_sixty_right", .glo "_law_odd_term", .glo "_law_terms_right"] : List He.Fa) ++ ([.glo "_law_right", .glo "law", .glo "TableReader", .cls "TableReader", .mkr "TableReader", .noat "TableReader" "own_first", .noat "TableReader" "own_rows", .meth "TableReader" "__init__", .meth "TableReader" "take", .meth "TableReader" "is_whole"] : List He.Fa) ++ ([.meth "TableReader" "wrong_lines", .meth "TableReader" "made", .glo "TermReader", .cls "TermReader", .mkr "TermReader", .noat "TermReader" "own_term", .noat "TermReader" "own_line", .noat "TermReader" "own_left", .meth "TermReader" "__init__", .meth "TermReader" "pass_over"] : List He.Fa) ++ ([.meth "TermReader" "word", .meth "TermReader" "signs", .meth "TermReader" "node", .meth "TermReader" "take", .meth "TermReader" "is_whole", .meth "TermReader" "wrong_lines", .meth "TermReader" "made", .glo "FlowError", .meth "FlowError" "__init__", .glo "InvalidLines"] : List He.Fa) ++ ([.meth "InvalidLines" "__init__", .glo "Yard", .glo "Station"] : List He.Fa)
def partsK : List Str := ["not", "late", "twice", "half", "change", "count", "by", "keep", "then"]
def hTs : List He.Tab := [(fun K => He.ga K "PARTS", partsK)]
def hTf : List He.Defn := lamNames.map fun x => (x, none)
def cfV (r : Option PySem.W.CFound) (u : Value → Bool) : Bool := match r with
  | some (.val v) => u v
  | _ => false
theorem cfV_ok {r : Option PySem.W.CFound} {u : Value → Bool} (h : cfV r u = true) : ∃ v, r = some (.val v) ∧ u v = true := by
  unfold cfV at h
  split at h
  · exact ⟨_, rfl, h⟩
  · cases h
/-- the class's record is an exception's over ValueError -/
def oexB (K : PySem.W.Frag) (C : Addr) : Bool := match K.lookup C with
  | some ⟨.type t, _, .cls ⟨_, _, .ref C' :: bm, _, _, hd, _, _, _, _, del⟩, sl⟩ => decide (t = "type") && (decide (C' = C) && (hd && (!del && (PySem.HandSPX.refsVE bm && match sl.toList with
      | [_, _, _, _, some (.builtin n), _] => decide (n = "ValueError.__new__")
      | _ => false))))
  | _ => false
theorem oexB_ok {K : PySem.W.Frag} {C : Addr} (h : oexB K C = true) : ∃ nm q N bs bm sn sub ab col dd k0 k1 k2 k3 k5, K.lookup C = some (excClassObj nm q C N bs bm true sn sub ab col dd k0 k1 k2 k3 k5 "ValueError.__new__") ∧ PySem.HandSPX.refsVE bm = true := by
  unfold oexB at h
  split at h
  · rename_i t dd nm bs C' bm N q hd sn sub ab col del sl e
    obtain ⟨h1, h⟩ := He.ba h
    obtain ⟨h2, h⟩ := He.ba h
    obtain ⟨h3, h⟩ := He.ba h
    obtain ⟨h4, h⟩ := He.ba h
    obtain ⟨h5, h⟩ := He.ba h
    split at h
    · rename_i k0 k1 k2 k3 n k5 es
      have e1 : t = "type" := of_decide_eq_true h1
      have e2 : C' = C := of_decide_eq_true h2
      have e3 : n = "ValueError.__new__" := of_decide_eq_true h
      have e4 : del = false := by
        cases del with
        | false => rfl
        | true => cases h4
      subst e1 e2 e3 h3 e4
      have es2 : sl = #[k0, k1, k2, k3, some (.builtin "ValueError.__new__"), k5] := by
        rw [← Array.toArray_toList (xs := sl), es]
      subst es2
      exact ⟨nm, q, N, bs, bm, sn, sub, ab, col, dd, k0, k1, k2, k3, k5, e, h5⟩
    · cases h
  · cases h
abbrev IL (K : PySem.W.Frag) : Addr := He.ga K "InvalidLines"
abbrev FE (K : PySem.W.Frag) : Addr := He.ga K "FlowError"
abbrev YA (K : PySem.W.Frag) : Addr := He.ga K "Yard"
abbrev SA (K : PySem.W.Frag) : Addr := He.ga K "Station"
def tabsUB (K : PySem.W.Frag) : Bool := (lamT K).all fun p => (lamT K).all fun q => !decide (p.1 = q.1) || decide (p.2 = q.2)
def exL (K : PySem.W.Frag) : List Bool := [
  He.tupB K "SIGNS" [.str "0", .str "1"], He.tupB K "OF_ONE" [.str "not", .str "twice", .str "half", .str "change", .str "count"], He.tupB K "OF_TWO" [.str "keep", .str "then"],
  He.valsB K (He.ga K "PARTS") [("not", .int 1), ("late", .int 1), ("twice", .int 1), ("half", .int 1), ("change", .int 1), ("count", .int 1), ("by", .int 2), ("keep", .int 2), ("then", .int 2)],
  PySem.W.readsIn K (YA K) (.type "type"), He.eqO (PySem.W.specialIn K (.ref (YA K)) "__getattribute__") (some (some (.builtin "type.__getattribute__"))), cfV (PySem.W.findCls K (.ref (YA K)) (.type "type") "MOST_EXITS") (He.relB (.int 3)),
  oexB K (IL K), He.eqO (PySem.W.findIn K (.ref (IL K)) "__setattr__") (some (some (.builtin "object.__setattr__"))), decide (PySem.W.subIn K (.ref (IL K)) (.type "BaseException") = some true), decide (PySem.W.typeIn K (.ref (IL K)) = some (.type "type")), PySem.W.keepIn K (.ref (IL K)),
  He.eqO (PySem.W.findIn K (.ref (IL K)) "value") (some none), He.eqO (PySem.W.findIn K (.ref (IL K)) "line") (some none),
  PySem.W.readsIn K (FE K) (.type "type"), He.eqO (PySem.W.specialIn K (.ref (FE K)) "__getattribute__") (some (some (.builtin "type.__getattribute__"))), cfV (PySem.W.findCls K (.ref (FE K)) (.type "type") "__init__") (fun v => decide (v = .ref (He.ma K (FE K) "__init__"))),
  cfV (PySem.W.findCls K (.type "ValueError") (.type "type") "__init__") (fun v => decide (v = .builtin "ValueError.__init__")),
  decide (PySem.W.typeIn K (.ref (He.ma K (IL K) "__init__")) = some (.type "function"))] ++ [
  xfB K (IL K), He.eqO (PySem.W.findIn K (.ref (IL K)) "__class__") (some (some (.builtin "object.__class__"))), He.eqO (PySem.W.specialIn K (.builtin "object.__class__") "__get__") (some (some (.builtin "getset_descriptor.__get__"))), decide (PySem.W.takesIn K (.builtin "object.__class__") = some true), decide (PySem.W.mroIn K (IL K) (.type "object") = some true),
  decide (PySem.W.exmOne K (.ref (IL K)) (.ref (IL K)) = some true), decide (PySem.W.kitOne K (.ref (IL K)) (.ref (FE K)) = some true), decide (PySem.W.kitOne K (.ref (IL K)) (.type "ValueError") = some true), PySem.W.keepIn K (.ref (FE K)),
  decide (PySem.W.kitOne K (.type "tuple") (.ref (SA K)) = some false), decide (PySem.W.kitOne K (.type "tuple") (.ref (YA K)) = some false), decide (PySem.W.kitOne K (.type "str") (.ref (SA K)) = some false), decide (PySem.W.kitOne K (.type "str") (.ref (YA K)) = some false),
  tabsUB K]
def hEx (K : PySem.W.Frag) : Bool := (exL K).all id
/-! the part of the heap that is looked at: by paths of our own -/
def refA : Value → List Addr
  | .ref a => [a]
  | _ => []
def inDict (g : Addr → Option Obj) (d : Addr) (x : Str) : List Addr := match g d with
  | some ⟨_, _, .dict es _, _⟩ => (match es.toList.find? (fun e => e.key.isStr x) with
    | some e => refA e.val
    | none => [])
  | _ => []
def codeAt (g : Addr → Option Obj) (f : Addr) : List Addr := match g f with
  | some ⟨_, _, .func fd, _⟩ => [f] ++ refA fd.code
  | _ => [f]
def spaceAt (g : Addr → Option Obj) (c : Addr) : List Addr := match g c with
  | some ⟨_, _, .cls cd, _⟩ => [cd.ns]
  | _ => []
def hDefs : List Str := (["is_sign", "is_text", "is_number", "is_text_word", "text_in", "parts_of", "has_shape", "is_term", "term_text", "written", "read_by", "read_table", "read_term", "_law_pot", "_law_draw"] : List Str) ++ (["_law_pick", "_law_dash", "_law_table", "_law_table_lines", "_law_term", "_law_whole", "_law_told", "_law_odd_line", "_law_far_place", "_law_tables_right", "_law_sixty_right", "_law_odd_term", "_law_terms_right", "_law_right", "law"] : List Str)
def hTups : List Str := ["SIGNS", "OF_ONE", "OF_TWO", "PARTS"]
def hClss : List (Str × List Str) := [("TableReader", ["__init__", "take", "is_whole", "wrong_lines", "made"]), ("TermReader", ["__init__", "pass_over", "word", "signs", "node", "take", "is_whole", "wrong_lines", "made"]), ("FlowError", ["__init__"]), ("InvalidLines", ["__init__"]), ("Yard", []), ("Station", [])]
def hAs (g : Addr → Option Obj) : List Addr :=
  [mainGlobals, cStatics] ++ (hDefs.flatMap fun x => (inDict g mainGlobals x).flatMap (codeAt g)) ++ (hTups.flatMap fun x => inDict g mainGlobals x) ++
    (hClss.flatMap fun q => (inDict g mainGlobals q.1).flatMap fun c => c :: (spaceAt g c).flatMap fun n => n :: (q.2.flatMap fun m => (inDict g n m).flatMap (codeAt g)))
def hK (g : Addr → Option Obj) : PySem.W.Frag := He.frT g (hAs g)
def hObs (g : Addr → Option Obj) : He.AlX := (He.obsT hFa hFn hTs (hK g), hEx (hK g) && He.tabsB g hTf (hK g))
def hSays (w : World) (h : Heap) (K : PySem.W.Frag) : Prop := He.SaysX hFa hFn hTs hTf hEx w h K
theorem says_of {w : World} {h : Heap} (e : hObs h.get? = He.valX hFn hTs w) : hSays w h (hK h.get?) := by
  have hb : (hEx (hK h.get?) && He.tabsB h.get? hTf (hK h.get?)) = true := congrArg Prod.snd e
  rw [Bool.and_eq_true] at hb
  have hp : ∀ p ∈ hTf, PySem.W.codeHdIn (hK h.get?) (He.cT (hK h.get?) p).1 (He.cT (hK h.get?) p).2 = true ∧ ∃ o, h.get? (He.cT (hK h.get?) p).2 = some o ∧ He.emptyTab o = true := by
    intro p hp
    have ha := List.all_eq_true.mp hb.2 p hp
    rw [Bool.and_eq_true] at ha
    refine ⟨ha.1, ?_⟩
    have h2 := ha.2
    cases q : h.get? (He.cT (hK h.get?) p).2 with
    | none => simp [q] at h2
    | some o => exact ⟨o, rfl, by simpa [q] using h2⟩
  refine ⟨congrArg Prod.fst e, hb.1, fun p m => (hp p m).1, fun p m => ?_, fun p m => ?_⟩
  · obtain ⟨o, q, z⟩ := (hp p m).2
    exact He.frT_none q z
  · obtain ⟨o, q, z⟩ := (hp p m).2
    rw [q, He.emptyTab_eq z]
abbrev hHk : PySem.W.Hook where
  α := He.AlX
  obs := fun s => hObs s.heap.get?
  val := fun w => He.valX hFn hTs w
  says := fun w h => ∃ K : PySem.W.Frag, K.In h ∧ hSays w h K
  of := fun w s e => ⟨_, He.frT_in, says_of e⟩
  keeps := fun w h h' ⟨K, hi, c⟩ k => ⟨K, hi.keeps k, c.t, c.more, c.hd, c.out, fun p m => k _ _ (c.empty p m)⟩
def hOb (s : PySem.W.SharedT) : He.AlX := hObs (HandSHeadRun.getT s)
theorem hOb_eq (s : PySem.W.SharedT) : hOb s = hHk.obs s.abs := by
  have e : HandSHeadRun.getT s = s.abs.heap.get? := funext (HandSHeadRun.getT_eq s)
  show hObs (HandSHeadRun.getT s) = hObs s.abs.heap.get?
  rw [e]
abbrev hR : PySem.W.OpenRow := PySem.W.OpenLaw.row PySem.Challenge.rw_flowyard_k92_wrong_lines_of_tables_and_t
def hNames : List PySem.Str := (["_wall", "SIGNS", "is_integer", "is_count", "is_below", "is_sign", "is_text", "is_list", "is_text_of", "FlowError", "InvalidIns", "InvalidOuts", "InvalidBegin", "InvalidStanding", "InvalidText"] : List PySem.Str) ++ (["InvalidEntry", "InvalidStandings", "InvalidStations", "InvalidPipes", "InvalidLines", "LimitError", "TooMany", "FIGURES", "EMPTY", "LINE_END", "word_of", "line_of", "is_number", "is_text_word", "text_in"] : List PySem.Str) ++ (["MOST_STANDINGS", "MOST_GIVEN", "MOST_TICKS", "MOST_CONTENT", "LINES", "is_row", "are_read", "is_standing_told", "place_of", "Station", "want_standing", "want_stations", "is_pipe", "want_pipes", "free_lines"] : List PySem.Str) ++ (["is_begin", "Yard", "LETTERS", "MOST_PLACES", "MOST_NODES_readers", "PARTS", "TableReader", "TermReader", "MOST_NODES_terms", "IN", "LATE", "BY", "KEEP", "THEN", "OF_ONE"] : List PySem.Str) ++ (["OF_TWO", "parts_of", "has_shape", "is_term", "station_lines", "yard_lines", "are_texts", "is_table_row", "is_table", "table_lines", "term_text", "written", "read_by", "read_table", "read_term"] : List PySem.Str) ++ (["_law_pot", "_law_draw", "_law_pick", "_law_dash", "_law_table", "_law_table_lines", "_law_term", "_law_whole", "_law_told", "_law_odd_line", "_law_far_place", "_law_tables_right", "_law_sixty_right", "_law_odd_term", "_law_terms_right"] : List PySem.Str) ++ (["_law_right"] : List PySem.Str)
abbrev hQ : Program := PySem.W.view hR.prog [99]
theorem hRunF (w : World) : HandSHeadRun.RunEq hR hQ hHk hOb 9000 hNames (w.withFollow "special-get-raises" false) := by
  intro os
  kernel_rfl
theorem hRunT (w : World) : HandSHeadRun.RunEq hR hQ hHk hOb 9000 hNames (w.withFollow "special-get-raises" true) := by
  intro os
  kernel_rfl
theorem hRun (w : World) : HandSHeadRun.RunEq hR hQ hHk hOb 9000 hNames w :=
  PySem.W.byRow2 "special-get-raises" (P := fun w => HandSHeadRun.RunEq hR hQ hHk hOb 9000 hNames w) hRunF hRunT w
end Fy
set_option maxHeartbeats 4000000
/-! FyA -/
namespace Fy
open PySem PySem.Spec PyProof.Rows L2

/-- a global def x that keeps the promise sp, by at most level k -/
structure Has (P : Program) (w : World) (K : PySem.W.Frag) (mg : Str → Option Value) (base : Heap) (CX : CXT) (k : Nat) (x : Str) (ps : List Str) (sp : Sp) : Prop where
  ex : ∃ f fd, mg x = some (.ref f) ∧ PySem.W.keepIn K (.ref f) = true ∧ Binds K fd ps [] ∧ FnOk P w K mg base CX k f fd ps sp

section
variable {X : Cx} {CX : CXT} {k : Nat} {x : Str} {ps : List Str} {sp : Sp} {E : XK} {e : Expr} {es : List Expr} {t : TA} {p pos : Pos}
/-- x(e, ..) -/
theorem pe_has (h : Has X.prog X.w X.K X.mg X.base CX k x ps sp) (hr : Room k X.A) (hx : Passes CX X E) (ha : PA X (e :: es) t) (hg : Gl X x := by rfl) (hdb : (x == ("__debug__" : Str)) = false := by decide)
    (he : starEach (e :: es) X.env = (false, eval e X.env) :: starEach es X.env := by rfl) (hpl : (backTo pos (starEach es X.env)).any (·.1) = false := by rfl) :
    PE X (.Call (.Name x p) (e :: es) [] pos) (tCall sp [] E t) := by
  obtain ⟨f, fd, g, kp, b, G⟩ := h.ex
  exact pe_call G hr hg g kp b .nil hx ha (hdb := hdb) (he := he) (hpl := hpl)
theorem pe_has0 (h : Has X.prog X.w X.K X.mg X.base CX k x ps sp) (hr : Room k X.A) (hx : Passes CX X E) (hg : Gl X x := by rfl) (hdb : (x == ("__debug__" : Str)) = false := by decide) :
    PE X (.Call (.Name x p) [] [] pos) (tCall sp [] E tNil) := by
  obtain ⟨f, fd, g, kp, b, G⟩ := h.ex
  exact pe_call0 G hr hg g kp b .nil hx (hdb := hdb)
theorem pe_gs {v : Str} (h : ∃ t, X.mg x = some (.str v t)) (hg : Gl X x := by rfl) (hd : (x == ("__debug__" : Str)) = false := by decide) : PE X (.Name x pos) (tC (.str v)) := by
  obtain ⟨t, h⟩ := h
  exact pe_glob hg h ⟨_, rfl⟩ (hd := hd)
theorem pe_gi {v : Int} (h : ∃ t, X.mg x = some (.int v t)) (hg : Gl X x := by rfl) (hd : (x == ("__debug__" : Str)) = false := by decide) : PE X (.Name x pos) (tC (.int v)) := by
  obtain ⟨t, h⟩ := h
  exact pe_glob hg h ⟨_, rfl⟩ (hd := hd)
theorem pe_fldK {K : PySem.W.Frag} {o : Expr} {f : Str} {ta : TE} (he : PE X o ta) (hK : X.K = K := by rfl) (hb : attributeBase o f X.env (eval o X.env) = eval o X.env := by rfl) : PE X (.Attribute o f pos) (tFld K ta f) := by
  subst hK
  exact pe_fld he hb
end
theorem pi_listK {X : Cx} {K : PySem.W.Frag} {tg l : Expr} {tl : TE} (hl : PE X l tl) (hK : X.K = K := by rfl) : PI X tg l (iList K tl) := by
  subst hK
  exact pi_list hl
theorem pi_tupK {X : Cx} {K : PySem.W.Frag} {tg l : Expr} {tl : TE} (hl : PE X l tl) (hK : X.K = K := by rfl) : PI X tg l (iTup K tl) := by
  subst hK
  exact pi_tup hl
def rTupOf (K : PySem.W.Frag) : List V → Hp → VK → Prop := fun xs H Q => ∃ p ys, xs = [.ref p] ∧ ((SqL K H p ys ∧ ∀ l, H l = none → Q (.ref l) (upd H l (.tup ys))) ∨ (SqT K H p ys ∧ Q (.ref p) H))
theorem call_tupK {X : Cx} : CallR X (.type "tuple") (rTupOf X.K) := call_tuple_of
def rLenSq (K : PySem.W.Frag) : List V → Hp → VK → Prop := fun xs H Q => ∃ p ys, xs = [.ref p] ∧ (SqL K H p ys ∨ SqT K H p ys) ∧ Q (.int ys.length) H
theorem call_lenK {X : Cx} : CallR X (.builtin "len") (rLenSq X.K) := call_len_seq
/-- a method that keeps the promise sp -/
structure HasM (P : Program) (w : World) (K : PySem.W.Frag) (mg : Str → Option Value) (base : Heap) (CX : CXT) (k : Nat) (C : Addr) (m : Str) (ps : List Str) (sp : Sp) : Prop where
  ex : ∃ f fd, Meth K C m f ∧ Binds K fd ps [] ∧ FnOk P w K mg base CX k f fd ps sp
section
variable {X : Cx} {CX : CXT} {k : Nat} {C : Addr} {m : Str} {ps : List Str} {sp : Sp} {E : XK} {o e : Expr} {es : List Expr} {ta : TE} {t : TA} {apos pos : Pos}
theorem pe_hasM {pl : Sem Bool} (he : PE X o ta) (c : Cls X.K C) (h : HasM X.prog X.w X.K X.mg X.base CX k C m ps sp) (hr : Room k X.A) (hx : Passes CX X E) (ha : PA X (e :: es) t)
    (hst : starEach (e :: es) X.env = (false, eval e X.env) :: starEach es X.env := by rfl) (hpl : (backTo pos (starEach es X.env)).any (·.1) = false := by rfl)
    (ht : eval (.Call (.Attribute o m apos) (e :: es) [] pos) X.env = (do
      let ov ← eval o X.env
      standAt apos.atName
      let (f, first) ← holding [ov] (getMethod ov m pl)
      callWith pos f first (backTo pos (starEach (e :: es) X.env)) (backToKw pos (keywordEach [] X.env))) := by rfl) :
    PE X (.Call (.Attribute o m apos) (e :: es) [] pos) (tMeth C m sp [] E ta t) := by
  obtain ⟨f, fd, g, b, G⟩ := h.ex
  exact pe_meth he c g G hr b .nil hx ha (hst := hst) (hpl := hpl) (ht := ht)
theorem pe_hasM0 {pl : Sem Bool} (he : PE X o ta) (c : Cls X.K C) (h : HasM X.prog X.w X.K X.mg X.base CX k C m ps sp) (hr : Room k X.A) (hx : Passes CX X E)
    (ht : eval (.Call (.Attribute o m apos) [] [] pos) X.env = (do
      let ov ← eval o X.env
      standAt apos.atName
      let (f, first) ← holding [ov] (getMethod ov m pl)
      callWith pos f first (backTo pos (starEach [] X.env)) (backToKw pos (keywordEach [] X.env))) := by rfl) :
    PE X (.Call (.Attribute o m apos) [] [] pos) (tMeth C m sp [] E ta tNil) := by
  obtain ⟨f, fd, g, b, G⟩ := h.ex
  exact pe_meth0 he c g G hr b .nil hx (ht := ht)
end
/-- where a method stands -/
def MethAt (K : PySem.W.Frag) (mg : Str → Option Value) (C m q : Str) (st : Stmt) : Prop :=
  ∃ fd, FunD K m q (defArgs st) (defBody st) (defScope st) [] [] (He.ma K (He.ga K C) m) fd ∧ Meth K (He.ga K C) m (He.ma K (He.ga K C) m)
theorem b_str : bootBuiltins "str" = some (.type "str") := by decide +kernel
theorem b_int : bootBuiltins "int" = some (.type "int") := by decide +kernel
theorem b_tuple : bootBuiltins "tuple" = some (.type "tuple") := by decide +kernel
theorem b_list : bootBuiltins "list" = some (.type "list") := by decide +kernel
theorem b_bool : bootBuiltins "bool" = some (.type "bool") := by decide +kernel
theorem b_all : bootBuiltins "all" = some (.builtin "all") := by decide +kernel
theorem b_any : bootBuiltins "any" = some (.builtin "any") := by decide +kernel
theorem b_max : bootBuiltins "max" = some (.builtin "max") := by decide +kernel
theorem b_min : bootBuiltins "min" = some (.builtin "min") := by decide +kernel
theorem b_abs : bootBuiltins "abs" = some (.builtin "abs") := by decide +kernel
theorem b_divmod : bootBuiltins "divmod" = some (.builtin "divmod") := by decide +kernel
def DefAt (K : PySem.W.Frag) (mg : Str → Option Value) (x : Str) (st : Stmt) : Prop :=
  ∃ f fd, FunD K x x (defArgs st) (defBody st) (defScope st) [] [] f fd ∧ mg x = some (.ref f)

/-! ### slices -/
theorem cut_from (xs : List V) (k : Nat) : cutV xs (some (k : Int)) none = xs.drop k := by
  unfold cutV
  rw [HT.sIx_nat, HT.sIx_none]
  by_cases h : k ≤ xs.length
  · rw [Nat.min_eq_left h, List.take_of_length_le (by rw [List.length_drop]; omega)]
  · rw [Nat.min_eq_right (by omega), List.drop_eq_nil_of_le (by omega), List.drop_eq_nil_of_le (by omega), List.take_nil]
theorem cut_to (xs : List V) (k : Nat) : cutV xs none (some (k : Int)) = xs.take k := by
  unfold cutV
  rw [HT.sIx_nat, HT.sIx_none, Nat.sub_zero, List.drop_zero]
  by_cases h : k ≤ xs.length
  · rw [Nat.min_eq_left h]
  · rw [Nat.min_eq_right (by omega), List.take_of_length_le (by omega), List.take_of_length_le (by omega)]
theorem cut_mid (xs : List V) (a b : Nat) : cutV xs (some (a : Int)) (some (b : Int)) = (xs.drop a).take (b - a) := by
  unfold cutV
  rw [HT.sIx_nat, HT.sIx_nat]
  by_cases ha : a ≤ xs.length
  · rw [Nat.min_eq_left ha]
    by_cases hb : b ≤ xs.length
    · rw [Nat.min_eq_left hb]
    · rw [Nat.min_eq_right (by omega), List.take_of_length_le (by rw [List.length_drop]; omega), List.take_of_length_le (by rw [List.length_drop]; omega)]
  · rw [Nat.min_eq_right (by omega : xs.length ≤ a), List.drop_eq_nil_of_le (by omega : xs.length ≤ xs.length), List.drop_eq_nil_of_le (by omega : xs.length ≤ a)]
    simp
/-! ### iterators that run through known items and change nothing -/
structure Steady (J : It) (items : List V) (H1 : Hp) : Prop where
  go : ∀ i H, Same H1 H → i < items.length → J.go i H
  yld : ∀ i H x H', Same H1 H → i < items.length → J.yld i H x H' → H' = H ∧ items[i]? = some x
  stop : ∀ H, Same H1 H → J.stop items.length H
theorem same_seqT {K : PySem.W.Frag} {H H' : Hp} {a : Addr} {xs : List V} (e : Same H H') (h : SqT K H a xs) : SqT K H' a xs := by
  rcases h with (h | ⟨o, h⟩) | h
  · exact .inl (.inl (e _ _ h))
  · exact .inl (.inr ⟨o, e _ _ h⟩)
  · exact .inr h
theorem steady_l {K : PySem.W.Frag} {H : Hp} {a : Addr} {xs : List V} (h : SqL K H a xs) : Steady (Itl K a) xs H where
  go := fun i H' e l => ⟨xs, xs[i], e.seq h, by simp [l]⟩
  yld := fun i H' x H2 e _ y => ⟨y.1, y.2 xs (e.seq h)⟩
  stop := fun H' e => ⟨xs, e.seq h, Nat.le_refl _⟩
theorem steady_t {K : PySem.W.Frag} {H : Hp} {a : Addr} {xs : List V} (h : SqT K H a xs) : Steady (Itt K a) xs H where
  go := fun i H' e l => ⟨xs, xs[i], same_seqT e h, by simp [l]⟩
  yld := fun i H' x H2 e _ y => ⟨y.1, y.2 xs (same_seqT e h)⟩
  stop := fun H' e => ⟨xs, same_seqT e h, Nat.le_refl _⟩
/-- the signs of a text, one by one -/
def signs (z : Str) : List V := z.cps.toList.map fun c => V.str ⟨#[c]⟩
theorem steady_s {H : Hp} {z : Str} : Steady (Its z) (signs z) H where
  go := fun i H' _ l => by simpa [signs, Its] using l
  yld := fun i H' x H2 _ _ y => ⟨y.1, by
    obtain ⟨_, c, hc, e⟩ := y
    subst e
    have h2 : z.cps.toList[i]? = some c := by simpa using hc
    simp [signs, h2]⟩
  stop := fun H' _ => by simp [signs, Its]
theorem steady_r {H : Hp} {lo : Int} {n : Nat} : Steady (Itr lo n) ((List.range n).map fun i => V.int (lo + (i : Nat))) H where
  go := fun i H' _ l => by simpa [Itr] using l
  yld := fun i H' x H2 _ l y => by
    have l2 : i < n := by simpa using l
    obtain ⟨y1, y2⟩ := y
    refine ⟨y1, ?_⟩
    rw [y2]
    simp [l2]
  stop := fun H' _ => by simp [Itr]
/-- a comprehension whose element is a function of the item, over such an iterator: heaps only grow -/
theorem lc_pure {J : It} {items : List V} {f : V → V} {g : TG} {te : TE} {vs : List Nat} {σ : L2.St} {H1 : Hp} {Q : VK} (S : Steady J items H1) (hl : items.length ≤ sizeLine)
    (he : ∀ x H' (R : VK), x ∈ items → Same H1 H' → (∀ H'', Same H' H'' → R (f x) H'') → g x (wipe σ vs) H' fun σ2 H2 => wipe σ2 vs = wipe σ vs ∧ te σ2 H2 R)
    (q : ∀ D H', H1 D = none → Same H1 H' → H' D = some (.lst (items.map f)) → Q (.ref D) H') :
    ∀ D, H1 D = none → ∃ W : Nat → Nat → Hp → Prop, (∃ m, W 0 m (upd H1 D (.lst []))) ∧ ∀ i m H, W i m H →
      (J.stop i H ∧ Q (.ref D) H) ∨ (J.go i H ∧ ∃ Nx : Hp → Prop, (∀ H', Nx H' → ∃ m', m' < m ∧ W (i + 1) m' H') ∧ ∀ x H', J.yld i H x H' → g x (wipe σ vs) H' fun σ2 H2 => wipe σ2 vs = wipe σ vs ∧ tYes σ2 H2 fun b H3 =>
        if b = true then te σ2 H3 fun y H4 => ∃ acc, H4 D = some (.lst acc) ∧ acc.length < sizeLine ∧ Nx (upd H4 D (.lst (acc ++ [y]))) else Nx H3) := by
  intro D hD
  refine ⟨fun i m H => m = items.length - i ∧ i ≤ items.length ∧ Same H1 H ∧ H D = some (.lst ((items.take i).map f)), ⟨items.length, by simp, Nat.zero_le _, fun b o e => by rw [upd_ne (ne_of_none e hD)]; exact e, by rw [upd_same]; rfl⟩, ?_⟩
  rintro i m H ⟨rfl, hi, sm, hd⟩
  by_cases hlt : i < items.length
  · refine .inr ⟨S.go i H sm hlt, fun H => i + 1 ≤ items.length ∧ Same H1 H ∧ H D = some (.lst ((items.take (i + 1)).map f)), fun H' p' => ⟨items.length - (i + 1), by omega, rfl, p'⟩, fun x H' y => ?_⟩
    obtain ⟨e, hx⟩ := S.yld i H x H' sm hlt y
    subst e
    refine he x H' _ (List.mem_of_getElem? hx) sm fun H4 s4 => ?_
    have hD4 := s4 _ _ hd
    refine ⟨_, hD4, ?_, hlt, fun b o e => ?_, ?_⟩
    · rw [List.length_map, List.length_take]
      omega
    · rw [upd_ne (ne_of_none e hD)]
      exact s4 _ _ (sm _ _ e)
    · rw [upd_same, List.take_add_one, hx]
      simp
  · have e : i = items.length := by omega
    subst e
    rw [List.take_length] at hd
    exact .inl ⟨S.stop H sm, q D H hD sm hd⟩
/-! ### heaps that grow in some way -/
structure Grow (G : Hp → Hp → Prop) (H1 : Hp) : Prop where
  refl : ∀ H, G H H
  trans : ∀ {a b c}, G a b → G b c → G a c
  lst : ∀ D H H' acc, H1 D = none → G H1 H → G H H' → H D = some (.lst acc) → H' D = some (.lst acc)
  put : ∀ D H o, H1 D = none → G H1 H → G H1 (upd H D o)
theorem grow_same {H1 : Hp} : Grow Same H1 where
  refl := Same.refl
  trans := Same.trans
  lst := fun D H H' acc _ _ s h => s _ _ h
  put := fun D H o n s => fun b u e => by rw [upd_ne (ne_of_none e n)]; exact s _ _ e
structure SteadyG (G : Hp → Hp → Prop) (J : It) (items : List V) (H1 : Hp) : Prop where
  go : ∀ i H, G H1 H → i < items.length → J.go i H
  yld : ∀ i H x H', G H1 H → i < items.length → J.yld i H x H' → H' = H ∧ items[i]? = some x
  stop : ∀ H, G H1 H → J.stop items.length H
theorem Steady.g {J : It} {items : List V} {H1 : Hp} (S : Steady J items H1) : SteadyG Same J items H1 := ⟨S.go, S.yld, S.stop⟩
/-- a comprehension whose element stands in a relation to the item -/
theorem lc_rel {G : Hp → Hp → Prop} {Rl : V → V → Hp → Prop} {J : It} {items : List V} {g : TG} {te : TE} {vs : List Nat} {σ : L2.St} {H1 : Hp} {Q : VK} (gr : Grow G H1) (S : SteadyG G J items H1) (hl : items.length ≤ sizeLine)
    (mono : ∀ x v H H' D acc, H1 D = none → G H1 H → H D = some (.lst acc) → (∀ b o, b ≠ D → H b = some o → H' b = some o) → Rl x v H → Rl x v H')
    (monoG : ∀ x v H H', G H1 H → G H H' → Rl x v H → Rl x v H')
    (he : ∀ x H' (R : VK), x ∈ items → G H1 H' → (∀ v H'', G H' H'' → Rl x v H'' → R v H'') → g x (wipe σ vs) H' fun σ2 H2 => wipe σ2 vs = wipe σ vs ∧ te σ2 H2 R)
    (q : ∀ D H' ys, H1 D = none → G H1 H' → H' D = some (.lst ys) → Paired (fun x v => Rl x v H') items ys → Q (.ref D) H') :
    ∀ D, H1 D = none → ∃ W : Nat → Nat → Hp → Prop, (∃ m, W 0 m (upd H1 D (.lst []))) ∧ ∀ i m H, W i m H →
      (J.stop i H ∧ Q (.ref D) H) ∨ (J.go i H ∧ ∃ Nx : Hp → Prop, (∀ H', Nx H' → ∃ m', m' < m ∧ W (i + 1) m' H') ∧ ∀ x H', J.yld i H x H' → g x (wipe σ vs) H' fun σ2 H2 => wipe σ2 vs = wipe σ vs ∧ tYes σ2 H2 fun b H3 =>
        if b = true then te σ2 H3 fun y H4 => ∃ acc, H4 D = some (.lst acc) ∧ acc.length < sizeLine ∧ Nx (upd H4 D (.lst (acc ++ [y]))) else Nx H3) := by
  intro D hD
  have pl : ∀ {a b : List V} {H : Hp}, Paired (fun x v => Rl x v H) a b → a.length = b.length := fun p => Paired.length p
  refine ⟨fun i m H => m = items.length - i ∧ i ≤ items.length ∧ G H1 H ∧ ∃ ys, H D = some (.lst ys) ∧ Paired (fun x v => Rl x v H) (items.take i) ys, ⟨items.length, by simp, Nat.zero_le _, gr.put D H1 _ hD (gr.refl _), [], upd_same, .nil⟩, ?_⟩
  rintro i m H ⟨rfl, hi, sm, ys, hd, hp⟩
  by_cases hlt : i < items.length
  · refine .inr ⟨S.go i H sm hlt, fun H => i + 1 ≤ items.length ∧ G H1 H ∧ ∃ ys, H D = some (.lst ys) ∧ Paired (fun x v => Rl x v H) (items.take (i + 1)) ys, fun H' p' => ⟨items.length - (i + 1), by omega, rfl, p'⟩, fun x H' y => ?_⟩
    obtain ⟨e, hx⟩ := S.yld i H x H' sm hlt y
    subst e
    refine he x H' _ (List.mem_of_getElem? hx) sm fun v H4 s4 r4 => ?_
    have hD4 := gr.lst D _ _ _ hD sm s4 hd
    have sm4 := gr.trans sm s4
    have hl2 := pl hp
    refine ⟨_, hD4, ?_, hlt, gr.put D _ _ hD sm4, _, upd_same, ?_⟩
    · rw [← hl2, List.length_take]
      omega
    · have ap : ∀ {a b c d : List V} {H : Hp}, Paired (fun x v => Rl x v H) a b → Paired (fun x v => Rl x v H) c d → Paired (fun x v => Rl x v H) (a ++ c) (b ++ d) := by
        intro a b c d H h1 h2
        induction h1 with
        | nil => exact h2
        | cons r _ ih => exact .cons r ih
      have k : ∀ {x v}, Rl x v H4 → Rl x v (upd H4 D (.lst (ys ++ [v]))) := fun {x v} r => mono x v _ _ D _ hD sm4 hD4 (fun b o ne e => by rw [upd_ne ne]; exact e) r
      rw [List.take_add_one, hx]
      refine ap ?_ (.cons ?_ .nil)
      · refine Paired.mapP hp fun a b r => mono _ _ _ _ D _ hD sm4 hD4 (fun b o ne e => by rw [upd_ne ne]; exact e) (monoG _ _ _ _ sm s4 r)
      · exact mono _ _ _ _ D _ hD sm4 hD4 (fun b o ne e => by rw [upd_ne ne]; exact e) r4
  · have e : i = items.length := by omega
    subst e
    rw [List.take_length] at hp
    exact .inl ⟨S.stop H sm, q D H ys hD sm hd hp⟩
/-- all([..]) of such a comprehension -/
theorem all_pure {K : PySem.W.Frag} {J : It} {items : List V} {p : V → Bool} {g : TG} {te : TE} {vs : List Nat} {σ : L2.St} {H1 : Hp} {Q : VK} (S : Steady J items H1) (hl : items.length ≤ sizeLine)
    (he : ∀ x H' (R : VK), x ∈ items → Same H1 H' → (∀ H'', Same H' H'' → R (.bl (p x)) H'') → g x (wipe σ vs) H' fun σ2 H2 => wipe σ2 vs = wipe σ vs ∧ te σ2 H2 R)
    (q : ∀ H', Same H1 H' → Q (.bl (items.all p)) H') :
    ∀ D, H1 D = none → ∃ W : Nat → Nat → Hp → Prop, (∃ m, W 0 m (upd H1 D (.lst []))) ∧ ∀ i m H, W i m H →
      (J.stop i H ∧ tNil σ H fun xs H2 => rAll K (.ref D :: xs) H2 Q) ∨ (J.go i H ∧ ∃ Nx : Hp → Prop, (∀ H', Nx H' → ∃ m', m' < m ∧ W (i + 1) m' H') ∧ ∀ x H', J.yld i H x H' → g x (wipe σ vs) H' fun σ2 H2 => wipe σ2 vs = wipe σ vs ∧ tYes σ2 H2 fun b H3 =>
        if b = true then te σ2 H3 fun y H4 => ∃ acc, H4 D = some (.lst acc) ∧ acc.length < sizeLine ∧ Nx (upd H4 D (.lst (acc ++ [y]))) else Nx H3) :=
  lc_pure (Q := fun v H => tNil σ H fun xs H2 => rAll K (v :: xs) H2 Q) S hl he fun D H' hD sm hd => ⟨D, items.map p, rfl, SqL.of (by rw [List.map_map]; exact hd), by rw [List.all_map]; exact q H' sm⟩
theorem any_pure {K : PySem.W.Frag} {J : It} {items : List V} {p : V → Bool} {g : TG} {te : TE} {vs : List Nat} {σ : L2.St} {H1 : Hp} {Q : VK} (S : Steady J items H1) (hl : items.length ≤ sizeLine)
    (he : ∀ x H' (R : VK), x ∈ items → Same H1 H' → (∀ H'', Same H' H'' → R (.bl (p x)) H'') → g x (wipe σ vs) H' fun σ2 H2 => wipe σ2 vs = wipe σ vs ∧ te σ2 H2 R)
    (q : ∀ H', Same H1 H' → Q (.bl (items.any p)) H') :
    ∀ D, H1 D = none → ∃ W : Nat → Nat → Hp → Prop, (∃ m, W 0 m (upd H1 D (.lst []))) ∧ ∀ i m H, W i m H →
      (J.stop i H ∧ tNil σ H fun xs H2 => rAny K (.ref D :: xs) H2 Q) ∨ (J.go i H ∧ ∃ Nx : Hp → Prop, (∀ H', Nx H' → ∃ m', m' < m ∧ W (i + 1) m' H') ∧ ∀ x H', J.yld i H x H' → g x (wipe σ vs) H' fun σ2 H2 => wipe σ2 vs = wipe σ vs ∧ tYes σ2 H2 fun b H3 =>
        if b = true then te σ2 H3 fun y H4 => ∃ acc, H4 D = some (.lst acc) ∧ acc.length < sizeLine ∧ Nx (upd H4 D (.lst (acc ++ [y]))) else Nx H3) :=
  lc_pure (Q := fun v H => tNil σ H fun xs H2 => rAny K (v :: xs) H2 Q) S hl he fun D H' hD sm hd => ⟨D, items.map p, rfl, SqL.of (by rw [List.map_map]; exact hd), by rw [List.any_map]; exact q H' sm⟩
theorem tup_pure {K : PySem.W.Frag} {J : It} {items : List V} {f : V → V} {g : TG} {te : TE} {vs : List Nat} {σ : L2.St} {H1 : Hp} {Q : VK} (S : Steady J items H1) (hl : items.length ≤ sizeLine)
    (he : ∀ x H' (R : VK), x ∈ items → Same H1 H' → (∀ H'', Same H' H'' → R (f x) H'') → g x (wipe σ vs) H' fun σ2 H2 => wipe σ2 vs = wipe σ vs ∧ te σ2 H2 R)
    (q : ∀ H' l, Same H1 H' → H' l = none → Q (.ref l) (upd H' l (.tup (items.map f)))) :
    ∀ D, H1 D = none → ∃ W : Nat → Nat → Hp → Prop, (∃ m, W 0 m (upd H1 D (.lst []))) ∧ ∀ i m H, W i m H →
      (J.stop i H ∧ tNil σ H fun xs H2 => rTupOf K (.ref D :: xs) H2 Q) ∨ (J.go i H ∧ ∃ Nx : Hp → Prop, (∀ H', Nx H' → ∃ m', m' < m ∧ W (i + 1) m' H') ∧ ∀ x H', J.yld i H x H' → g x (wipe σ vs) H' fun σ2 H2 => wipe σ2 vs = wipe σ vs ∧ tYes σ2 H2 fun b H3 =>
        if b = true then te σ2 H3 fun y H4 => ∃ acc, H4 D = some (.lst acc) ∧ acc.length < sizeLine ∧ Nx (upd H4 D (.lst (acc ++ [y]))) else Nx H3) :=
  lc_pure (Q := fun v H => tNil σ H fun xs H2 => rTupOf K (v :: xs) H2 Q) S hl he fun D H' hD sm hd => ⟨D, items.map f, rfl, .inl ⟨SqL.of hd, fun l hl => q H' l sm hl⟩⟩
end Fy
/-! Er -/
/-! what a reading evaluates to: plain trees of values, heaps that grow but for a few known objects -/
namespace Fy
open PySem PySem.Spec PyProof.Rows L2
/-- what may change, and what stays true of it -/
structure Ez where
  K : PySem.W.Frag
  M : Addr → Prop
  J : Hp → Prop
  jm : ∀ {H H'}, J H → (∀ a o, H a = some o → (M a ∨ (∃ c q, o = LamX.CodeO c q) ∨ ∃ ps, o = .tbl ps) → H' a = some o) → J H'
  jd : ∀ {H a}, J H → M a → ∃ o, H a = some o
theorem Ez.jn (Z : Ez) {H : Hp} {a : Addr} {o : HO} (n : ¬ Z.M a) (h : H a = none ∨ ∃ xs, H a = some (.lst xs)) (j : Z.J H) : Z.J (upd H a o) := Z.jm j fun b u e m => by
  have ne : b ≠ a := fun z => by
    rw [z] at e m
    rcases h with h | ⟨xs, h⟩
    · rw [h] at e
      cases e
    · rw [h] at e
      cases e
      rcases m with m | ⟨c, q, m⟩ | ⟨ps, m⟩
      · exact n m
      · cases m
      · cases m
  rw [upd_ne ne]
  exact e
theorem Ez.jsame (Z : Ez) {H H' : Hp} (s : Same H H') (j : Z.J H) : Z.J H' := Z.jm j fun b u e _ => s b u e
/-- all but the few, and the tables of code objects, stays -/
def Gr (Z : Ez) (H H' : Hp) : Prop := ∀ a o, H a = some o → ¬ Z.M a → (∀ ps, o ≠ .tbl ps) → H' a = some o
theorem Gr.refl {Z : Ez} {H : Hp} : Gr Z H H := fun _ _ h _ _ => h
theorem Gr.trans {Z : Ez} {H H1 H2 : Hp} (a : Gr Z H H1) (b : Gr Z H1 H2) : Gr Z H H2 := fun x o h n t => b x o (a x o h n t) n t
theorem Gr.same {Z : Ez} {H H1 : Hp} (s : Same H H1) : Gr Z H H1 := fun a o h _ _ => s a o h
theorem Gr.new {Z : Ez} {H : Hp} {p : Addr} {o : HO} (h : H p = none) : Gr Z H (upd H p o) := fun a u e _ _ => by rw [upd_ne (ne_of_none e h)]; exact e
theorem Gr.mut {Z : Ez} {H : Hp} {p : Addr} {o : HO} (h : Z.M p) : Gr Z H (upd H p o) := fun a u e n _ => by rw [upd_ne (fun z : a = p => n (by rw [z]; exact h))]; exact e
theorem Gr.lst {Z : Ez} {H H' : Hp} {a : Addr} {xs : List V} (g : Gr Z H H') (h : H a = some (.lst xs)) (n : ¬ Z.M a) : H' a = some (.lst xs) := g a _ h n fun _ z => by cases z
theorem Gr.tup {Z : Ez} {H H' : Hp} {a : Addr} {xs : List V} (g : Gr Z H H') (h : H a = some (.tup xs)) (n : ¬ Z.M a) : H' a = some (.tup xs) := g a _ h n fun _ z => by cases z
theorem Ez.fresh {Z : Ez} {H : Hp} {p : Addr} (j : Z.J H) (h : H p = none) : ¬ Z.M p := fun m => by
  obtain ⟨o, e⟩ := Z.jd j m
  rw [e] at h
  cases h
theorem Ez.jnew {Z : Ez} {H : Hp} {p : Addr} {o : HO} (j : Z.J H) (h : H p = none) : Z.J (upd H p o) := Z.jn (Z.fresh j h) (.inl h) j
/-- known at most as a table -/
def Fresh (H : Hp) (D : Addr) : Prop := ∀ o, H D = some o → ∃ ps, o = .tbl ps
theorem Fresh.of {H : Hp} {D : Addr} (h : H D = none) : Fresh H D := fun o e => by
  rw [h] at e
  cases e
/-- fresh ahead of a growth is fresh before -/
theorem Gr.back {Z : Ez} {H H' : Hp} {p : Addr} (g : Gr Z H H') (j : Z.J H') (h : H' p = none) : Fresh H p := fun o e => by
  by_cases t : ∃ ps, o = .tbl ps
  · exact t
  · have := g p o e (Z.fresh j h) fun ps z => t ⟨ps, z⟩
    rw [h] at this
    cases this
/-- plain values -/
inductive PT where
  | i (n : Int) | s (z : Str) | b (c : Bool) | n | l (ts : List PT) | u (ts : List PT) | r (a : Addr)
def PT.str : PT → Str
  | .s z => z
  | _ => ""
def PT.strs : PT → List Str
  | .l ts => ts.map PT.str
  | .u ts => ts.map PT.str
  | _ => []
theorem map_str (zs : List Str) : (zs.map PT.s).map PT.str = zs := by
  rw [List.map_map]
  exact List.map_id zs
theorem strs_l (zs : List Str) : (PT.l (zs.map PT.s)).strs = zs := map_str zs
theorem strs_u (zs : List Str) : (PT.u (zs.map PT.s)).strs = zs := map_str zs
mutual
def Rep (Z : Ez) (H : Hp) : PT → V → Prop
  | .i n, v => v = .int n
  | .s z, v => v = .str z
  | .b c, v => v = .bl c
  | .n, v => v = .non
  | .r a, v => v = .ref a
  | .l ts, v => ∃ a xs, v = .ref a ∧ ¬ Z.M a ∧ H a = some (.lst xs) ∧ RepL Z H ts xs
  | .u ts, v => ∃ a xs, v = .ref a ∧ ¬ Z.M a ∧ H a = some (.tup xs) ∧ RepL Z H ts xs
def RepL (Z : Ez) (H : Hp) : List PT → List V → Prop
  | [], vs => vs = []
  | t :: ts, vs => ∃ x xs, vs = x :: xs ∧ Rep Z H t x ∧ RepL Z H ts xs
end
mutual
theorem Rep.mono {Z : Ez} {H H' : Hp} (g : Gr Z H H') : ∀ {t : PT} {v : V}, Rep Z H t v → Rep Z H' t v
  | .i _, _, h => h
  | .s _, _, h => h
  | .b _, _, h => h
  | .n, _, h => h
  | .r _, _, h => h
  | .l ts, _, ⟨a, xs, e, n, h, r⟩ => ⟨a, xs, e, n, g.lst h n, RepL.mono g r⟩
  | .u ts, _, ⟨a, xs, e, n, h, r⟩ => ⟨a, xs, e, n, g.tup h n, RepL.mono g r⟩
theorem RepL.mono {Z : Ez} {H H' : Hp} (g : Gr Z H H') : ∀ {ts : List PT} {vs : List V}, RepL Z H ts vs → RepL Z H' ts vs
  | [], _, h => h
  | t :: ts, _, ⟨x, xs, e, h, r⟩ => ⟨x, xs, e, Rep.mono g h, RepL.mono g r⟩
end
theorem RepL.length {Z : Ez} {H : Hp} : ∀ {ts : List PT} {vs : List V}, RepL Z H ts vs → vs.length = ts.length
  | [], _, h => by rw [show _ = [] from h]; rfl
  | t :: ts, _, ⟨x, xs, e, _, r⟩ => by rw [e, List.length_cons, List.length_cons, RepL.length r]
theorem RepL.app {Z : Ez} {H : Hp} : ∀ {ts us : List PT} {vs ws : List V}, RepL Z H ts vs → RepL Z H us ws → RepL Z H (ts ++ us) (vs ++ ws)
  | [], _, _, _, h, r => by rw [show _ = [] from h]; exact r
  | t :: ts, _, _, _, ⟨x, xs, e, h, r⟩, r2 => ⟨x, xs ++ _, by rw [e]; rfl, h, RepL.app r r2⟩
theorem RepL.drop {Z : Ez} {H : Hp} : ∀ (k : Nat) {ts : List PT} {vs : List V}, RepL Z H ts vs → RepL Z H (ts.drop k) (vs.drop k)
  | 0, _, _, h => h
  | k + 1, [], _, h => by rw [show _ = [] from h]; rfl
  | k + 1, t :: ts, _, ⟨x, xs, e, _, r⟩ => by rw [e]; exact RepL.drop k r
theorem RepL.take {Z : Ez} {H : Hp} : ∀ (k : Nat) {ts : List PT} {vs : List V}, RepL Z H ts vs → RepL Z H (ts.take k) (vs.take k)
  | 0, _, _, h => rfl
  | k + 1, [], _, h => by rw [show _ = [] from h]; rfl
  | k + 1, t :: ts, _, ⟨x, xs, e, h, r⟩ => by rw [e]; exact ⟨x, _, rfl, h, RepL.take k r⟩
theorem RepL.get {Z : Ez} {H : Hp} : ∀ {i : Nat} {t : PT} {ts : List PT} {vs : List V}, RepL Z H ts vs → ts[i]? = some t → ∃ x, vs[i]? = some x ∧ Rep Z H t x
  | _, _, [], _, _, e => by simp at e
  | 0, _, t :: ts, _, ⟨x, xs, e, h, r⟩, q => by
    subst e
    simp at q
    subst q
    exact ⟨x, rfl, h⟩
  | i + 1, _, t :: ts, _, ⟨x, xs, e, h, r⟩, q => by
    subst e
    obtain ⟨y, h1, h2⟩ := RepL.get (i := i) r (by simpa using q)
    exact ⟨y, by simpa using h1, h2⟩
theorem RepL.get' {Z : Ez} {H : Hp} : ∀ {i : Nat} {x : V} {ts : List PT} {vs : List V}, RepL Z H ts vs → vs[i]? = some x → ∃ t, ts[i]? = some t ∧ Rep Z H t x
  | _, _, [], _, h, e => by rw [show _ = [] from h] at e; simp at e
  | 0, _, t :: ts, _, ⟨x, xs, e, h, r⟩, q => by
    subst e
    simp at q
    subst q
    exact ⟨t, rfl, h⟩
  | i + 1, _, t :: ts, _, ⟨x, xs, e, h, r⟩, q => by
    subst e
    obtain ⟨y, h1, h2⟩ := RepL.get' (i := i) r (by simpa using q)
    exact ⟨y, by simpa using h1, h2⟩
theorem RepL.cut {Z : Ez} {H : Hp} {ts : List PT} {vs : List V} (h : RepL Z H ts vs) (lo hi : Option Int) : RepL Z H ((ts.drop (HT.sIx ts.length 0 lo)).take (HT.sIx ts.length ts.length hi - HT.sIx ts.length 0 lo)) (cutV vs lo hi) := by
  unfold cutV
  rw [RepL.length h]
  exact (h.drop _).take _
theorem RepL.strs {Z : Ez} {H : Hp} : ∀ (zs : List Str), RepL Z H (zs.map PT.s) (zs.map V.str)
  | [] => rfl
  | z :: zs => ⟨_, _, rfl, rfl, RepL.strs zs⟩
theorem RepL.strs' {Z : Ez} {H : Hp} : ∀ {zs : List Str} {vs : List V}, RepL Z H (zs.map PT.s) vs → vs = zs.map V.str
  | [], _, h => h
  | z :: zs, _, ⟨x, xs, e, h, r⟩ => by rw [e, show x = _ from h, RepL.strs' r]; rfl
theorem RepL.ints' {Z : Ez} {H : Hp} : ∀ {zs : List Int} {vs : List V}, RepL Z H (zs.map PT.i) vs → vs = zs.map V.int
  | [], _, h => h
  | z :: zs, _, ⟨x, xs, e, h, r⟩ => by rw [e, show x = _ from h, RepL.ints' r]; rfl
theorem RepL.bools' {Z : Ez} {H : Hp} : ∀ {zs : List Bool} {vs : List V}, RepL Z H (zs.map PT.b) vs → vs = zs.map V.bl
  | [], _, h => h
  | z :: zs, _, ⟨x, xs, e, h, r⟩ => by rw [e, show x = _ from h, RepL.bools' r]; rfl
theorem RepL.one {Z : Ez} {H : Hp} {t : PT} {x : V} (h : Rep Z H t x) : RepL Z H [t] [x] := ⟨_, _, rfl, h, rfl⟩
/-! ### readings -/
def Er (Z : Ez) (te : TE) (σ : L2.St) (H : Hp) (P : PT → Prop) : Prop := ∀ H1, Gr Z H H1 → Z.J H1 → ∀ Q : VK, (∀ t v H2, Gr Z H1 H2 → Z.J H2 → P t → Rep Z H2 t v → Q v H2) → te σ H1 Q
def Ea (Z : Ez) (ta : TA) (σ : L2.St) (H : Hp) (P : List PT → Prop) : Prop := ∀ H1, Gr Z H H1 → Z.J H1 → ∀ Q : List V → Hp → Prop, (∀ ts vs H2, Gr Z H1 H2 → Z.J H2 → P ts → RepL Z H2 ts vs → Q vs H2) → ta σ H1 Q
def Eb (Z : Ez) (tt : TT) (σ : L2.St) (H : Hp) (P : Bool → Prop) : Prop := ∀ H1, Gr Z H H1 → Z.J H1 → ∀ Q : Bool → Hp → Prop, (∀ b H2, Gr Z H1 H2 → Z.J H2 → P b → Q b H2) → tt σ H1 Q
def Eo (Z : Ez) (to : TO) (σ : L2.St) (H : Hp) (P : Option Int → Prop) : Prop := ∀ H1, Gr Z H H1 → Z.J H1 → ∀ Q : Option Int → Hp → Prop, (∀ b H2, Gr Z H1 H2 → Z.J H2 → P b → Q b H2) → to σ H1 Q
section
variable {Z : Ez} {te ta tb : TE} {tt : TT} {σ : L2.St} {H H' : Hp} {P R S : PT → Prop} {t u : PT} {v : V}
theorem Er.mono (g : Gr Z H H') (h : Er Z te σ H P) : Er Z te σ H' P := fun H1 g1 => h H1 (g.trans g1)
theorem Er.imp (h : Er Z te σ H P) (k : ∀ t, P t → R t) : Er Z te σ H R := fun H1 g j Q q => h H1 g j Q fun t v H2 g2 j2 p => q t v H2 g2 j2 (k t p)
theorem Ea.imp {P R : List PT → Prop} {ta : TA} (h : Ea Z ta σ H P) (k : ∀ t, P t → R t) : Ea Z ta σ H R := fun H1 g j Q q => h H1 g j Q fun t v H2 g2 j2 p => q t v H2 g2 j2 (k t p)
theorem Eb.imp {P R : Bool → Prop} (h : Eb Z tt σ H P) (k : ∀ t, P t → R t) : Eb Z tt σ H R := fun H1 g j Q q => h H1 g j Q fun b H2 g2 j2 p => q b H2 g2 j2 (k b p)
theorem Er.run (h : Er Z te σ H P) (j : Z.J H) {Q : VK} (q : ∀ t v H2, Gr Z H H2 → Z.J H2 → P t → Rep Z H2 t v → Q v H2) : te σ H Q := h H Gr.refl j Q q
theorem Eb.run {P : Bool → Prop} (h : Eb Z tt σ H P) (j : Z.J H) {Q : Bool → Hp → Prop} (q : ∀ b H2, Gr Z H H2 → Z.J H2 → P b → Q b H2) : tt σ H Q := h H Gr.refl j Q q
theorem er_var {i : Nat} (r : Rep Z H t v) (h : σ[i]? = some (some v) := by rfl) : Er Z (tVar i) σ H (· = t) := fun H1 g j Q q => ⟨v, h, q t v H1 Gr.refl j rfl (r.mono g)⟩
theorem er_varP {i : Nat} (p : P t) (r : Rep Z H t v) (h : σ[i]? = some (some v) := by rfl) : Er Z (tVar i) σ H P := fun H1 g j Q q => ⟨v, h, q t v H1 Gr.refl j p (r.mono g)⟩
theorem er_c (r : ∀ H, Rep Z H t v) : Er Z (tC v) σ H (· = t) := fun H1 g j Q q => q t v H1 Gr.refl j rfl (r _)
theorem er_i {n : Int} : Er Z (tC (.int n)) σ H (· = .i n) := er_c fun _ => rfl
theorem er_s {z : Str} : Er Z (tC (.str z)) σ H (· = .s z) := er_c fun _ => rfl
theorem er_b {c : Bool} : Er Z (tC (.bl c)) σ H (· = .b c) := er_c fun _ => rfl
theorem er_n : Er Z (tC .non) σ H (· = .n) := er_c fun _ => rfl
theorem ea_nil : Ea Z tNil σ H (· = []) := fun H1 _ j Q q => q [] [] H1 Gr.refl j rfl rfl
theorem ea_cons {ta : TA} {Ps : List PT → Prop} (h : Er Z te σ H P) (h2 : Ea Z ta σ H Ps) : Ea Z (tCons te ta) σ H (fun ts => ∃ t us, ts = t :: us ∧ P t ∧ Ps us) :=
  fun H1 g j Q q => h H1 g j _ fun t v H2 g2 j2 p r => h2 H2 (g.trans g2) j2 _ fun us vs H3 g3 j3 ps rs => q (t :: us) (v :: vs) H3 (g2.trans g3) j3 ⟨t, us, rfl, p, ps⟩ ⟨_, _, rfl, r.mono g3, rs⟩
/-- exactly -/
theorem ea_c {ta : TA} {us : List PT} (h : Er Z te σ H (· = t)) (h2 : Ea Z ta σ H (· = us)) : Ea Z (tCons te ta) σ H (· = t :: us) := (ea_cons h h2).imp fun _ ⟨_, _, e, e1, e2⟩ => by rw [e, e1, e2]
theorem ea_1 (h : Er Z te σ H P) : Ea Z (tCons te tNil) σ H (fun ts => ∃ t, ts = [t] ∧ P t) := (ea_cons h ea_nil).imp fun _ ⟨t, _, e, e1, e2⟩ => ⟨t, by rw [e, e2], e1⟩
theorem ea_2 (h : Er Z ta σ H P) (h2 : Er Z tb σ H R) : Ea Z (tCons ta (tCons tb tNil)) σ H (fun ts => ∃ t u, ts = [t, u] ∧ P t ∧ R u) := (ea_cons h (ea_1 h2)).imp fun _ ⟨t, _, e, e1, u, e2, e3⟩ => ⟨t, u, by rw [e, e2], e1, e3⟩
theorem er_tup {ta : TA} {Ps : List PT → Prop} (h : Ea Z ta σ H Ps) (hl : ∀ ts, Ps ts → ts.length ≤ sizeLine) : Er Z (tTup ta) σ H (fun t => ∃ ts, t = .u ts ∧ Ps ts) :=
  fun H1 g j Q q => h H1 g j _ fun ts vs H2 g2 j2 p r => ⟨by rw [r.length]; exact hl ts p, fun a ha => q (.u ts) (.ref a) _ (g2.trans (Gr.new ha)) (Z.jnew j2 ha) ⟨ts, rfl, p⟩ ⟨a, vs, rfl, Z.fresh j2 ha, upd_same, r.mono (Gr.new ha)⟩⟩
theorem er_lst {ta : TA} {Ps : List PT → Prop} (h : Ea Z ta σ H Ps) (hl : ∀ ts, Ps ts → ts.length ≤ sizeLine) : Er Z (tLst ta) σ H (fun t => ∃ ts, t = .l ts ∧ Ps ts) :=
  fun H1 g j Q q => h H1 g j _ fun ts vs H2 g2 j2 p r => ⟨by rw [r.length]; exact hl ts p, fun a ha => q (.l ts) (.ref a) _ (g2.trans (Gr.new ha)) (Z.jnew j2 ha) ⟨ts, rfl, p⟩ ⟨a, vs, rfl, Z.fresh j2 ha, upd_same, r.mono (Gr.new ha)⟩⟩
theorem er_lstc {ta : TA} {us : List PT} (h : Ea Z ta σ H (· = us)) (hl : us.length ≤ sizeLine := by decide) : Er Z (tLst ta) σ H (· = .l us) := (er_lst h (fun ts e => by rw [show ts = us from e]; exact hl)).imp fun _ ⟨_, e, e2⟩ => by rw [e, e2]
theorem er_tupc {ta : TA} {us : List PT} (h : Ea Z ta σ H (· = us)) (hl : us.length ≤ sizeLine := by decide) : Er Z (tTup ta) σ H (· = .u us) := (er_tup h (fun ts e => by rw [show ts = us from e]; exact hl)).imp fun _ ⟨_, e, e2⟩ => by rw [e, e2]
/-! operations -/
theorem er_op {r : R2} (ha : Er Z ta σ H P) (hb : Er Z tb σ H R) (hr : ∀ t u x y H1, Gr Z H H1 → Z.J H1 → P t → R u → Rep Z H1 t x → Rep Z H1 u y → ∀ Q : VK, (∀ w v H2, Gr Z H1 H2 → Z.J H2 → S w → Rep Z H2 w v → Q v H2) → r x y H1 Q) : Er Z (tOp r ta tb) σ H S :=
  fun H1 g j Q q => ha H1 g j _ fun t x H2 g2 j2 p rx => hb H2 (g.trans g2) j2 _ fun u y H3 g3 j3 p3 ry => hr t u x y H3 ((g.trans g2).trans g3) j3 p p3 (rx.mono g3) ry _ fun w v H4 g4 j4 s rv => q w v H4 ((g2.trans g3).trans g4) j4 s rv
theorem er_I0 {f : Int → Int → V} {a b : Int} (ha : Er Z ta σ H (· = .i a)) (hb : Er Z tb σ H (· = .i b)) (hf : ∀ H, Rep Z H t (f a b)) : Er Z (tOp (rI0 f) ta tb) σ H (· = t) :=
  er_op ha hb fun _ _ x y H1 _ j e1 e2 rx ry Q q => by
    subst e1 e2
    exact ⟨a, b, rx, ry, q t _ H1 Gr.refl j rfl (hf _)⟩
theorem er_I {C : Int → Int → Prop} {f : Int → Int → V} {a b : Int} (ha : Er Z ta σ H (· = .i a)) (hb : Er Z tb σ H (· = .i b)) (hc : C a b) (hf : ∀ H, Rep Z H t (f a b)) : Er Z (tOp (rI C f) ta tb) σ H (· = t) :=
  er_op ha hb fun _ _ x y H1 _ j e1 e2 rx ry Q q => by
    subst e1 e2
    exact ⟨a, b, rx, ry, hc, q t _ H1 Gr.refl j rfl (hf _)⟩
/-- ints that are not one -/
theorem er_I0P {f : Int → Int → V} {A B : Int → Prop} (ha : Er Z ta σ H (fun t => ∃ a, t = .i a ∧ A a)) (hb : Er Z tb σ H (fun t => ∃ b, t = .i b ∧ B b)) (hf : ∀ a b H, A a → B b → ∃ t, S t ∧ Rep Z H t (f a b)) : Er Z (tOp (rI0 f) ta tb) σ H S :=
  er_op ha hb fun _ _ x y H1 _ j ⟨a, e1, p1⟩ ⟨b, e2, p2⟩ rx ry Q q => by
    subst e1 e2
    obtain ⟨t, s, r⟩ := hf a b H1 p1 p2
    exact ⟨a, b, rx, ry, q t _ H1 Gr.refl j s r⟩
theorem er_addS {A B : Str → Prop} (ha : Er Z ta σ H (fun t => ∃ a, t = .s a ∧ A a)) (hb : Er Z tb σ H (fun t => ∃ b, t = .s b ∧ B b)) (hl : ∀ a b, A a → B b → a.length + b.length ≤ sizeLine) :
    Er Z (tOp (fun x y H Q => ∃ i j, x = .str i ∧ y = .str j ∧ i.length + j.length ≤ sizeLine ∧ Q (.str (i ++ j)) H) ta tb) σ H (fun t => ∃ a b, t = .s (a ++ b) ∧ A a ∧ B b) :=
  er_op ha hb fun _ _ x y H1 _ j ⟨a, e1, p1⟩ ⟨b, e2, p2⟩ rx ry Q q => by
    subst e1 e2
    exact ⟨a, b, rx, ry, hl a b p1 p2, q _ _ H1 Gr.refl j ⟨a, b, rfl, p1, p2⟩ rfl⟩
theorem er_catS {a b : Str} (ha : Er Z ta σ H (· = .s a)) (hb : Er Z tb σ H (· = .s b)) (hl : a.length + b.length ≤ sizeLine) :
    Er Z (tOp (fun x y H Q => ∃ i j, x = .str i ∧ y = .str j ∧ i.length + j.length ≤ sizeLine ∧ Q (.str (i ++ j)) H) ta tb) σ H (· = .s (a ++ b)) :=
  er_op ha hb fun _ _ x y H1 _ j e1 e2 rx ry Q q => by
    subst e1 e2
    exact ⟨a, b, rx, ry, hl, q _ _ H1 Gr.refl j rfl rfl⟩
theorem er_cat {A B : List PT → Prop} (ha : Er Z ta σ H (fun t => ∃ a, t = .l a ∧ A a)) (hb : Er Z tb σ H (fun t => ∃ b, t = .l b ∧ B b)) (hl : ∀ a b, A a → B b → a.length + b.length ≤ sizeLine) :
    Er Z (tOp rCat ta tb) σ H (fun t => ∃ a b, t = .l (a ++ b) ∧ A a ∧ B b) :=
  er_op ha hb fun _ _ x y H1 _ j ⟨as, e1, p1⟩ ⟨bs, e2, p2⟩ rx ry Q q => by
    subst e1 e2
    obtain ⟨a, xs, rfl, na, h1, r1⟩ := rx
    obtain ⟨b, ys, rfl, nb, h2, r2⟩ := ry
    exact ⟨a, b, xs, ys, rfl, rfl, h1, h2, by rw [r1.length, r2.length]; exact hl as bs p1 p2, fun c hc => q (.l (as ++ bs)) (.ref c) _ (Gr.new hc) (Z.jnew j hc) ⟨as, bs, rfl, p1, p2⟩
      ⟨c, _, rfl, Z.fresh j hc, upd_same, (r1.app r2).mono (Gr.new hc)⟩⟩
theorem er_catc {as bs : List PT} (ha : Er Z ta σ H (· = .l as)) (hb : Er Z tb σ H (· = .l bs)) (hl : as.length + bs.length ≤ sizeLine) : Er Z (tOp rCat ta tb) σ H (· = .l (as ++ bs)) :=
  (er_cat (A := (· = as)) (B := (· = bs)) (ha.imp fun _ e => ⟨as, e, rfl⟩) (hb.imp fun _ e => ⟨bs, e, rfl⟩) (fun _ _ e1 e2 => by rw [e1, e2]; exact hl)).imp fun _ ⟨a, b, e, e1, e2⟩ => by rw [e, e1, e2]
theorem er_ixL {as : List PT} {i : Int} {k : Nat} (ha : Er Z ta σ H (· = .l as)) (hb : Er Z tb σ H (· = .i i)) (hk : ixN as.length i = some k) (he : as[k]? = some t) : Er Z (tOp (rIxL Z.K) ta tb) σ H (· = t) :=
  er_op ha hb fun _ _ x y H1 _ j e1 e2 rx ry Q q => by
    subst e1 e2
    obtain ⟨a, xs, rfl, na, h1, r1⟩ := rx
    obtain ⟨v, hv, rv⟩ := r1.get he
    exact ⟨a, xs, i, v, rfl, ry, SqL.of h1, by unfold atI; rw [r1.length, hk]; exact hv, q t v H1 Gr.refl j rfl rv⟩
theorem er_ixT {as : List PT} {i : Int} {k : Nat} (ha : Er Z ta σ H (· = .u as)) (hb : Er Z tb σ H (· = .i i)) (hk : ixN as.length i = some k) (he : as[k]? = some t) : Er Z (tOp (rIxT Z.K) ta tb) σ H (· = t) :=
  er_op ha hb fun _ _ x y H1 _ j e1 e2 rx ry Q q => by
    subst e1 e2
    obtain ⟨a, xs, rfl, na, h1, r1⟩ := rx
    obtain ⟨v, hv, rv⟩ := r1.get he
    exact ⟨a, xs, i, v, rfl, ry, SqT.of h1, by unfold atI; rw [r1.length, hk]; exact hv, q t v H1 Gr.refl j rfl rv⟩
theorem eo_none : Eo Z tNoPart σ H (· = none) := fun H1 _ j Q q => q none H1 Gr.refl j rfl
theorem eo_some {i : Int} (h : Er Z te σ H (· = .i i)) : Eo Z (tPart te) σ H (· = some i) := fun H1 g j Q q => h H1 g j _ fun t v H2 g2 j2 p r => ⟨i, by subst p; exact r, q (some i) H2 g2 j2 rfl⟩
def cutP (as : List PT) (lo hi : Option Int) : List PT := (as.drop (HT.sIx as.length 0 lo)).take (HT.sIx as.length as.length hi - HT.sIx as.length 0 lo)
theorem er_slL {tl th : TO} {as : List PT} {lo hi : Option Int} (h : Er Z te σ H (· = .l as)) (h1 : Eo Z tl σ H (· = lo)) (h2 : Eo Z th σ H (· = hi)) : Er Z (tSl (rSlL Z.K) te tl th) σ H (· = .l (cutP as lo hi)) :=
  fun H1 g j Q q => h H1 g j _ fun t v H2 g2 j2 p r => h1 H2 (g.trans g2) j2 _ fun l H3 g3 j3 p3 => h2 H3 ((g.trans g2).trans g3) j3 _ fun m H4 g4 j4 p4 => by
    subst p p3 p4
    obtain ⟨a, xs, rfl, na, ha, ra⟩ := (r.mono g3).mono g4
    exact ⟨a, xs, rfl, SqL.of ha, fun c hc => q _ (.ref c) _ (((g2.trans g3).trans g4).trans (Gr.new hc)) (Z.jnew j4 hc) rfl ⟨c, _, rfl, Z.fresh j4 hc, upd_same, (ra.cut _ _).mono (Gr.new hc)⟩⟩
theorem er_slS {tl th : TO} {z : Str} {lo hi : Option Int} (h : Er Z te σ H (· = .s z)) (h1 : Eo Z tl σ H (· = lo)) (h2 : Eo Z th σ H (· = hi)) (hz : z.length ≤ sizeLine) : Er Z (tSl rSlS te tl th) σ H (· = .s (cutS z lo hi)) :=
  fun H1 g j Q q => h H1 g j _ fun t v H2 g2 j2 p r => h1 H2 (g.trans g2) j2 _ fun l H3 g3 j3 p3 => h2 H3 ((g.trans g2).trans g3) j3 _ fun m H4 g4 j4 p4 => by
    subst p p3 p4
    exact ⟨z, r, hz, q _ _ H4 ((g2.trans g3).trans g4) j4 rfl rfl⟩
theorem er_cb {r : List V → Hp → VK → Prop} {ta : TA} {Ps : List PT → Prop} (h : Ea Z ta σ H Ps) (hr : ∀ ts vs H1, Gr Z H H1 → Z.J H1 → Ps ts → RepL Z H1 ts vs → ∀ Q : VK, (∀ w v H2, Gr Z H1 H2 → Z.J H2 → S w → Rep Z H2 w v → Q v H2) → r vs H1 Q) : Er Z (tCB r ta) σ H S :=
  fun H1 g j Q q => h H1 g j _ fun ts vs H2 g2 j2 p rs => hr ts vs H2 (g.trans g2) j2 p rs _ fun w v H4 g4 j4 s rv => q w v H4 (g2.trans g4) j4 s rv
theorem er_len {as : List PT} (h : Er Z te σ H (fun t => t = .l as ∨ t = .u as)) : Er Z (tCB (rLenSq Z.K) (tCons te tNil)) σ H (· = .i as.length) :=
  er_cb (ea_1 h) fun ts vs H1 _ j ⟨t, e, p⟩ rs Q q => by
    subst e
    obtain ⟨x, xs, rfl, rx, rfl⟩ := rs
    rcases p with rfl | rfl
    · obtain ⟨a, ys, rfl, na, h1, r1⟩ := rx
      exact ⟨a, ys, rfl, .inl (SqL.of h1), by rw [r1.length]; exact q _ _ H1 Gr.refl j rfl rfl⟩
    · obtain ⟨a, ys, rfl, na, h1, r1⟩ := rx
      exact ⟨a, ys, rfl, .inr (SqT.of h1), by rw [r1.length]; exact q _ _ H1 Gr.refl j rfl rfl⟩
theorem er_lenL {as : List PT} (h : Er Z te σ H (· = .l as)) : Er Z (tCB (rLenSq Z.K) (tCons te tNil)) σ H (· = .i as.length) := er_len (h.imp fun _ e => .inl e)
theorem er_lenS {z : Str} (h : Er Z te σ H (· = .s z)) (hz : z.length ≤ sizeLine) : Er Z (tCB (fun xs H Q => ∃ z, xs = [.str z] ∧ z.length ≤ sizeLine ∧ Q (.int z.length) H) (tCons te tNil)) σ H (· = .i z.length) :=
  er_cb (ea_1 h) fun ts vs H1 _ j ⟨t, e, p⟩ rs Q q => by
    subst e p
    obtain ⟨x, xs, rfl, rx, rfl⟩ := rs
    exact ⟨z, by rw [show x = _ from rx], hz, q _ _ H1 Gr.refl j rfl rfl⟩
/-- tuple(a list) -/
theorem er_tuple {A : List PT → Prop} (h : Er Z te σ H (fun t => ∃ as, t = .l as ∧ A as)) : Er Z (tCB (rTupOf Z.K) (tCons te tNil)) σ H (fun t => ∃ as, t = .u as ∧ A as) :=
  er_cb (ea_1 h) fun ts vs H1 _ j ⟨t, e, as, p, pa⟩ rs Q q => by
    subst e p
    obtain ⟨x, xs, rfl, rx, rfl⟩ := rs
    obtain ⟨a, ys, rfl, na, h1, r1⟩ := rx
    exact ⟨a, ys, rfl, .inl ⟨SqL.of h1, fun l hl => q (.u as) _ _ (Gr.new hl) (Z.jnew j hl) ⟨as, rfl, pa⟩ ⟨l, ys, rfl, Z.fresh j hl, upd_same, r1.mono (Gr.new hl)⟩⟩⟩
theorem er_str {i : Int} (h : Er Z te σ H (· = .i i)) (hi : i.natAbs.log2 < 1920) : Er Z (tCB (fun xs H Q => ∃ i, xs = [.int i] ∧ i.natAbs.log2 < 1920 ∧ Q (.str (toString i)) H) (tCons te tNil)) σ H (· = .s (toString i)) :=
  er_cb (ea_1 h) fun ts vs H1 _ j ⟨t, e, p⟩ rs Q q => by
    subst e p
    obtain ⟨x, xs, rfl, rx, rfl⟩ := rs
    exact ⟨i, by rw [show x = _ from rx], hi, q _ _ H1 Gr.refl j rfl rfl⟩
theorem er_m1 {r : V → List V → Hp → VK → Prop} {a b : Str} (ha : Er Z ta σ H (· = .s a)) (hb : Er Z tb σ H P)
    (hr : ∀ u y H1, Gr Z H H1 → Z.J H1 → P u → Rep Z H1 u y → ∀ Q : VK, (∀ w v H2, Gr Z H1 H2 → Z.J H2 → S w → Rep Z H2 w v → Q v H2) → r (.str a) [y] H1 Q) : Er Z (tM1 r ta tb) σ H S :=
  fun H1 g j Q q => ha H1 g j _ fun t x H2 g2 j2 p rx => by
    subst p
    have e : x = .str a := rx
    subst e
    exact ⟨⟨a, rfl⟩, hb H2 (g.trans g2) j2 _ fun u y H3 g3 j3 p3 ry => hr u y H3 ((g.trans g2).trans g3) j3 p3 ry _ fun w v H4 g4 j4 s rv => q w v H4 ((g2.trans g3).trans g4) j4 s rv⟩
theorem er_join {sep : Str} {ys : Str → Prop} {zs : List Str} (ha : Er Z ta σ H (· = .s sep)) (hb : Er Z tb σ H (· = .l (zs.map PT.s))) (hl : (zs.map (·.length)).sum + zs.length * sep.length ≤ 16777216) :
    Er Z (tM1 (fun x xs H Q => ∃ a p, ∃ ys : List Str, x = .str a ∧ xs = [.ref p] ∧ (SqL Z.K H p (ys.map V.str) ∨ SqT Z.K H p (ys.map V.str)) ∧ (ys.map (·.length)).sum + ys.length * a.length ≤ 16777216 ∧ Q (.str (Txt.join a ys)) H) ta tb) σ H (· = .s (Txt.join sep zs)) :=
  er_m1 (b := sep) ha hb fun u y H1 g j p ry Q q => by
    subst p
    obtain ⟨a, xs, rfl, na, h1, r1⟩ := ry
    rw [r1.strs'] at h1
    exact ⟨sep, a, zs, rfl, rfl, .inl (SqL.of h1), hl, q _ _ H1 Gr.refl j rfl rfl⟩
theorem er_split {a b : Str} (ha : Er Z ta σ H (· = .s a)) (hb : Er Z tb σ H (· = .s b)) (h0 : (b.length == 0) = false) (hl : a.length + 2 ≤ sizeLine) :
    Er Z (tM1 (fun x xs H Q => ∃ a b, x = .str a ∧ xs = [.str b] ∧ (b.length == 0) = false ∧ a.length + 2 ≤ sizeLine ∧ rNewStrs (Txt.split a b) H Q) ta tb) σ H (· = .l ((Txt.split a b).map PT.s)) :=
  er_m1 (b := b) ha hb fun u y H1 g j p ry Q q => by
    subst p
    have e : y = .str b := ry
    subst e
    exact ⟨a, b, rfl, rfl, h0, hl, fun c hc => q _ (.ref c) _ (Gr.new hc) (Z.jnew j hc) rfl ⟨c, _, rfl, Z.fresh j hc, upd_same, RepL.strs _⟩⟩
theorem er_upper {a : Str} (ha : Er Z ta σ H (· = .s a)) (hl : a.length ≤ 5592405) : Er Z (tM0 (fun x xs H Q => ∃ a, x = .str a ∧ xs = [] ∧ a.length ≤ 5592405 ∧ Q (.str (Txt.upper a)) H) ta) σ H (· = .s (Txt.upper a)) :=
  fun H1 g j Q q => ha H1 g j _ fun t x H2 g2 j2 p rx => by
    subst p
    have e : x = .str a := rx
    subst e
    exact ⟨⟨a, rfl⟩, a, rfl, rfl, hl, q _ _ H2 g2 j2 rfl rfl⟩
/-! tests -/
def scalP : PT → Bool
  | .i _ => true | .s _ => true | .b _ => true | .n => true | _ => false
theorem er_eqS {a b : Str} (ha : Er Z ta σ H (· = .s a)) (hb : Er Z tb σ H (· = .s b)) : Er Z (tOp rEq ta tb) σ H (· = .b (decide (a = b))) :=
  er_op ha hb fun _ _ x y H1 _ j e1 e2 rx ry Q q => by
    subst e1 e2
    rw [show x = _ from rx, show y = _ from ry]
    exact ⟨rfl, q _ _ H1 Gr.refl j rfl (by show V.bl _ = V.bl _; simp)⟩
theorem er_neS {a b : Str} (ha : Er Z ta σ H (· = .s a)) (hb : Er Z tb σ H (· = .s b)) : Er Z (tOp rNe ta tb) σ H (· = .b (!decide (a = b))) :=
  er_op ha hb fun _ _ x y H1 _ j e1 e2 rx ry Q q => by
    subst e1 e2
    rw [show x = _ from rx, show y = _ from ry]
    exact ⟨rfl, q _ _ H1 Gr.refl j rfl (by show V.bl _ = V.bl _; simp)⟩
theorem er_eqI {a b : Int} (ha : Er Z ta σ H (· = .i a)) (hb : Er Z tb σ H (· = .i b)) : Er Z (tOp rEq ta tb) σ H (· = .b (decide (a = b))) :=
  er_op ha hb fun _ _ x y H1 _ j e1 e2 rx ry Q q => by
    subst e1 e2
    rw [show x = _ from rx, show y = _ from ry]
    exact ⟨rfl, q _ _ H1 Gr.refl j rfl (by show V.bl _ = V.bl _; simp)⟩
theorem eb_test {c : Bool} (h : Er Z te σ H (· = .b c)) : Eb Z (tTest te) σ H (· = c) := fun H1 g j Q q => h H1 g j _ fun t v H2 g2 j2 p r => ⟨c, by subst p; exact r, q c H2 g2 j2 rfl⟩
theorem eb_testP {B : Bool → Prop} (h : Er Z te σ H (fun t => ∃ c, t = .b c ∧ B c)) : Eb Z (tTest te) σ H B := fun H1 g j Q q => h H1 g j _ fun t v H2 g2 j2 ⟨c, e, p⟩ r => ⟨c, by subst e; exact r, q c H2 g2 j2 p⟩
theorem eb_B {c : Bool} (h : Er Z te σ H (· = .b c)) : Eb Z (tB te) σ H (· = c) := fun H1 g j Q q => h H1 g j _ fun t v H2 g2 j2 p r => ⟨c, by subst p; exact r, q c H2 g2 j2 rfl⟩
theorem eb_not {c : Bool} (h : Eb Z tt σ H (· = c)) : Eb Z (tNot tt) σ H (· = !c) := fun H1 g j Q q => h H1 g j _ fun b H2 g2 j2 p => q _ H2 g2 j2 (by rw [p])
theorem eb_and {tu : TT} {a b : Bool} (h : Eb Z tt σ H (· = a)) (h2 : a = true → Eb Z tu σ H (· = b)) : Eb Z (tAnd tt tu) σ H (· = (a && b)) := fun H1 g j Q q => h H1 g j _ fun c H2 g2 j2 p => by
  subst p
  cases c with
  | true => exact h2 rfl H2 (g.trans g2) j2 _ fun d H3 g3 j3 p3 => q d H3 (g2.trans g3) j3 p3
  | false => exact q false H2 g2 j2 rfl
theorem eb_or {tu : TT} {a b : Bool} (h : Eb Z tt σ H (· = a)) (h2 : a = false → Eb Z tu σ H (· = b)) : Eb Z (tOr tt tu) σ H (· = (a || b)) := fun H1 g j Q q => h H1 g j _ fun c H2 g2 j2 p => by
  subst p
  cases c with
  | false => exact h2 rfl H2 (g.trans g2) j2 _ fun d H3 g3 j3 p3 => q d H3 (g2.trans g3) j3 p3
  | true => exact q true H2 g2 j2 rfl
theorem er_andV {a b : Bool} (h : Er Z ta σ H (· = .b a)) (h2 : a = true → Er Z tb σ H (· = .b b)) : Er Z (tAndV ta tb) σ H (· = .b (a && b)) := fun H1 g j Q q => h H1 g j _ fun t x H2 g2 j2 p r => by
  subst p
  refine ⟨a, r, ?_⟩
  cases a with
  | true => exact h2 rfl H2 (g.trans g2) j2 _ fun t v H3 g3 j3 p3 r3 => q t v H3 (g2.trans g3) j3 p3 r3
  | false => exact q _ _ H2 g2 j2 rfl rfl
theorem er_if {c : Bool} (h : Eb Z tt σ H (· = c)) (h1 : c = true → Er Z ta σ H P) (h2 : c = false → Er Z tb σ H P) : Er Z (tIf tt ta tb) σ H P := fun H1 g j Q q => h H1 g j _ fun b H2 g2 j2 p => by
  subst p
  cases b with
  | true => exact h1 rfl H2 (g.trans g2) j2 _ fun t v H3 g3 j3 p3 r3 => q t v H3 (g2.trans g3) j3 p3 r3
  | false => exact h2 rfl H2 (g.trans g2) j2 _ fun t v H3 g3 j3 p3 r3 => q t v H3 (g2.trans g3) j3 p3 r3
end
/-! ### one more object that may change -/
def Ez.acc (Z : Ez) (D : Addr) (o : HO) : Ez where
  K := Z.K
  M := fun a => a = D ∨ Z.M a
  J := fun H => Z.J H ∧ H D = some o
  jm := fun {H H'} h k => ⟨Z.jm h.1 fun a u e m => k a u e (m.elim (fun m => .inl (.inr m)) .inr), k D o h.2 (.inl (.inl rfl))⟩
  jd := fun {H a} h m => by
    rcases m with rfl | m
    · exact ⟨_, h.2⟩
    · exact Z.jd h.1 m
mutual
theorem Rep.conv {Z Z' : Ez} {H : Hp} (k : Z'.K = Z.K) (m : ∀ a, Z'.M a → Z.M a) : ∀ {t : PT} {v : V}, Rep Z H t v → Rep Z' H t v
  | .i _, _, h => h
  | .s _, _, h => h
  | .b _, _, h => h
  | .n, _, h => h
  | .r _, _, h => h
  | .l ts, _, ⟨a, xs, e, n, h, r⟩ => ⟨a, xs, e, fun z => n (m a z), h, RepL.conv k m r⟩
  | .u ts, _, ⟨a, xs, e, n, h, r⟩ => ⟨a, xs, e, fun z => n (m a z), h, RepL.conv k m r⟩
theorem RepL.conv {Z Z' : Ez} {H : Hp} (k : Z'.K = Z.K) (m : ∀ a, Z'.M a → Z.M a) : ∀ {ts : List PT} {vs : List V}, RepL Z H ts vs → RepL Z' H ts vs
  | [], _, h => h
  | t :: ts, _, ⟨x, xs, e, h, r⟩ => ⟨x, xs, e, Rep.conv k m h, RepL.conv k m r⟩
end
mutual
theorem Rep.acc {Z : Ez} {D : Addr} {o : HO} {H : Hp} (hD : Fresh H D) : ∀ {t : PT} {v : V}, Rep Z H t v → Rep (Z.acc D o) H t v
  | .i _, _, h => h
  | .s _, _, h => h
  | .b _, _, h => h
  | .n, _, h => h
  | .r _, _, h => h
  | .l ts, _, ⟨a, xs, e, n, h, r⟩ => ⟨a, xs, e, fun z => z.elim (fun z => by (rw [z] at h; obtain ⟨ps, e⟩ := hD _ h; cases e)) n, h, RepL.acc hD r⟩
  | .u ts, _, ⟨a, xs, e, n, h, r⟩ => ⟨a, xs, e, fun z => z.elim (fun z => by (rw [z] at h; obtain ⟨ps, e⟩ := hD _ h; cases e)) n, h, RepL.acc hD r⟩
theorem RepL.acc {Z : Ez} {D : Addr} {o : HO} {H : Hp} (hD : Fresh H D) : ∀ {ts : List PT} {vs : List V}, RepL Z H ts vs → RepL (Z.acc D o) H ts vs
  | [], _, h => h
  | t :: ts, _, ⟨x, xs, e, h, r⟩ => ⟨x, xs, e, Rep.acc hD h, RepL.acc hD r⟩
end
theorem Rep.unacc {Z : Ez} {D : Addr} {o : HO} {H : Hp} {t : PT} {v : V} (h : Rep (Z.acc D o) H t v) : Rep Z H t v := Rep.conv (Z := Z.acc D o) (Z' := Z) rfl (fun _ m => Or.inr m) h
theorem RepL.unacc {Z : Ez} {D : Addr} {o : HO} {H : Hp} {t : List PT} {v : List V} (h : RepL (Z.acc D o) H t v) : RepL Z H t v := RepL.conv (Z := Z.acc D o) (Z' := Z) rfl (fun _ m => Or.inr m) h
theorem Rep.reacc {Z : Ez} {D : Addr} {o u : HO} {H : Hp} {t : PT} {v : V} (h : Rep (Z.acc D o) H t v) : Rep (Z.acc D u) H t v := Rep.conv (Z := Z.acc D o) (Z' := Z.acc D u) rfl (fun _ m => m) h
theorem RepL.reacc {Z : Ez} {D : Addr} {o u : HO} {H : Hp} {t : List PT} {v : List V} (h : RepL (Z.acc D o) H t v) : RepL (Z.acc D u) H t v := RepL.conv (Z := Z.acc D o) (Z' := Z.acc D u) rfl (fun _ m => m) h
/-- growth, D being fresh at the start -/
theorem Gr.unacc {Z : Ez} {D : Addr} {o : HO} {H1 H H' : Hp} (hD : Fresh H1 D) (g : Gr Z H1 H) (g2 : Gr (Z.acc D o) H H') : Gr Z H1 H' := fun a u e n t => g2 a u (g a u e n t) (fun z => z.elim (fun z => by (rw [z] at e; obtain ⟨ps, q⟩ := hD _ e; exact t ps q)) n) t
theorem Gr.acc {Z : Ez} {D : Addr} {o : HO} {H H' : Hp} (g : Gr Z H H') : Gr (Z.acc D o) H H' := fun a u e n => g a u e (fun m => n (.inr m))
theorem Gr.putacc {Z : Ez} {D : Addr} {o u : HO} {H : Hp} : Gr (Z.acc D o) H (upd H D u) := Gr.mut (.inl rfl)
theorem Gr.putn {Z : Ez} {D : Addr} {u : HO} {H1 H : Hp} (hD : Fresh H1 D) (g : Gr Z H1 H) : Gr Z H1 (upd H D u) := fun a o e n t => by
  rw [upd_ne (fun z : a = D => by (rw [z] at e; obtain ⟨ps, q⟩ := hD _ e; exact t ps q))]
  exact g a o e n t
/-! ### walks -/
def Ei (Z : Ez) (wi : TI) (σ : L2.St) (H : Hp) (P : List PT → Prop) : Prop := ∀ H1, Gr Z H H1 → Z.J H1 → ∀ Q : It → Hp → Prop,
  (∀ J ts vs H2, Gr Z H1 H2 → Z.J H2 → P ts → RepL Z H2 ts vs → SteadyG (Gr Z) J vs H2 → Q J H2) → wi σ H1 Q
section
variable {Z : Ez} {te ta tb : TE} {tt : TT} {σ : L2.St} {H H' : Hp} {P : PT → Prop} {t u : PT} {v : V}
theorem ei_list {A : List PT → Prop} (h : Er Z te σ H (fun t => ∃ as, t = .l as ∧ A as)) : Ei Z (iList Z.K te) σ H A := fun H1 g j Q q => h H1 g j _ fun t v H2 g2 j2 ⟨as, e, p⟩ r => by
  subst e
  obtain ⟨a, xs, rfl, na, h1, r1⟩ := r
  exact ⟨a, rfl, ⟨xs, SqL.of h1⟩, q _ as xs H2 g2 j2 p r1 ⟨fun i H' e l => ⟨xs, xs[i], SqL.of (e.lst h1 na), by simp [l]⟩, fun i H' x H2 e _ y => ⟨y.1, y.2 xs (SqL.of (e.lst h1 na))⟩, fun H' e => ⟨xs, SqL.of (e.lst h1 na), Nat.le_refl _⟩⟩⟩
theorem ei_listc {as : List PT} (h : Er Z te σ H (· = .l as)) : Ei Z (iList Z.K te) σ H (· = as) := ei_list (h.imp fun _ e => ⟨as, e, rfl⟩)
theorem ei_tup {A : List PT → Prop} (h : Er Z te σ H (fun t => ∃ as, t = .u as ∧ A as)) : Ei Z (iTup Z.K te) σ H A := fun H1 g j Q q => h H1 g j _ fun t v H2 g2 j2 ⟨as, e, p⟩ r => by
  subst e
  obtain ⟨a, xs, rfl, na, h1, r1⟩ := r
  exact ⟨a, rfl, ⟨xs, SqT.of h1⟩, q _ as xs H2 g2 j2 p r1 ⟨fun i H' e l => ⟨xs, xs[i], SqT.of (e.tup h1 na), by simp [l]⟩, fun i H' x H2 e _ y => ⟨y.1, y.2 xs (SqT.of (e.tup h1 na))⟩, fun H' e => ⟨xs, SqT.of (e.tup h1 na), Nat.le_refl _⟩⟩⟩
theorem ei_tupc {as : List PT} (h : Er Z te σ H (· = .u as)) : Ei Z (iTup Z.K te) σ H (· = as) := ei_tup (h.imp fun _ e => ⟨as, e, rfl⟩)
def signsP (z : Str) : List PT := z.cps.toList.map fun c => PT.s ⟨#[c]⟩
theorem rep_signs {Z : Ez} {H : Hp} (z : Str) : RepL Z H (signsP z) (signs z) := by
  unfold signs signsP
  generalize z.cps.toList = l
  induction l with
  | nil => rfl
  | cons c l ih => exact ⟨_, _, rfl, rfl, ih⟩
theorem ei_str {z : Str} (h : Er Z te σ H (· = .s z)) : Ei Z (iStr te) σ H (· = signsP z) := fun H1 g j Q q => h H1 g j _ fun t v H2 g2 j2 p r => by
  subst p
  have s : Steady (Its z) (signs z) H2 := steady_s
  exact ⟨z, r, q _ _ _ H2 g2 j2 rfl (rep_signs z) ⟨fun i H' _ l => by have := s.go i H2 (Same.refl _) l; exact this, fun i H' x H3 _ l y => by
    obtain ⟨y1, y2⟩ := y
    subst y1
    have := s.yld i H2 x H2 (Same.refl _) l ⟨rfl, y2⟩
    exact ⟨rfl, this.2⟩, fun H' _ => s.stop H2 (Same.refl _)⟩⟩
theorem rep_range {Z : Ez} {H : Hp} (n : Nat) : RepL Z H ((List.range n).map fun i => PT.i (0 + ((i : Nat) : Int))) ((List.range n).map fun i => V.int (0 + ((i : Nat) : Int))) := by
  generalize List.range n = l
  induction l with
  | nil => rfl
  | cons c l ih => exact ⟨_, _, rfl, rfl, ih⟩
theorem ei_range1 {A : Int → Prop} (h : Er Z te σ H (fun t => ∃ n, t = .i n ∧ A n)) (hn : ∀ n, A n → 0 ≤ n ∧ n < 2 ^ 40) : Ei Z (iRng1 (tCons te tNil)) σ H (fun ts => ∃ n, A n ∧ ts = (List.range n.toNat).map fun i => PT.i (0 + ((i : Nat) : Int))) :=
  fun H1 g j Q q => ea_1 h H1 g j _ fun ts vs H2 g2 j2 ⟨t, e, n, e2, p⟩ rs => by
    subst e e2
    obtain ⟨x, xs, rfl, rx, rfl⟩ := rs
    have hb := hn n p
    have s : Steady (Itr 0 n.toNat) _ H2 := steady_r
    exact ⟨n, by rw [show x = _ from rx], by omega, by omega, q _ _ _ H2 g2 j2 ⟨n, p, rfl⟩ (rep_range _) ⟨fun i H' _ l => by have := s.go i H2 (Same.refl _) l; exact this, fun i H' x H3 _ l y => by
      obtain ⟨y1, y2⟩ := y
      subst y1
      have := s.yld i H2 x H2 (Same.refl _) l ⟨rfl, y2⟩
      exact ⟨rfl, this.2⟩, fun H' _ => s.stop H2 (Same.refl _)⟩⟩
end
/-! ### comprehensions -/
theorem paired_app {α β : Type} {R : α → β → Prop} : ∀ {a c : List α} {b d : List β}, Paired R a b → Paired R c d → Paired R (a ++ c) (b ++ d)
  | _, _, _, _, .nil, h => h
  | _, _, _, _, .cons r p, h => .cons r (paired_app p h)
theorem er_lcF {Z : Ez} {wi : TI} {g : TG} {tt : TT} {te : TE} {vs : List Nat} {σ : L2.St} {H : Hp} {P : List PT → Prop} {f : PT → Bool} {R : PT → PT → Prop} (hi : Ei Z wi σ H P) (hl : ∀ ts, P ts → ts.length ≤ sizeLine)
    (hg : ∀ ts D o t x H1 (Kt : L2.St → Hp → Prop), P ts → t ∈ ts → Fresh H D → Gr Z H H1 → (Z.acc D o).J H1 → Rep (Z.acc D o) H1 t x →
      (∀ σ2, wipe σ2 vs = wipe σ vs → Eb (Z.acc D o) tt σ2 H1 (· = f t) → (f t = true → Er (Z.acc D o) te σ2 H1 (R t)) → Kt σ2 H1) → g x (wipe σ vs) H1 Kt) :
    Er Z (tLc wi g tt te vs) σ H (fun t => ∃ ts us, P ts ∧ t = .l us ∧ Paired R (ts.filter f) us) := by
  intro H0 g0 j0 Q q
  refine hi H0 g0 j0 _ fun J ts xs H1 g1 j1 p rs S => ?_
  intro D hD
  have hl1 : xs.length = ts.length := rs.length
  have gH1 : Gr Z H H1 := g0.trans g1
  have hDH : Fresh H D := gH1.back j1 hD
  have hD1 : Fresh H1 D := Fresh.of hD
  refine ⟨fun i m H' => m = ts.length - i ∧ i ≤ ts.length ∧ Gr Z H1 H' ∧ Z.J H' ∧ ∃ ys us, H' D = some (.lst ys) ∧ RepL (Z.acc D (.lst [])) H' us ys ∧ ys.length ≤ i ∧ Paired R ((ts.take i).filter f) us,
    ⟨ts.length, by simp, Nat.zero_le _, Gr.new hD, Z.jnew j1 hD, [], [], upd_same, rfl, Nat.le_refl _, .nil⟩, ?_⟩
  rintro i m H' ⟨rfl, hile, gg, jj, ys, us, hd, ru, hyl, hp⟩
  by_cases hlt : i < ts.length
  · refine .inr ⟨S.go i H' gg (by omega), fun H' => i + 1 ≤ ts.length ∧ Gr Z H1 H' ∧ Z.J H' ∧ ∃ ys us, H' D = some (.lst ys) ∧ RepL (Z.acc D (.lst [])) H' us ys ∧ ys.length ≤ i + 1 ∧ Paired R ((ts.take (i + 1)).filter f) us, fun H' p' => ⟨ts.length - (i + 1), by omega, rfl, p'⟩, fun x H2 y => ?_⟩
    obtain ⟨e, hx⟩ := S.yld i H' x H2 gg (by omega) y
    subst e
    obtain ⟨t, ht, rt⟩ := rs.get' hx
    have rt2 : Rep (Z.acc D (.lst ys)) H2 t x := (rt.acc hD1).mono gg.acc
    have htk : ts.take (i + 1) = ts.take i ++ [t] := by rw [List.take_add_one, ht]; rfl
    refine hg ts D (.lst ys) t x H2 _ p (List.mem_of_getElem? ht) hDH (gH1.trans gg) ⟨jj, hd⟩ rt2 fun σ2 hw hb he => ⟨hw, ?_⟩
    refine hb H2 Gr.refl ⟨jj, hd⟩ _ fun b H3 g3 j3 eb => ?_
    have gg3 : Gr Z H1 H3 := Gr.unacc hD1 gg g3
    subst eb
    cases hf : f t with
    | true =>
      rw [if_pos rfl]
      refine he hf H3 g3 j3 _ fun w v H4 g4 j4 pw rw4 => ?_
      refine ⟨ys, j4.2, by have := hl ts p; omega, hlt, Gr.putn hD1 (Gr.unacc hD1 gg3 g4), Z.jn (Z.fresh j1 hD) (.inr ⟨_, j4.2⟩) j4.1, ys ++ [v], us ++ [w], upd_same, ?_, by rw [List.length_append]; simp; omega, ?_⟩
      · have g5 : Gr (Z.acc D (.lst ys)) H2 (upd H4 D (.lst (ys ++ [v]))) := (g3.trans g4).trans Gr.putacc
        exact RepL.app ((RepL.reacc (u := .lst ys) ru).mono g5).reacc (RepL.one (rw4.mono Gr.putacc).reacc)
      · rw [htk, List.filter_append]
        refine paired_app hp ?_
        rw [List.filter_cons_of_pos hf]
        exact .cons pw .nil
    | false =>
      rw [if_neg (by decide)]
      refine ⟨hlt, gg3, j3.1, ys, us, j3.2, (RepL.reacc (u := .lst ys) ru).mono g3 |>.reacc, by omega, ?_⟩
      rw [htk, List.filter_append, List.filter_cons_of_neg (by simp [hf]), List.filter_nil, List.append_nil]
      exact hp
  · have e : i = ts.length := by omega
    subst e
    rw [List.take_length] at hp
    refine .inl ⟨by rw [← hl1]; exact S.stop H' gg, q (.l us) (.ref D) H' (g1.trans gg) jj ⟨ts, us, p, rfl, hp⟩ ⟨D, ys, rfl, Z.fresh j1 hD, hd, ru.unacc⟩⟩
theorem filter_yes {α : Type} (l : List α) : l.filter (fun _ => true) = l := by simp
/-- without a test, the target a name -/
theorem er_lc {Z : Ez} {wi : TI} {j : Nat} {te : TE} {vs : List Nat} {σ : L2.St} {H : Hp} {P : List PT → Prop} {R : PT → PT → Prop} (hi : Ei Z wi σ H P) (hl : ∀ ts, P ts → ts.length ≤ sizeLine) (hw : ∀ x, wipe ((wipe σ vs).set j (some x)) vs = wipe σ vs)
    (he : ∀ ts D o t x H1, P ts → t ∈ ts → Fresh H D → Gr Z H H1 → Rep (Z.acc D o) H1 t x → Er (Z.acc D o) te ((wipe σ vs).set j (some x)) H1 (R t)) :
    Er Z (tLc wi (gName j) tYes te vs) σ H (fun t => ∃ ts us, P ts ∧ t = .l us ∧ Paired R ts us) :=
  (er_lcF (f := fun _ => true) hi hl fun ts D o t x H1 Kt p m hD g j r k => k _ (hw x) (fun H2 g2 j2 Q q => q true H2 Gr.refl j2 rfl) fun _ => he ts D o t x H1 p m hD g r).imp fun t ⟨ts, us, p, e, h⟩ => ⟨ts, us, p, e, by rwa [filter_yes] at h⟩
theorem paired_map {α β : Type} {f : α → β} : ∀ {l : List α} {us : List β}, Paired (fun t u => u = f t) l us → us = l.map f
  | _, _, .nil => rfl
  | _, _, .cons e p => by rw [e, paired_map p]; rfl
theorem paired_imp {α β : Type} {R S : α → β → Prop} (k : ∀ a b, R a b → S a b) : ∀ {l : List α} {us : List β}, Paired R l us → Paired S l us
  | _, _, .nil => .nil
  | _, _, .cons e p => .cons (k _ _ e) (paired_imp k p)
/-- .. the element a function of the item -/
theorem er_lcf {Z : Ez} {wi : TI} {j : Nat} {te : TE} {vs : List Nat} {σ : L2.St} {H : Hp} {as : List PT} {f : PT → PT} (hi : Ei Z wi σ H (· = as)) (hl : as.length ≤ sizeLine) (hw : ∀ x, wipe ((wipe σ vs).set j (some x)) vs = wipe σ vs)
    (he : ∀ D o t x H1, t ∈ as → Fresh H D → Gr Z H H1 → Rep (Z.acc D o) H1 t x → Er (Z.acc D o) te ((wipe σ vs).set j (some x)) H1 (· = f t)) :
    Er Z (tLc wi (gName j) tYes te vs) σ H (· = .l (as.map f)) :=
  (er_lc (R := fun t u => u = f t) hi (fun ts e => by rw [show ts = as from e]; exact hl) hw fun ts D o t x H1 e m => by subst e; exact he D o t x H1 m).imp fun t ⟨ts, us, e, e2, h⟩ => by subst e; rw [e2, paired_map h]
/-- all, any of a list of booleans -/
theorem er_all {Z : Ez} {te : TE} {σ : L2.St} {H : Hp} {bs : List Bool} (h : Er Z te σ H (· = .l (bs.map PT.b))) : Er Z (tCB (rAll Z.K) (tCons te tNil)) σ H (· = .b (bs.all id)) :=
  er_cb (ea_1 h) fun ts vs H1 _ j ⟨t, e, p⟩ rs Q q => by
    subst e p
    obtain ⟨x, xs, rfl, rx, rfl⟩ := rs
    obtain ⟨a, ys, rfl, na, h1, r1⟩ := rx
    exact ⟨a, bs, rfl, by rw [← r1.bools']; exact SqL.of h1, q _ _ H1 Gr.refl j rfl rfl⟩
theorem er_any {Z : Ez} {te : TE} {σ : L2.St} {H : Hp} {bs : List Bool} (h : Er Z te σ H (· = .l (bs.map PT.b))) : Er Z (tCB (rAny Z.K) (tCons te tNil)) σ H (· = .b (bs.any id)) :=
  er_cb (ea_1 h) fun ts vs H1 _ j ⟨t, e, p⟩ rs Q q => by
    subst e p
    obtain ⟨x, xs, rfl, rx, rfl⟩ := rs
    obtain ⟨a, ys, rfl, na, h1, r1⟩ := rx
    exact ⟨a, bs, rfl, by rw [← r1.bools']; exact SqL.of h1, q _ _ H1 Gr.refl j rfl rfl⟩
/-! ### promises in this form -/
def spR (K : PySem.W.Frag) (pre : Ez → List PT → (PT → Prop) → Prop) : Sp := fun vs H Q _ => ∃ Z ts P, Z.K = K ∧ Z.J H ∧ RepL Z H ts vs ∧ pre Z ts P ∧ ∀ t v H2, Gr Z H H2 → Z.J H2 → P t → Rep Z H2 t v → Q v H2
theorem er_call {Z : Ez} {K : PySem.W.Frag} {pre : Ez → List PT → (PT → Prop) → Prop} {ta : TA} {Ps : List PT → Prop} {S : PT → Prop} {E : XK} {σ : L2.St} {H : Hp} (hK : Z.K = K) (h : Ea Z ta σ H Ps) (hp : ∀ ts, Ps ts → pre Z ts S) : Er Z (tCall (spR K pre) [] E ta) σ H S :=
  fun H1 g j Q q => h H1 g j _ fun ts vs H2 g2 j2 p rs => ⟨Z, ts, S, hK, j2, by rw [List.append_nil]; exact rs, hp ts p, fun t v H3 g3 j3 s r => q t v H3 (g2.trans g3) j3 s r⟩
theorem cutP_from (xs : List PT) (k : Nat) : cutP xs (some (k : Int)) none = xs.drop k := by
  unfold cutP
  rw [HT.sIx_nat, HT.sIx_none]
  by_cases h : k ≤ xs.length
  · rw [Nat.min_eq_left h, List.take_of_length_le (by rw [List.length_drop]; omega)]
  · rw [Nat.min_eq_right (by omega), List.drop_eq_nil_of_le (by omega), List.drop_eq_nil_of_le (by omega), List.take_nil]
theorem cutP_to (xs : List PT) (k : Nat) : cutP xs none (some (k : Int)) = xs.take k := by
  unfold cutP
  rw [HT.sIx_nat, HT.sIx_none, Nat.sub_zero, List.drop_zero]
  by_cases h : k ≤ xs.length
  · rw [Nat.min_eq_left h]
  · rw [Nat.min_eq_right (by omega), List.take_of_length_le (by omega), List.take_of_length_le (by omega)]
theorem cutP_mid (xs : List PT) (a b : Nat) : cutP xs (some (a : Int)) (some (b : Int)) = (xs.drop a).take (b - a) := by
  unfold cutP
  rw [HT.sIx_nat, HT.sIx_nat]
  by_cases ha : a ≤ xs.length
  · rw [Nat.min_eq_left ha]
    by_cases hb : b ≤ xs.length
    · rw [Nat.min_eq_left hb]
    · rw [Nat.min_eq_right (by omega), List.take_of_length_le (by rw [List.length_drop]; omega), List.take_of_length_le (by rw [List.length_drop]; omega)]
  · rw [Nat.min_eq_right (by omega : xs.length ≤ a), List.drop_eq_nil_of_le (by omega : xs.length ≤ xs.length), List.drop_eq_nil_of_le (by omega : xs.length ≤ a)]
    simp
theorem wipe1 {σ : L2.St} {j : Nat} (x : V) : wipe ((wipe σ [j]).set j (some x)) [j] = wipe σ [j] := by
  show (((σ.set j none).set j (some x)).set j none) = σ.set j none
  simp [List.set_set]
theorem var1 {σ : L2.St} {j : Nat} {x : V} (h : j < σ.length) : ((wipe σ [j]).set j (some x))[j]? = some (some x) := by
  show ((σ.set j none).set j (some x))[j]? = _
  simp [h]
theorem var1n {σ : L2.St} {j i : Nat} {x : V} (h : j ≠ i) : ((wipe σ [j]).set j (some x))[i]? = σ[i]? := by
  show ((σ.set j none).set j (some x))[i]? = _
  simp [h]
theorem ixN0 {n : Nat} (h : 0 < n) : ixN n 0 = some 0 := Evl.ixN_nat (j := 0) h
/-! ### statements -/
section
variable {Z : Ez} {te : TE} {tt : TT} {ts ts2 tz : TS} {D : Ends} {σ : L2.St} {H : Hp} {P : PT → Prop} {B : Bool → Prop} {i : Nat}
theorem z_ret (h : Er Z te σ H P) (j : Z.J H) (k : ∀ t v H1, Gr Z H H1 → Z.J H1 → P t → Rep Z H1 t v → D.rt v H1) : tRet te D σ H := h.run j k
theorem z_if (h : Eb Z tt σ H B) (j : Z.J H) (k : ∀ b H1, Gr Z H H1 → Z.J H1 → B b → if b = true then ts D σ H1 else ts2 D σ H1) : tIfS tt ts ts2 D σ H := h.run j k
theorem zq_if (h : Eb Z tt σ H B) (j : Z.J H) (k : ∀ b H1, Gr Z H H1 → Z.J H1 → B b → if b = true then ts { D with nx := tz D } σ H1 else ts2 { D with nx := tz D } σ H1) : tSeq (tIfS tt ts ts2) tz D σ H := h.run j k
/-- an if without else, the test known -/
theorem zq_when {b : Bool} (h : Eb Z tt σ H (· = b)) (j : Z.J H) (k1 : b = true → ∀ H1, Gr Z H H1 → Z.J H1 → ts { D with nx := tz D } σ H1) (k2 : b = false → ∀ H1, Gr Z H H1 → Z.J H1 → tz D σ H1) : tSeq (tIfS tt ts tNext) tz D σ H := h.run j fun c H1 g j1 e => by
  subst e
  cases c with
  | true => exact k1 rfl H1 g j1
  | false => exact k2 rfl H1 g j1
theorem z_asg (h : Er Z te σ H P) (j : Z.J H) (k : ∀ t v H1, Gr Z H H1 → Z.J H1 → P t → Rep Z H1 t v → D.nx (σ.set i (some v)) H1) : tAsg te (gName i) D σ H := h.run j k
theorem zq_asg (h : Er Z te σ H P) (j : Z.J H) (k : ∀ t v H1, Gr Z H H1 → Z.J H1 → P t → Rep Z H1 t v → tz D (σ.set i (some v)) H1) : tSeq (tAsg te (gName i)) tz D σ H := h.run j k
theorem zq_drop (h : Er Z te σ H P) (j : Z.J H) (k : ∀ H1, Gr Z H H1 → Z.J H1 → tz D σ H1) : tSeq (tDrop te) tz D σ H := h.run j fun _ _ H1 g j _ _ => k H1 g j
end
end Fy
/-! FyB -/
/-! further rules -/
namespace PySem
open AutoSeq1
theorem meets_extend_tup (l : Addr) (items : Array Value) (n : Nat) (b : Addr) (items2 : Array Value) (n2 : Nat) (dd : Option Addr) (sl : Array (Option Value)) (hs0 : ¬(!items.isEmpty && Builtin.List.listTooLong (items.size + items2.size)) = true) (hs1 : items.size ≤ sizeLine) (hs2 : items.size + items2.size ≤ sizeLine + 1) :
    Meets (Builtin.«list.extend» ⟨[.ref l, .ref b], []⟩) (fun _ R s => s.heap.get? l = some { cls := .type "list", dict := none, data := .seq items n, slots := #[] } ∧ s.heap.get? b = some { cls := .type "tuple", dict := dd, data := .seq items2 n2, slots := sl } ∧ R (.ok (.ret Value.none)) { s with heap := s.heap.update l (Obj.mapSeq fun x => x ++ items2), toks := s.toks }) :=
  .of_wp fun prog w A R s h => by
    obtain ⟨hp, g, d, tk, os⟩ := s; obtain ⟨hl, hb, h⟩ := h; have f1 := idx_int; have f2 := sub_tuple_tuple; have f3 := sub_list_list; have f4 := sub_tuple_list; have f5 := sub_list_tuple;
    have hz' : (items ++ items2).size ≤ sizeLine + 1 := by rw [Array.size_append]; exact hs2
    wp_walk using (wpAny_updateSeq hl rfl (hz := hs1) (_hz' := hz')), wpAny_loadPart' hl, wpAny_loadPart' hb; exact ⟨_, rfl, h⟩
end PySem
namespace Fy
open PySem PySem.Spec PyProof.Rows L2
/-! a list against an empty one -/
def rNeNil (K : PySem.W.Frag) : R2 := fun x y H Q => ∃ a b xs, x = .ref a ∧ y = .ref b ∧ SqL K H a xs ∧ SqL K H b [] ∧ Q (.bl (!xs.isEmpty)) H
theorem op_ne_nil {X : Cx} {k : Nat} (hr : Room k X.A) : OpR X (compareOp .NotEq) (rNeNil X.K) := by
  intro pins s σ H x y v u Q I rx ry h
  obtain ⟨a, b, xs, rfl, rfl, ha, hb, q⟩ := h
  cases rx
  cases ry
  obtain ⟨its, rv, pa, _⟩ := I.list ha
  obtain ⟨its2, rv2, pb, _⟩ := I.list hb
  cases rv2
  have l1 := rv.length
  cases xs with
  | nil =>
    cases rv
    exact SeqAt.RcNeAt.lists (e := fun _ => true) pa.isList pb.isList rfl hr.units0 (fun j j1 _ => absurd j1 (by simp)) _ _ _ _ ⟨.bl _, H, I, rfl, q⟩
  | cons x xs => exact SeqAt.RcNeAt.lists_lengths pa.isList pb.isList (by simp at l1 ⊢; intro e; rw [e] at l1; cases l1) hr.units0 _ _ _ _ ⟨.bl _, H, I, rfl, q⟩
/-! enumerate(list, k) -/
def IteF (K : PySem.W.Frag) (a : Addr) (k : Int) : It :=
  ⟨fun i H => ∃ (xs : List V) (x : V), SqL K H a xs ∧ xs[i]? = some x, fun i H v H' => ∃ T x, v = .ref T ∧ H T = none ∧ H' = upd H T (.tup [.int (k + (i : Nat)), x]) ∧ ∀ xs, SqL K H a xs → xs[i]? = some x, fun i H => ∃ xs : List V, SqL K H a xs ∧ xs.length = i⟩
theorem turn_enumF {P : Program} {w : World} {K : PySem.W.Frag} {elts : List Expr} {kk : Nat} {tpos : Pos} (a e it : Addr) (hai : a ≠ it) (k : Int) :
    Turn P w K (.Tuple elts kk tpos) (IteF K a k) [e, it] e (fun i h => (∃ old, IsEnum h e it (k + ((i : Nat) : Int)) old) ∧ h.IsListIter it a i ∧ e ≠ it ∧ e ≠ a) where
  mem := by simp
  obj := fun i h st b hb => by
    obtain ⟨⟨old, he⟩, ⟨o, ho, hc, hd⟩, _⟩ := st
    have e' : b = e ∨ b = it := by simpa using hb
    rcases e' with z | z
    · rw [z]; exact ⟨_, he, fun v q => nomatch q⟩
    · rw [z]; exact ⟨o, ho, fun v q => by rw [hd] at q; cases q⟩
  keep := fun i h h' st k => let ⟨⟨old, he⟩, hi, hne⟩ := st; ⟨⟨old, k e (by simp) _ he⟩, hi.at fun o q => k it (by simp) o q, hne⟩
  item := by
    intro X hP hw hK hc i pins s σ H E I hf st hg
    subst hP hw hK
    obtain ⟨⟨old, he⟩, hit, hne, hea⟩ := st
    obtain ⟨xs, x, hq, hx⟩ := hg
    obtain ⟨its, rv, p, hz⟩ := I.list hq
    obtain ⟨u, hu, ru⟩ := rv.get hx
    have hel : e < s.heap.objs.size := Heap.lt_size he
    have hil : it < s.heap.objs.size := by obtain ⟨_, q, _⟩ := hit; exact Heap.lt_size q
    have hsz : its.length = its.toArray.size := by simp
    have hil2 : i < its.toArray.size := by
      rw [← hsz]
      exact (List.getElem?_eq_some_iff.mp hu).1
    refine wpAny_pyNext_enum_itemC (Draws.list (A := X.A.in1) (show X.A.in1.handled = none from I.ok.hd hc) it a hai its.toArray) he ⟨hit, p.isList⟩ hil2 hne (by simp [hne, hea]) fun x' h' tk hx' ho hit' hT hszh hk => ?_
    have ex : x' = u := by
      have := hx'.symm.trans (by simpa using hu : its.toArray[i]? = some u)
      exact Option.some.inj this
    subst ex
    refine ⟨_, rfl, wpAny_letOwnedTupleGo_enum (s := { s with heap := h', toks := tk + 1 }) ho fun h'' he' sb => ?_⟩
    have hT2 : h''.get? s.heap.objs.size = some { cls := .type "tuple", data := .seq #[.int (k + (i : Nat)) tk, x'] } := (sb.2 _ (Nat.ne_of_gt hel)).trans hT
    have new : ObjOk X.prog X.w (upd H s.heap.objs.size (.tup [.int (k + (i : Nat)), x])) h'' s.heap.objs.size (.tup [.int (k + (i : Nat)), x]) :=
      ⟨by show 2 ≤ sizeLine; decide, [.int (k + (i : Nat)) tk, x'], .cons ⟨_, rfl⟩ (.cons ru .nil), ⟨_, hT2, rfl, _, rfl⟩⟩
    have I1 : Inv X pins σ (upd H s.heap.objs.size (.tup [.int (k + (i : Nat)), x])) { s with heap := h'', toks := tk + 1 } :=
      I.turnedNew (ch := [e, it]) (fun b ob hb q => (sb.2 b (fun z => hb (by simp [z]))).trans (hk b ob (fun z => hb (by simp [z])) (fun z => hb (by simp [z])) q)) hf (Nat.le_refl _) new
    refine ⟨.ref s.heap.objs.size, _, I1, rfl, ⟨_, x, rfl, I.hok.fresh (Nat.le_refl _), rfl, fun ys hy => by rw [I.list_inj hy hq]; exact hx⟩, ⟨⟨x', ?_⟩, hit'.1.at fun o q => (sb.2 it (Ne.symm hne)).trans q, hne, hea⟩, fun b hb => ?_⟩
    · have e1 : k + ((i + 1 : Nat) : Int) = k + (i : Int) + 1 := by omega
      rw [e1]; exact he'
    · have hb' : b < s.heap.objs.size := by
        have e' : b = e ∨ b = it := by simpa using hb
        rcases e' with z | z
        · rw [z]; exact hel
        · rw [z]; exact hil
      rw [upd_ne (Nat.ne_of_lt hb')]
      exact (hf b hb).1
  done := by
    intro X hP hw hK hc i pins s σ H E I hf st hg
    subst hP hw hK
    obtain ⟨⟨old, he⟩, hit, hne, hea⟩ := st
    obtain ⟨xs, hq, hx⟩ := hg
    obtain ⟨its, rv, p, hz⟩ := I.list hq
    obtain ⟨f0, f1, f2, f3, f4, f5⟩ := hf it (by simp)
    have hl := rv.length
    exact wpAny_pyNext_enum_endD (Draws.list (A := X.A.in1) (show X.A.in1.handled = none from I.ok.hd hc) it a hai its.toArray) he (by rw [show its.toArray.size = i by simp; omega]; exact ⟨hit, p.isList⟩) fun h' eb => ⟨rfl, I.turned (t' := s.toks) (fun b o hb q => eb b o hb q) f0 f1 f3 f4 f5⟩
  self := fun A i s Q E st h => let ⟨⟨_, he⟩, _⟩ := st; wpAny_pyIter_enum he h
def iEnumF (K : PySem.W.Frag) (ta : TA) : TI := fun σ H R => ta σ H fun vs H1 => ∃ a xs k, vs = [.ref a, .int k] ∧ SqL K H1 a xs ∧ -(2 ^ 63) ≤ k ∧ k < 2 ^ 63 ∧ R (IteF K a k) H1
theorem pi_enumF {X : Cx} {e e2 : Expr} {ta : TA} {p pos tpos : Pos} {elts : List Expr} {kk : Nat} (hg : Gl X "enumerate") (hm : X.mg "enumerate" = none) (ha : PA X [e, e2] ta) (hs : starEach [e, e2] X.env = (false, eval e X.env) :: starEach [e2] X.env := by rfl) (hpl : (backTo pos (starEach [e2] X.env)).any (·.1) = false := by rfl) :
    PI X (.Tuple elts kk tpos) (.Call (.Name "enumerate" p) [e, e2] [] pos) (iEnumF X.K ta) := by
  refine ⟨fun pins s σ H R I h => ?_⟩
  refine Call_ (ld_blt I hg hm boot_enumerate (PyProof.Rows.callWith_type1 (thn (ha.run pos pins s σ H _ I h) fun us s1 ⟨vs, H1, I1, r1, q1⟩ => ?_) hs hpl))
  obtain ⟨a, xs, k, ex, hq, hk0, hk1, q⟩ := q1
  subst ex
  cases r1 with
  | cons r rr =>
    cases rr with
    | cons r2 rr =>
    cases rr
    cases r
    obtain ⟨t, rfl⟩ := r2
    obtain ⟨its, rv, p', hz⟩ := I1.list hq
    refine enum_begins (begins_list a its.toArray) p'.isList hk0 hk1 fun h' he hit hsz hk => wpAny_pyIter_enum he ?_
    have I2 : Inv X pins σ H1 { s1 with heap := h' } := I1.kept (t' := s1.toks) hk
    have hal : a < s1.heap.objs.size := by obtain ⟨o, _, ho, _⟩ := p'; exact Heap.lt_size ho
    refine ⟨s1.heap.objs.size + 1, [s1.heap.objs.size + 1, s1.heap.objs.size], _, _, H1, rfl, I2, turn_enumF a (s1.heap.objs.size + 1) s1.heap.objs.size (Nat.ne_of_lt hal) k, ⟨⟨.none, by simpa using he⟩, ⟨_, hit, rfl, rfl⟩, Nat.succ_ne_self _, (Nat.ne_of_lt (Nat.lt_succ_of_lt hal)).symm⟩, fun b hb => ?_, q⟩
    have e' : b = s1.heap.objs.size + 1 ∨ b = s1.heap.objs.size := by simpa using hb
    have hle : s1.heap.objs.size ≤ b := by
      rcases e' with z | z
      · rw [z]; exact Nat.le_add_right _ _
      · rw [z]; exact Nat.le_refl _
    exact I1.fpOk hle (I1.hok.fresh hle)
/-! xs.extend(a tuple) -/
def rExtendT (K : PySem.W.Frag) : V → List V → Hp → VK → Prop := fun x vs H Q => ∃ l b xs zs, x = .ref l ∧ vs = [.ref b] ∧ H l = some (.lst xs) ∧ SqT K H b zs ∧ xs.length + zs.length ≤ sizeLine ∧ Q .non (upd H l (.lst (xs ++ zs)))
theorem mt_extendT {X : Cx} : MtM X "list.extend" (rExtendT X.K) := by
  intro pins s σ H x vs v us Q I rx rv h
  obtain ⟨l, b, xs, zs, rfl, rfl, hH, hB, hz, q⟩ := h
  cases rx
  obtain ⟨u, rfl, ru⟩ := rv.one
  cases ru
  obtain ⟨z, its, n, r, hl, e⟩ := I.lstM hH
  obtain ⟨its2, r2, ⟨⟨oc, od, oda, osl⟩, ho, hc, n2, hd⟩, hl2⟩ := I.tuple hB
  dsimp only at hc hd
  subst hc hd
  have hl3 := r2.length
  have hsz : its.toArray.size + its2.toArray.size ≤ sizeLine := by rw [List.size_toArray, List.size_toArray]; omega
  have hlong : ¬ (!its.toArray.isEmpty && Builtin.List.listTooLong (its.toArray.size + its2.toArray.size)) = true := by
    rw [notLongL hsz, Bool.and_false]
    exact Bool.false_ne_true
  refine call_meets F.slot_list_extend ⟨_, e, rfl⟩ F.entry_list_extend (F.args_list_extend_2 _ _)
    (meets_extend_tup l its.toArray n b its2.toArray n2 od osl hlong (by rw [List.size_toArray]; omega) (by omega)) ⟨e, ho, ?_⟩
  refine ⟨.non, _, I.lset (its' := its ++ its2) hH e (by simp) (r.append r2) ?_, rfl, q⟩
  rw [List.length_append]
  omega
end Fy
/-! FyC -/
namespace PySem.W
open PySem PySem.Spec PySem.Calls PyProof.Rows
section
variable {prog : Program} {w : World} {A : Around} {E : Value → Shared → Prop} {s : Shared}
theorem star0_items {l : Addr} {items : Array Value} {n : Nat} {Q : List Value → Shared → Prop} (hl : s.heap.IsList l items) (hh : A.handled = none) (hi : 0 < n) (hn : n ≤ items.size + 1) (hz : items.size ≤ sizeLine)
    (h : ∀ h₂ tk, Heap.ExtBut s.heap.objs.size s.heap h₂ → Q ([.ref h₂.objs.size] ++ items.toList.drop (items.size + 1 - n)) { s with heap := h₂.push { cls := .type "list", data := .seq (items.toList.take (items.size + 1 - n)).toArray }, toks := tk }) : wpAny (model prog w) A (unpackItems (.ref l) n (some 0)) Q E s := by
  have hlt : l ≠ s.heap.objs.size := by obtain ⟨o, ho, _⟩ := hl; exact Nat.ne_of_lt (Heap.lt_size ho)
  unfold unpackItems
  refine wpAny_bind ?_
  unfold notIterableAtAll
  refine wpAny_bind (wpAny_specialOf hl.typeIs slot_list_iter.lookup ?_)
  refine wpAny_pure ?_
  simp only [Bool.false_eq_true, if_false]
  refine wpAny_bind (wpAny_holding (wpAny_pyIter_list hl ?_))
  refine wpAny_bind (wpAny_holding (kun_draw hlt 0 0 _ _ ⟨_, Heap.get?_push_size _ rfl, rfl, rfl⟩ (hl.push _) (by omega) fun h₁ hit₁ hs₁ => ?_))
  have hl₁ : h₁.IsList l items := (hl.push _).extBut hs₁.extBut hlt
  rw [Nat.zero_add] at hit₁
  have hit₁' := hit₁
  obtain ⟨oi, hoi, _⟩ := hit₁'
  have hl₁' := hl₁
  obtain ⟨ol, hol, _⟩ := hl₁'
  rw [List.drop_zero, List.take_zero]
  rw [if_neg (show ¬ (([] : List Value).length < 0) by simp)]
  refine wpAny_bind (wpAny_holding (kun_collect (s := { s with heap := h₁ }) (T := "list_iterator") (.inr (.inr (.inl rfl))) (Walks.list (A := A.in1) hh s.heap.objs.size l hlt items) (fun j u st => st.1.typeIs) (k := 0) (by omega) ⟨hit₁, hl₁⟩ (Heap.lt_size hoi) (Heap.lt_size hol) (fun h₂ tk hk => ?_) hz))
  rw [List.drop_zero]
  have hrl : items.toList.length = items.size := by simp
  have hmid : items.toList.length - (n - 1 - 0) = items.size + 1 - n := by rw [hrl]; omega
  show wpAny _ _ (if items.toList.length < n - 1 - 0 then _ else _) _ _ _
  rw [if_neg (by rw [hrl]; omega)]
  show wpAny _ _ (newList (items.toList.take (items.toList.length - (n - 1 - 0))) >>= fun d => pure ([] ++ [d] ++ items.toList.drop (items.toList.length - (n - 1 - 0)))) _ _ _
  rw [hmid]
  have he : Heap.ExtBut s.heap.objs.size s.heap h₂ := fun b o hb e => hk b o hb (hs₁.extBut b o hb (Heap.get?_push_of_some _ e))
  exact wpAny_bind (wpAny_newList (s := { s with heap := h₂, toks := tk }) (wpAny_pure (h h₂ tk he)) (by rw [List.length_take, hrl]; omega))
end
end PySem.W
namespace Fy
open PySem PySem.Spec PyProof.Rows L2
/-- *a, b, .. = a list -/
def gStar (K : PySem.W.Frag) (m : Nat) (t : TGs) : TG := fun v σ H Q => ∃ a xs, v = .ref a ∧ SqL K H a xs ∧ m ≤ xs.length ∧ ∀ D, H D = none → t (.ref D :: xs.drop (xs.length - m)) σ (upd H D (.lst (xs.take (xs.length - m)))) Q
theorem pg_star {X : Cx} {e : Expr} {es : List Expr} {k m : Nat} {p pos : Pos} {t : TGs} (hc : X.calm = true) (h : PGs X (e :: es) t)
    (hm : (assignEach es X.env).length = m := by rfl) (hs : (assignEach (e :: es) X.env).map (·.2) = assign e X.env :: (assignEach es X.env).map (·.2) := by rfl) :
    PG X (.Tuple (.Starred e p :: es) k pos) (gStar X.K m t) := by
  refine ⟨fun pins s σ H v u Q I r hw => ?_⟩
  obtain ⟨a, xs, e1, hq, hl, hw⟩ := hw
  subst e1
  cases r
  obtain ⟨its, rv, pl, hz⟩ := I.list hq
  have hxl := rv.length
  have hsz : its.toArray.size = xs.length := by simp [hxl]
  rw [PyProof.Rows.assign_Tuple]
  refine wpAny_bind (wpAny_standAt ?_)
  unfold unpack
  have e1 : assignEach (.Starred e p :: es) X.env = (true, assign e X.env) :: assignEach es X.env := rfl
  rw [e1, List.findIdx?_cons]
  simp only [if_true]
  refine wpAny_bind (wpAny_holding (PySem.W.star0_items pl.isList (I.ok.hd hc) (by simp) (by rw [List.length_cons, hm, hsz]; omega) (by rw [hsz]; exact hz) fun h₂ tk hx => ?_))
  have hk2 : ((assignEach es X.env).length + 1 : Nat) = m + 1 := by rw [hm]
  rw [List.length_cons, hk2, hsz, show xs.length + 1 - (m + 1) = xs.length - m by omega]
  have k2 : ∀ b o, s.heap.get? b = some o → h₂.get? b = some o := fun b o e => hx b o (Nat.ne_of_lt (Heap.lt_size e)) e
  have hget : (h₂.push { cls := .type "list", data := .seq (its.take (xs.length - m)).toArray }).get? h₂.objs.size = some { cls := .type "list", data := .seq (its.take (xs.length - m)).toArray } := Heap.get?_push_size _ rfl
  have I0 : Inv X pins σ H { s with heap := h₂, toks := tk } := I.kept (t' := tk) k2
  have I1 : Inv X pins σ (upd H h₂.objs.size (.lst (xs.take (xs.length - m)))) { s with heap := h₂.push { cls := .type "list", data := .seq (its.take (xs.length - m)).toArray }, toks := tk } :=
    I0.laid (t' := tk) (fun b o e => Heap.get?_push_of_some _ e) (Nat.le_refl _) ⟨by rw [List.length_take]; omega, _, _, rv.take (xs.length - m), hget⟩
  have q := h.run pins _ σ _ _ (.ref h₂.objs.size :: its.drop (xs.length - m)) Q I1 (.cons (show RelV (.ref _) (.ref _) from rfl) (rv.drop (xs.length - m))) (hw _ (I0.hok.fresh (Nat.le_refl _)))
  rw [hs] at q
  exact q
end Fy
/-! FyD -/
/-! an exception that has its dict: isinstance; a class's own def called by the class's name -/
namespace PySem.W
open PySem PySem.Spec PySem.Calls PyProof.Rows
section
variable {prog : Program} {w : World} {A : Around} {E : Value → Shared → Prop} {s : Shared} {K : Frag} {x D : Addr} {ox : Obj}
theorem findObj_dataD {C : Addr} {name : Str} {a g : Value} {od : Option Obj} (hc : (clsIn K C).isSome = true) (ha : findIn K (.ref C) name = some (some a)) (hg : specialIn K a "__get__" = some (some g)) (ht : takesIn K a = some true) : findObj K C od name = some (.bind g a) := by
  obtain ⟨cd, hc⟩ := Option.isSome_iff_exists.mp hc
  unfold findObj
  rw [hc, Option.bind_some, ha, Option.bind_some]
  simp [hg, ht]
theorem kin_classD {od : Option Obj} {Q : Option Value → Shared → Prop} (hga : findIn K (.ref D) "__getattribute__" = some (some (.builtin "BaseException.__getattribute__"))) (hgt : findIn K (.ref D) "__getattr__" = some none) (hsub : subIn K (.ref D) (.type "BaseException") = some true)
    (hdct : hasDictIn K D = true) (ha : findIn K (.ref D) "__class__" = some (some (.builtin "object.__class__")))
    (hn : specialIn K (.builtin "object.__class__") "__get__" = some (some (.builtin "getset_descriptor.__get__"))) (htk : takesIn K (.builtin "object.__class__") = some true) (hm : mroIn K D (.type "object") = some true)
    (X : K.In s.heap) (I : InstAt s.heap x ox D od) (h : Q (some (.ref D)) { s with toks := s.toks + 1 }) : wpAny (model prog w) A (getAttr? (.ref x) "__class__") Q E s := by
  have hf : findObj K D od "__class__" = some (.bind (.builtin "getset_descriptor.__get__") (.builtin "object.__class__")) := findObj_dataD (by obtain ⟨cd, hc, _⟩ := any_some hdct; rw [hc]; rfl) ha hn htk
  obtain ⟨hp, g, d, t, os⟩ := s
  have L0 := I.type (M := model prog w)
  have L1 := looks_findIn (M := model prog w) X hga
  have L2 := looks_findIn (M := model prog w) X hgt
  have L3 := looks_find (M := model prog w) X I hf
  have sub : Looks (model prog w) hp (isInstance (.ref x) (.type "BaseException")) true := L0.andThen (looks_subIn X hsub)
  have hx0 : (false && onTheHeap (Value.builtin "BaseException.__getattribute__")) = false := rfl
  have hx2 : (Value.builtin "BaseException.__getattribute__" == Value.builtin "object.__getattribute__") = false := by decide +kernel
  have hx1 : (onTheHeap (Value.ref D) && Value.builtin "BaseException.__getattribute__" == Value.builtin "object.__getattribute__") = false := by rw [hx2]; rfl
  unfold getAttr? getAttrBy? getAttrBy
  refine wpAny_bind (wpAny_mkText (wpAny_bind (wpAny_attempt (wpAny_holding (wpAny_bind (L0.at (wpAny_bind (L1.at ?_))))))))
  show wpAny _ _ (if (onTheHeap (Value.ref D) && Value.builtin "BaseException.__getattribute__" == Value.builtin "object.__getattribute__") = true then _ else _) _ _ _
  rw [hx1, if_neg Bool.false_ne_true]
  unfold getAttrByItsOwn hookBefore
  refine wpAny_bind ?_
  rw [if_pos (show onTheHeap (Value.ref D) = true from rfl)]
  refine L2.at ?_
  refine wpAny_bind (wpAny_attempt (wpAny_holding ?_))
  unfold callGetattribute
  rw [hx0, if_neg Bool.false_ne_true]
  unfold boundAndCalled
  rw [PySem.F.excAttr_ValueError.ga.bind (.ref x)]
  refine wpAny_bind (wpAny_pure ?_)
  show wpAny _ _ (call (.builtin "BaseException.__getattribute__") [.ref x, .str "__class__" t]) _ _ _
  refine wpAny_call (codeAny_call_builtin PySem.F.excAttr_ValueError.ga.plain PySem.F.entry_bexc_ga ?_)
  refine @check_slot (model prog w) _ _ ⟨hp, g, d, t + 1, os⟩ "BaseException.__getattribute__" "BaseException" "__getattribute__" (.ref x) [.str "__class__" t] [] _ (by decide +kernel) (by decide +kernel) sub (PySem.F.args_bexc_ga (.ref x) (.str "__class__" t)) ?_
  unfold Builtin.«object.__getattribute__»
  refine wpAny_bind (wpAny_of_eq (a := ((Value.ref x : Value), [Value.str "__class__" t])) (by first | rfl | (simp only [slotArgs]; rfl)) ?_)
  refine wpAny_bind (wpAny_pure (wpAny_bind (L0.at (wpAny_bind (L3.at ?_)))))
  show wpAny _ _ (holding [Value.builtin "object.__class__"] (call (.builtin "getset_descriptor.__get__") [.builtin "object.__class__", .ref x, .ref D]) >>= ret) _ _ _
  refine wpAny_bind (wpAny_holding (wpAny_call (class_get (s := ⟨hp, g, d, t + 1, os⟩) (ox := ox) (od := od) X I hm ?_)))
  refine wpAny_pure ?_
  show wpAny _ _ (handedOut (.ref D)) _ _ _
  rw [handedOut_of (v := .ref D) rfl]
  first
    | exact wpAny_pure (wpAny_pure h)
    | exact wpAny_pure h
    | exact wpAny_pure (wpAny_bind (wpAny_pure (wpAny_pure h)))
theorem kitx_excD {od : Option Obj} (hga : findIn K (.ref D) "__getattribute__" = some (some (.builtin "BaseException.__getattribute__"))) (hgt : findIn K (.ref D) "__getattr__" = some none) (hsub : subIn K (.ref D) (.type "BaseException") = some true) (hdct : hasDictIn K D = true) (ha : findIn K (.ref D) "__class__" = some (some (.builtin "object.__class__")))
    (hn : specialIn K (.builtin "object.__class__") "__get__" = some (some (.builtin "getset_descriptor.__get__"))) (htk : takesIn K (.builtin "object.__class__") = some true) (hm : mroIn K D (.type "object") = some true) :
    KitX K (.ref x) (.ref D) (fun h => InstAt h x ox D od) where
  ty := fun _ _ _ I => I.type
  it := fun _ _ X _ => by
    obtain ⟨cdD, hcD, _⟩ := any_some hdct
    unfold clsIn at hcD
    split at hcD
    · rename_i c' d' cd' sl' ho
      intro A' Q' E' s' k q
      unfold isType loadHead
      exact wpAny_bind (wpAny_loadPart (k _ _ (X _ _ ho)) (wpAny_pure q))
    · cases hcD
  ne := fun h tp dd its n sl X htp => by
    obtain ⟨cdD, hcD, _⟩ := any_some hdct
    refine Bool.eq_false_iff.mpr fun q => ?_
    have e : D = tp := Value.ref.inj (beq_iff_eq.mp q)
    subst e
    unfold clsIn at hcD
    split at hcD
    · rename_i c' d' cd' sl' ho
      have z := (X _ _ ho).symm.trans htp
      cases z
    · cases hcD
  ca := fun X I k => kin_classD hga hgt hsub hdct ha hn htk hm X I k
end
end PySem.W
namespace Fy
open PySem PySem.Spec PyProof.Rows L2
theorem call_isD {X : Cx} {a D d : Addr} {oe : Obj} {pn : List (Addr × Obj)} (C : ExcC X.K D) (hz : Zc (.ref D) (some d) oe) (hf : ∃ vs, oe.data = .fields vs) :
    CallR (X.suite a ((a, oe) :: pn)) (.builtin "isinstance") (fun xs H Q => (∃ fs, H d = some (.xd fs)) ∧ rIsE X.K D a xs H Q) := by
  intro pins s σ H xs us Q I r h
  obtain ⟨⟨fs, hfs⟩, c, cv, b, rfl, hcv, e, q⟩ := h
  cases r with
  | cons rx rr =>
    cases rr with
    | cons rt rr =>
      cases rr
      cases rx
      have ec := hcv _ rt
      subst ec
      obtain ⟨hget, _⟩ := I.pin (a, oe) (List.mem_append.mpr (.inl List.mem_cons_self))
      obtain ⟨vs, hv⟩ := hf
      have hx : ObjOk X.prog X.w H s.heap d (.xd fs) := I.hok d _ hfs
      obtain ⟨mA, hns, hr⟩ := hx
      obtain ⟨od, ho, hl⟩ := lookIn_ns hns
      have J : PySem.W.InstAt s.heap a oe D (some od) := ⟨hget, hz.1, by unfold PySem.W.notCls; rw [hv] <;> rfl, by rw [hz.2]; exact ho⟩
      exact PySem.W.kia_one (PySem.W.kitx_excD C.hg C.hk C.hs C.hd C.ha C.hn C.ht C.hm) I.kIn J e (fun z => nomatch z) fun tk => ⟨.bl b, H, I.kept (t' := tk) fun _ _ z => z, rfl, q⟩
/-- .. where the class is not told ahead -/
theorem call_isX {X : Cx} {a D : Addr} {cls : Value} {d : Option Addr} {oe : Obj} {pn : List (Addr × Obj)} (C : ExcC X.K D) (hz : Zc cls d oe) (hf : ∃ vs, oe.data = .fields vs) :
    CallR (X.suite a ((a, oe) :: pn)) (.builtin "isinstance") (fun xs H Q => cls = .ref D ∧ (∃ dd fs, d = some dd ∧ H dd = some (.xd fs)) ∧ rIsE X.K D a xs H Q) := by
  intro pins s σ H xs us Q I r h
  obtain ⟨rfl, ⟨dd, fs, rfl, hfs⟩, h⟩ := h
  exact call_isD C hz hf pins s σ H xs us Q I r ⟨⟨fs, hfs⟩, h⟩
section
variable {X : Cx} {CX : CXT} {k : Nat} {C fI : Addr} {mc : Value} {fd : FuncData} {ps : List Str} {sp : Sp} {E : XK} {e : Expr} {es : List Expr} {x m : Str} {p1 apos pos : Pos} {t : TA} {pl : Sem Bool}
/-- C.m(e, ..), m a def of the class at C -/
theorem pe_clsfn (r : ClX.CRead X.K C mc) (kv : ClX.CVal X.K C mc m (.ref fI) (.ref fI)) (F : FnOk X.prog X.w X.K X.mg X.base CX k fI fd ps sp) (hr : Room k X.A) (hk : PySem.W.keepIn X.K (.ref fI) = true) (hb : Binds X.K fd ps []) (hx : Passes CX X E)
    (hg : Gl X x) (hm : X.mg x = some (.ref C)) (ha : PA X (e :: es) t) (hdb : (x == ("__debug__" : Str)) = false := by decide)
    (hst : starEach (e :: es) X.env = (false, eval e X.env) :: starEach es X.env := by rfl) (hpl : (backTo pos (starEach es X.env)).any (·.1) = false := by rfl)
    (ht : eval (.Call (.Attribute (.Name x p1) m apos) (e :: es) [] pos) X.env = (do
      let ov ← eval (.Name x p1) X.env
      standAt apos.atName
      let (f, first) ← holding [ov] (getMethod ov m pl)
      callWith pos f first (backTo pos (starEach (e :: es) X.env)) (backToKw pos (keywordEach [] X.env))) := by rfl) :
    PE X (.Call (.Attribute (.Name x p1) m apos) (e :: es) [] pos) (tCall sp [] E t) := by
  refine ⟨fun pins s σ H Q I h => ?_⟩
  refine PySem.W.methodCall_KW (pl := pl) (ld_glob I hg hm ?_ hdb) ht
  refine PySem.W.method_cls (I.tok _).kIn r.ga (ClX.getcval_ok (I.tok _) r kv fun s' I' => ?_)
  refine PySem.W.callWith_K (h₀ := X.base) I.ok.mod.kin hk (thn (ha.run pos pins s' σ H _ I' h) fun us s1 ⟨vs, H1, I1, r, q⟩ => ⟨I1.kIn, ?_⟩) hst hpl
  exact run_fn F hr hb .nil hx I1 r q
end
end Fy
/-! Txt -/
namespace Fy
open PySem PySem.Spec PyProof.Rows L2
structure Tx (K : PySem.W.Frag) (mg : Str → Option Value) : Prop where
  n_isinstance : mg "isinstance" = none
  n_str : mg "str" = none
  n_int : mg "int" = none
  n_tuple : mg "tuple" = none
  n_list : mg "list" = none
  n_bool : mg "bool" = none
  n_len : mg "len" = none
  n_all : mg "all" = none
  n_any : mg "any" = none
  n_range : mg "range" = none
  n_enumerate : mg "enumerate" = none
  n_abs : mg "abs" = none
  n_max : mg "max" = none
  n_min : mg "min" = none
  n_divmod : mg "divmod" = none
  n_ValueError : mg "ValueError" = none
  c_SIGNS : mg "SIGNS" = some (.ref (He.ga K "SIGNS")) ∧ ∀ H, SqT K H (He.ga K "SIGNS") [.str "0", .str "1"]
  c_EMPTY : ∃ t, mg "EMPTY" = some (.str "-" t)
  c_FIGURES : ∃ t, mg "FIGURES" = some (.str "0123456789" t)
  c_LINE_END : ∃ t, mg "LINE_END" = some (.str "\n" t)
  c_LETTERS : ∃ t, mg "LETTERS" = some (.str "abcdefghijklmnopqrstuvwxyz" t)
  c_MOST_PLACES : ∃ t, mg "MOST_PLACES" = some (.int 60 t)
  c_MOST_NODES_readers : ∃ t, mg "MOST_NODES_readers" = some (.int 9 t)
  c_MOST_NODES_terms : ∃ t, mg "MOST_NODES_terms" = some (.int 9 t)
  c_IN : ∃ t, mg "IN" = some (.str "in" t)
  c_LATE : ∃ t, mg "LATE" = some (.str "late" t)
  c_BY : ∃ t, mg "BY" = some (.str "by" t)
  c_KEEP : ∃ t, mg "KEEP" = some (.str "keep" t)
  c_THEN : ∃ t, mg "THEN" = some (.str "then" t)
  c_OF_ONE : mg "OF_ONE" = some (.ref (He.ga K "OF_ONE")) ∧ ∀ H, SqT K H (He.ga K "OF_ONE") [.str "not", .str "twice", .str "half", .str "change", .str "count"]
  c_OF_TWO : mg "OF_TWO" = some (.ref (He.ga K "OF_TWO")) ∧ ∀ H, SqT K H (He.ga K "OF_TWO") [.str "keep", .str "then"]
  d_is_sign : DefAt K mg "is_sign" s_is_sign
  d_is_text : DefAt K mg "is_text" s_is_text
  d_is_number : DefAt K mg "is_number" s_is_number
  d_is_text_word : DefAt K mg "is_text_word" s_is_text_word
  d_text_in : DefAt K mg "text_in" s_text_in
  d_parts_of : DefAt K mg "parts_of" s_parts_of
  d_has_shape : DefAt K mg "has_shape" s_has_shape
  d_is_term : DefAt K mg "is_term" s_is_term
  d_term_text : DefAt K mg "term_text" s_term_text
  d_written : DefAt K mg "written" s_written
  d_read_by : DefAt K mg "read_by" s_read_by
  d_read_table : DefAt K mg "read_table" s_read_table
  d_read_term : DefAt K mg "read_term" s_read_term
  d__law_pot : DefAt K mg "_law_pot" s__law_pot
  d__law_draw : DefAt K mg "_law_draw" s__law_draw
  d__law_pick : DefAt K mg "_law_pick" s__law_pick
  d__law_dash : DefAt K mg "_law_dash" s__law_dash
  d__law_table : DefAt K mg "_law_table" s__law_table
  d__law_table_lines : DefAt K mg "_law_table_lines" s__law_table_lines
  d__law_term : DefAt K mg "_law_term" s__law_term
  d__law_whole : DefAt K mg "_law_whole" s__law_whole
  d__law_told : DefAt K mg "_law_told" s__law_told
  d__law_odd_line : DefAt K mg "_law_odd_line" s__law_odd_line
  d__law_far_place : DefAt K mg "_law_far_place" s__law_far_place
  d__law_tables_right : DefAt K mg "_law_tables_right" s__law_tables_right
  d__law_sixty_right : DefAt K mg "_law_sixty_right" s__law_sixty_right
  d__law_odd_term : DefAt K mg "_law_odd_term" s__law_odd_term
  d__law_terms_right : DefAt K mg "_law_terms_right" s__law_terms_right
  d__law_right : DefAt K mg "_law_right" s__law_right
  d_law : DefAt K mg "law" s_law
  g_TableReader : mg "TableReader" = some (.ref (He.ga K "TableReader"))
  cl_TableReader : Cls K (He.ga K "TableReader")
  mk_TableReader : Mk K (He.ga K "TableReader") (He.ma K (He.ga K "TableReader") "__init__")
  na_TableReader_own_first : NoAttr K (He.ga K "TableReader") "own_first"
  na_TableReader_own_rows : NoAttr K (He.ga K "TableReader") "own_rows"
  m_TableReader___init__ : MethAt K mg "TableReader" "__init__" "TableReader.__init__" s_TableReader___init__
  m_TableReader_take : MethAt K mg "TableReader" "take" "TableReader.take" s_TableReader_take
  m_TableReader_is_whole : MethAt K mg "TableReader" "is_whole" "TableReader.is_whole" s_TableReader_is_whole
  m_TableReader_wrong_lines : MethAt K mg "TableReader" "wrong_lines" "TableReader.wrong_lines" s_TableReader_wrong_lines
  m_TableReader_made : MethAt K mg "TableReader" "made" "TableReader.made" s_TableReader_made
  g_TermReader : mg "TermReader" = some (.ref (He.ga K "TermReader"))
  cl_TermReader : Cls K (He.ga K "TermReader")
  mk_TermReader : Mk K (He.ga K "TermReader") (He.ma K (He.ga K "TermReader") "__init__")
  na_TermReader_own_term : NoAttr K (He.ga K "TermReader") "own_term"
  na_TermReader_own_line : NoAttr K (He.ga K "TermReader") "own_line"
  na_TermReader_own_left : NoAttr K (He.ga K "TermReader") "own_left"
  m_TermReader___init__ : MethAt K mg "TermReader" "__init__" "TermReader.__init__" s_TermReader___init__
  m_TermReader_pass_over : MethAt K mg "TermReader" "pass_over" "TermReader.pass_over" s_TermReader_pass_over
  m_TermReader_word : MethAt K mg "TermReader" "word" "TermReader.word" s_TermReader_word
  m_TermReader_signs : MethAt K mg "TermReader" "signs" "TermReader.signs" s_TermReader_signs
  m_TermReader_node : MethAt K mg "TermReader" "node" "TermReader.node" s_TermReader_node
  m_TermReader_take : MethAt K mg "TermReader" "take" "TermReader.take" s_TermReader_take
  m_TermReader_is_whole : MethAt K mg "TermReader" "is_whole" "TermReader.is_whole" s_TermReader_is_whole
  m_TermReader_wrong_lines : MethAt K mg "TermReader" "wrong_lines" "TermReader.wrong_lines" s_TermReader_wrong_lines
  m_TermReader_made : MethAt K mg "TermReader" "made" "TermReader.made" s_TermReader_made
  g_FlowError : mg "FlowError" = some (.ref (He.ga K "FlowError"))
  m_FlowError___init__ : MethAt K mg "FlowError" "__init__" "FlowError.__init__" s_FlowError___init__
  g_InvalidLines : mg "InvalidLines" = some (.ref (He.ga K "InvalidLines"))
  m_InvalidLines___init__ : MethAt K mg "InvalidLines" "__init__" "InvalidLines.__init__" s_InvalidLines___init__
  g_Yard : mg "Yard" = some (.ref (He.ga K "Yard"))
  g_Station : mg "Station" = some (.ref (He.ga K "Station"))
  y_exits : ∃ mc u, ClX.CRead K (He.ga K "Yard") mc ∧ ClX.CVal K (He.ga K "Yard") mc "MOST_EXITS" (.int 3) u
  x_oex : OexC K (He.ga K "InvalidLines")
  x_value : PySem.W.findIn K (.ref (He.ga K "InvalidLines")) "value" = some none
  x_line : PySem.W.findIn K (.ref (He.ga K "InvalidLines")) "line" = some none
  x_fe : ∃ mc, ClX.CRead K (He.ga K "FlowError") mc ∧ ClX.CVal K (He.ga K "FlowError") mc "__init__" (.ref (He.ma K (He.ga K "FlowError") "__init__")) (.ref (He.ma K (He.ga K "FlowError") "__init__"))
  x_ve : PySem.W.findCls K (.type "ValueError") (.type "type") "__init__" = some (.val (.builtin "ValueError.__init__"))
  x_ty : PySem.W.typeIn K (.ref (He.ma K (He.ga K "InvalidLines") "__init__")) = some (.type "function")
  x_xf : XfC K (He.ga K "InvalidLines")
  x_exc : ExcC K (He.ga K "InvalidLines")
  x_exm : PySem.W.exmOne K (.ref (He.ga K "InvalidLines")) (.ref (He.ga K "InvalidLines")) = some true
  x_isF : PySem.W.kitOne K (.ref (He.ga K "InvalidLines")) (.ref (He.ga K "FlowError")) = some true
  x_isV : PySem.W.kitOne K (.ref (He.ga K "InvalidLines")) (.type "ValueError") = some true
  x_ga : ∀ x ∈ (["_law_tables_right", "_law_sixty_right", "_law_terms_right", "_law_right"] : List Str), ∀ f, mg x = some (.ref f) → f = He.ga K x
  x_gF : PySem.W.keepIn K (.ref (He.ga K "FlowError")) = true
  x_gI : PySem.W.keepIn K (.ref (He.ga K "InvalidLines")) = true

def isSign (c : Nat) : Bool := c == 48 || c == 49
def isText (z : Str) : Bool := z.cps.toList.all isSign
section
variable {P : Program} {w : World} {K : PySem.W.Frag} {mg : Str → Option Value} {base : Heap}
/-! text_in -/
def sp_text_in : Sp := fun vs H Q _ => ∃ z : Str, vs = [.str z] ∧ Q (.str (if z = "-" then "" else z)) H
theorem sc_text_in : FnScope ["word"] ["word"] (defScope s_text_in) := ⟨rfl, rfl, rfl, by decide +kernel, rfl, by decide +kernel, by decide +kernel⟩
theorem ok_text_in (T : Tx K mg) : Has P w K mg base CX0 1 "text_in" ["word"] sp_text_in := by
  obtain ⟨f, fd, F, g⟩ := T.d_text_in
  refine ⟨f, fd, g, F.kp, F.bindsN (ps := ["word"]) (fun _ _ _ _ _ _ us hl => match us, hl with | [_], _ => rfl), ?_⟩
  refine F.ok sc_text_in (fun vs H Q E h => ?_) (fun cdv A outer s H vs Q E hr h => ?_)
  · obtain ⟨z, rfl, _⟩ := h
    rfl
  · obtain ⟨z, rfl, k⟩ := h
    refine ⟨_, pss_one (ps_ret (pe_ifExp (pt_cmpR op_eq (pv 0) (pe_gs T.c_EMPTY) (nomark _)) pe_str (pv 0))), ?_⟩
    refine ⟨_, rfl, rfl, _, rfl, ?_⟩
    refine ite2 (fun c => ?_) (fun c => ?_)
    · have c : z = "-" := by simpa using c
      rw [if_pos c] at k
      exact k
    · have c : ¬ z = "-" := by simpa using c
      rw [if_neg c] at k
      exact ⟨_, rfl, k⟩
/-! is_text -/
def sp_is_text : Sp := fun vs H Q _ => ∃ z : Str, vs = [.str z] ∧ z.length ≤ sizeLine ∧ ∀ H', Same H H' → Q (.bl (isText z)) H'
theorem sc_is_text : FnScope ["value", "sign"] ["value"] (defScope s_is_text) := ⟨rfl, rfl, rfl, by decide +kernel, rfl, by decide +kernel, by decide +kernel⟩
theorem at0 {α : Type} {x : α} {xs : List α} : atI (x :: xs) 0 = some x := atI_nat (j := 0) rfl
theorem s0 : ("0" : Str) = ⟨#[48]⟩ := by decide +kernel
theorem s1 : ("1" : Str) = ⟨#[49]⟩ := by decide +kernel
theorem str1_eq (a c : Nat) : ((⟨#[a]⟩ : Str) == ⟨#[c]⟩) = (c == a) := by
  by_cases h : a = c
  · subst h
    simp
  · have h2 : ¬ (⟨#[a]⟩ : Str) = ⟨#[c]⟩ := fun e => h (by simpa using e)
    rw [beq_eq_false_iff_ne.mpr h2, beq_eq_false_iff_ne.mpr (Ne.symm h)]
theorem inV_signs (c : Nat) : inV (.str ⟨#[c]⟩) [.str "0", .str "1"] = isSign c := by
  show ((("0" : Str) == ⟨#[c]⟩) || ((("1" : Str) == ⟨#[c]⟩) || false)) = _
  rw [s0, s1, str1_eq, str1_eq, Bool.or_false]
  rfl
theorem signs_len (z : Str) : (signs z).length = z.length := by simp [signs, Str.length]
theorem isText1 (c : Nat) : isText ⟨#[c]⟩ = isSign c := by simp [isText]
/-- all signs of a text, by a test of signs -/
theorem all_signs (z : Str) (p : Nat → Bool) (q : V → Bool) (h : ∀ c, q (.str ⟨#[c]⟩) = p c) : (signs z).all q = z.cps.toList.all p := by
  unfold signs
  rw [List.all_map]
  congr 1
  funext c
  exact h c
theorem ok_is_text (T : Tx K mg) : Has P w K mg base CX0 1 "is_text" ["value"] sp_is_text := by
  obtain ⟨f, fd, F, g⟩ := T.d_is_text
  have tS := T.c_SIGNS.2
  refine ⟨f, fd, g, F.kp, F.bindsN (ps := ["value"]) (fun _ _ _ _ _ _ us hl => match us, hl with | [_], _ => rfl), ?_⟩
  refine F.ok sc_is_text (fun vs H Q E h => ?_) (fun cdv A outer s H vs Q E hr h => ?_)
  · obtain ⟨z, rfl, _⟩ := h
    rfl
  · obtain ⟨z, rfl, hz, k⟩ := h
    refine ⟨_, pss_one (ps_ret (pe_and (pe_callB call_isi (by rfl) T.n_isinstance boot_isinstance (pa_cons (pv 0) (pa_cons (pe_bltn (v := .ty "str") rfl T.n_str PyProof.Rows.boot_str rfl) pa_nil)))
      (pe_one (pe_callB (cr_all rfl) (by rfl) T.n_all boot_all (pa_cons (pe_lc (own := [("sign", 1)]) (g := gName 1) (tt := tYes) rfl sc_is_text.nd (pi_str (pv 0)) (blkOk_by (N := ["value", "sign"]) (sc := defScope s_is_text) (by decide +kernel))
        (fun _ _ _ _ _ => pg_name (i := 1) sc_is_text.nd rfl (Or.inl rfl)) (fun _ _ _ _ _ => pts_nil) (fun _ _ _ _ _ => pe_cmpR (r := rIn K false) op_in_seq (pv 1) (pe_glob (v := .ref (He.ga K "SIGNS")) rfl T.c_SIGNS.1 rfl) rfl)) pa_nil))))), ?_⟩
    refine ⟨_, rfl, _, _, _, _, _, rfl, .ty _, .base (.str _), kit_ty (by decide +kernel), true, rfl, ?_⟩
    refine iteT ?_
    refine ⟨_, rfl, z, rfl, ?_⟩
    refine all_pure (items := signs z) (p := fun v => match v with | .str y => isText y | _ => false) steady_s (by rw [signs_len]; exact hz) ?_ ?_
    · intro x H' R hx sm q
      obtain ⟨c, _, rfl⟩ := List.mem_map.mp hx
      refine ⟨rfl, _, rfl, _, _, rfl, .inr (tS _), rfl, rfl, ?_⟩
      have e := q H' (Same.refl _)
      show R (.bl (inV (.str ⟨#[c]⟩) [.str "0", .str "1"])) H'
      rw [inV_signs, ← isText1]
      exact e
    · intro H' sm
      have e := k H' sm
      rw [all_signs z isSign _ fun c => isText1 c]
      exact e
/-! is_number -/
def isFig (c : Nat) : Bool := decide (48 ≤ c ∧ c ≤ 57)
def isNum (z : Str) : Bool := !decide (z = "") && (z.cps.toList.all isFig && (decide (z = "0") || !decide (z.cps.toList.head? = some 48)))
def sp_is_number : Sp := fun vs H Q _ => ∃ z : Str, vs = [.str z] ∧ z.length ≤ sizeLine ∧ ∀ H', Same H H' → Q (.bl (isNum z)) H'
theorem sc_is_number : FnScope ["word", "sign"] ["word"] (defScope s_is_number) := ⟨rfl, rfl, rfl, by decide +kernel, rfl, by decide +kernel, by decide +kernel⟩
theorem figs : (("0123456789" : Str)).cps.toList = [48, 49, 50, 51, 52, 53, 54, 55, 56, 57] := by decide +kernel
theorem in_figs (c : Nat) : decide (c ∈ (("0123456789" : Str)).cps.toList) = isFig c := by
  rw [figs]
  unfold isFig
  simp only [List.mem_cons, List.not_mem_nil, or_false]
  rw [decide_eq_decide]
  omega
theorem str_ne_nil {z : Str} (h : ¬ z = "") : ∃ c r, z.cps.toList = c :: r := by
  cases e : z.cps.toList with
  | nil => exact absurd (TL.ext_tl (x := z) (y := "") (by rw [TL.tl, e]; decide +kernel)) h
  | cons c r => exact ⟨c, r, rfl⟩
theorem ok_is_number (T : Tx K mg) : Has P w K mg base CX0 1 "is_number" ["word"] sp_is_number := by
  obtain ⟨f, fd, F, g⟩ := T.d_is_number
  refine ⟨f, fd, g, F.kp, F.bindsN (ps := ["word"]) (fun _ _ _ _ _ _ us hl => match us, hl with | [_], _ => rfl), ?_⟩
  refine F.ok sc_is_number (fun vs H Q E h => ?_) (fun cdv A outer s H vs Q E hr h => ?_)
  · obtain ⟨z, rfl, _⟩ := h
    rfl
  · obtain ⟨z, rfl, hz, k⟩ := h
    refine ⟨_, pss_one (ps_ret (pe_and (pe_cmpR op_ne (pv 0) pe_str (nomark _)) (pe_and
      (pe_callB (cr_all rfl) (by rfl) T.n_all boot_all (pa_cons (pe_lc (own := [("sign", 1)]) (g := gName 1) (tt := tYes) rfl sc_is_number.nd (pi_str (pv 0)) (blkOk_by (N := ["word", "sign"]) (sc := defScope s_is_number) (by decide +kernel))
        (fun _ _ _ _ _ => pg_name (i := 1) sc_is_number.nd rfl (Or.inl rfl)) (fun _ _ _ _ _ => pts_nil) (fun _ _ _ _ _ => pe_cmpR op_inS (pv 1) (pe_gs T.c_FIGURES) rfl)) pa_nil))
      (pe_one (pe_or (pe_cmpR op_eq (pv 0) pe_str (nomark _)) (pe_one (pe_cmpR op_ne (pe_ix ix_str (pv 0) pe_int (fun _ _ => rfl)) pe_str (nomark _)))))))), ?_⟩
    refine ⟨_, rfl, rfl, _, rfl, ?_⟩
    by_cases c0 : z = ""
    · have e := k H (Same.refl _)
      subst c0
      exact e
    have hn : (!decide (V.str z = V.str "")) = true := by simp [c0]
    rw [hn]
    refine iteT ?_
    refine ⟨_, rfl, z, rfl, ?_⟩
    refine all_pure (items := signs z) (p := fun v => match v with | .str y => y.cps.toList.all isFig | _ => false) steady_s (by rw [signs_len]; exact hz) ?_ ?_
    · intro x H' R hx sm q
      obtain ⟨c, _, rfl⟩ := List.mem_map.mp hx
      refine ⟨rfl, _, rfl, c, _, rfl, rfl, ?_⟩
      have e := q H' (Same.refl _)
      rw [in_figs]
      simpa using e
    · intro H' sm
      rw [all_signs z isFig _ fun c => by simp]
      refine ⟨_, rfl, ?_⟩
      have e := k H' sm
      unfold isNum at e
      rw [decide_eq_false c0] at e
      cases ha : z.cps.toList.all isFig with
      | false =>
        rw [ha] at e
        exact e
      | true =>
        rw [ha] at e
        refine iteT ?_
        refine ⟨_, rfl, rfl, _, rfl, ?_⟩
        refine ite2 (fun c => ?_) (fun c => ?_)
        · have c : z = "0" := by simpa using c
          rw [decide_eq_true c] at e
          exact e
        · have c : ¬ z = "0" := by simpa using c
          rw [decide_eq_false c] at e
          obtain ⟨d, r, ed⟩ := str_ne_nil c0
          refine ⟨_, rfl, z, 0, d, rfl, rfl, hz, by rw [ed]; exact at0, rfl, ?_⟩
          rw [ed] at e
          have e2 : decide (V.str ⟨#[d]⟩ = V.str "0") = decide ((d :: r).head? = some 48) := by
            rw [decide_eq_decide, s0]
            simp
          show Q (.bl (!decide (V.str ⟨#[d]⟩ = V.str "0"))) H'
          rw [e2]
          exact e
/-! is_text_word -/
def isTW (z : Str) : Bool := decide (z = "-") || (!decide (z = "") && isText z)
def sp_is_text_word : Sp := fun vs H Q _ => ∃ z : Str, vs = [.str z] ∧ z.length ≤ sizeLine ∧ ∀ H', Same H H' → Q (.bl (isTW z)) H'
theorem sc_is_text_word : FnScope ["word"] ["word"] (defScope s_is_text_word) := ⟨rfl, rfl, rfl, by decide +kernel, rfl, by decide +kernel, by decide +kernel⟩
theorem ok_is_text_word (T : Tx K mg) : Has P w K mg base CX0 2 "is_text_word" ["word"] sp_is_text_word := by
  obtain ⟨f, fd, F, g⟩ := T.d_is_text_word
  refine ⟨f, fd, g, F.kp, F.bindsN (ps := ["word"]) (fun _ _ _ _ _ _ us hl => match us, hl with | [_], _ => rfl), ?_⟩
  refine F.ok sc_is_text_word (fun vs H Q E h => ?_) (fun cdv A outer s H vs Q E hr h => ?_)
  · obtain ⟨z, rfl, _⟩ := h
    rfl
  · obtain ⟨z, rfl, hz, k⟩ := h
    refine ⟨_, (pss_one (ps_ret (pe_or (pe_cmpR op_eq (pv 0) (pe_gs T.c_EMPTY) (nomark _)) (pe_one (pe_and (pe_cmpR op_ne (pv 0) pe_str (nomark _)) (pe_one (pe_has (ok_is_text T) (hr.mono (by decide)) pass0 (pa_cons (pv 0) pa_nil)))))))), ?_⟩
    refine ⟨_, rfl, rfl, _, rfl, ?_⟩
    refine ite2 (fun c => ?_) (fun c => ?_)
    · have c : z = "-" := by simpa using c
      have e := k H (Same.refl _)
      unfold isTW at e
      rw [decide_eq_true c] at e
      exact e
    · have c : ¬ z = "-" := by simpa using c
      refine ⟨_, rfl, rfl, _, rfl, ?_⟩
      refine ite2 (fun d => ?_) (fun d => ?_)
      · have d : ¬ z = "" := by simpa using d
        refine ⟨_, rfl, z, rfl, hz, fun H' sm => ?_⟩
        have e := k H' sm
        unfold isTW at e
        rw [decide_eq_false c, decide_eq_false d] at e
        exact e
      · have d : z = "" := by simpa using d
        have e := k H (Same.refl _)
        unfold isTW at e
        rw [decide_eq_false c, decide_eq_true d] at e
        exact e
end
end Fy
/-! TR -/
namespace Fy
open PySem PySem.Spec PyProof.Rows L2
abbrev CT (K : PySem.W.Frag) : Addr := He.ga K "TableReader"
def tf (v : V) (r : Addr) : List (Str × V) := [("own_first", v), ("own_rows", .ref r)]
theorem fb1 : (("own_rows" : Str) == "own_first") = false := by decide +kernel
theorem fb2 : (("own_first" : Str) == "own_rows") = false := by decide +kernel
theorem fn1 : ¬ (("own_first" : Str) = "own_rows") := by decide +kernel
theorem tf_first (v : V) (r : Addr) : (tf v r).lookup ("own_first" : Str) = some v := by simp [tf, List.lookup]
theorem tf_rows (v : V) (r : Addr) : (tf v r).lookup ("own_rows" : Str) = some (.ref r) := by simp [tf, List.lookup, fb1]
theorem tf_put (v v' : V) (r : Addr) : putF "own_first" v' (tf v r) = tf v' r := by
  show (if ("own_first" : Str) = "own_first" then _ else _) = _
  rw [if_pos rfl]
  rfl
theorem tf_new (v : V) (r : Addr) : putF "own_rows" (.ref r) (putF "own_first" v []) = tf v r := by
  show (if ("own_first" : Str) = "own_rows" then _ else (("own_first" : Str), v) :: putF "own_rows" (.ref r) []) = _
  rw [if_neg fn1]
  rfl
/-- all but p and r stays -/
def Keep2 (p r : Addr) (H H' : Hp) : Prop := ∀ b o, H b = some o → b ≠ p → b ≠ r → H' b = some o
theorem Keep2.of {p r : Addr} {H H' : Hp} (s : Same H H') : Keep2 p r H H' := fun b o e _ _ => s b o e
theorem Keep2.trans {p r : Addr} {H H1 H2 : Hp} (a : Keep2 p r H H1) (b : Keep2 p r H1 H2) : Keep2 p r H H2 := fun c o e h1 h2 => b c o (a c o e h1 h2) h1 h2
/-- a row of the table that is read: its line, its two places -/
def RowAt (H : Hp) (r : Addr) (v : V) (x : Int × Int × Int) : Prop := ∃ t w t0 t1 c0 c1, v = .ref t ∧ H t = some (.tup [.int x.1, .ref w]) ∧ H w = some (.lst [.ref t0, .ref t1]) ∧ w ≠ r ∧ H t0 = some (.tup [.int x.2.1, .ref c0]) ∧ H t1 = some (.tup [.int x.2.2, .ref c1])
theorem ne_kind {H : Hp} {a b : Addr} {o u : HO} (h : H a = some o) (h' : H b = some u) (d : o = u → False) : a ≠ b := ne_of h h' d
theorem RowAt.keep {H H' : Hp} {p r : Addr} {v : V} {x : Int × Int × Int} {C dx : Addr} {fs : List (Str × V)} {ys : List V} (h : RowAt H r v x) (k : Keep2 p r H H') (hp : H p = some (.ins C dx fs)) (hr : H r = some (.lst ys)) : RowAt H' r v x := by
  obtain ⟨t, w, t0, t1, x0, x1, e, h1, h2, n, h3, h4⟩ := h
  have tp : ∀ {b xs}, H b = some (.tup xs) → b ≠ p := fun e => ne_of e hp (by intro z; cases z)
  have tr : ∀ {b xs}, H b = some (.tup xs) → b ≠ r := fun e => ne_of e hr (by intro z; cases z)
  exact ⟨t, w, t0, t1, x0, x1, e, k _ _ h1 (tp h1) (tr h1), k _ _ h2 (ne_of h2 hp (by intro z; cases z)) n, n, k _ _ h3 (tp h3) (tr h3), k _ _ h4 (tp h4) (tr h4)⟩
def FirstAt (H : Hp) (v : V) : Option Nat → Prop
  | none => v = .non
  | some n => ∃ ft ts, v = .ref ft ∧ H ft = some (.tup ts) ∧ ts.length = n
structure TRAt (K : PySem.W.Frag) (p r : Addr) (H : Hp) (first : Option Nat) (rows : List (Int × Int × Int)) : Prop where
  ex : ∃ dx v ys, H p = some (.ins (CT K) dx (tf v r)) ∧ H r = some (.lst ys) ∧ Paired (fun v x => RowAt H r v x) ys rows ∧ FirstAt H v first

def pieceOk (zs : List Str) : Bool := match zs with
  | [] => false
  | z :: r => isNum z && r.all isTW
def numOf (z : Str) : Int := (PySem.intText? z).getD 0
def nth (zs : List Str) (i : Nat) : Str := zs.getD i ""
def takeT (zs : List Str) (line : Int) (first : Option Nat) (rows : List (Int × Int × Int)) : Option (Option Nat × List (Int × Int × Int)) := match first with
  | none => if nth zs 0 = "first" ∧ 2 ≤ zs.length ∧ zs.length ≤ 4 ∧ (zs.drop 1).all isTW = true then some (some (zs.length - 1), rows) else none
  | some n => if nth zs 0 = "place" ∧ zs.length = 1 + 2 * (1 + n) ∧ rows.length ≠ 60 ∧ pieceOk ((zs.drop 1).take (n + 1)) = true ∧ pieceOk (zs.drop (n + 2)) = true then some (some n, rows ++ [(line, numOf (nth zs 1), numOf (nth zs (n + 2)))]) else none
theorem isFig_iff (c : Nat) : isFig c = true ↔ 48 ≤ c ∧ c ≤ 57 := by simp [isFig]
theorem numOf_ok {z : Str} (h : isNum z = true) (hl : z.length ≤ 640) : PySem.intText? z = some (numOf z) := by
  unfold isNum at h
  have h1 : ¬ z = "" := by
    intro e
    rw [decide_eq_true e] at h
    cases h
  have h2 : z.cps.toList.all isFig = true := by
    cases e : z.cps.toList.all isFig with
    | true => rfl
    | false => rw [e] at h; simp at h
  have hd : PySem.NumText.AllDigits z.cps.toList := fun c hc => (isFig_iff c).mp (List.all_eq_true.mp h2 c hc)
  obtain ⟨d, r, ed⟩ := str_ne_nil h1
  have e := PySem.intText_digits hd (by rw [ed]; exact List.cons_ne_nil _ _) (Nat.le_trans hl (by decide))
  unfold numOf
  rw [e]
  rfl
theorem tkN {zs : List Str} {line : Int} {rows : List (Int × Int × Int)} (h : ¬ (nth zs 0 = "first" ∧ 2 ≤ zs.length ∧ zs.length ≤ 4 ∧ (zs.drop 1).all isTW = true)) : takeT zs line none rows = none := if_neg h
theorem tkS {zs : List Str} {line : Int} {n : Nat} {rows : List (Int × Int × Int)} (h : ¬ (nth zs 0 = "place" ∧ zs.length = 1 + 2 * (1 + n) ∧ rows.length ≠ 60 ∧ pieceOk ((zs.drop 1).take (n + 1)) = true ∧ pieceOk (zs.drop (n + 2)) = true)) : takeT zs line (some n) rows = none := if_neg h
/-! the text readers as readings of trees -/
/-- nothing may change; the tables of H0 stay too -/
def Ez.base (K : PySem.W.Frag) (H0 : Hp) : Ez where
  K := K
  M := fun _ => False
  J := fun H => ∀ b ps, H0 b = some (.tbl ps) → H b = some (.tbl ps)
  jm := fun j k b ps e => k b _ (j b ps e) (.inr (.inr ⟨ps, rfl⟩))
  jd := fun _ h => h.elim
section
variable {Z : Ez} {te : TE} {σ : L2.St} {H : Hp} {E : XK} {z : Str}
theorem er_isnum (h : Er Z te σ H (· = .s z)) (hl : z.length ≤ sizeLine) : Er Z (tCall sp_is_number [] E (tCons te tNil)) σ H (· = .b (isNum z)) := fun H1 g j Q q => h H1 g j _ fun t v H2 g2 j2 p r => by
  subst p
  exact ⟨z, by rw [show v = _ from r]; rfl, hl, fun H3 s => q _ _ H3 (g2.trans (Gr.same s)) (Z.jsame s j2) rfl rfl⟩
theorem er_istw (h : Er Z te σ H (· = .s z)) (hl : z.length ≤ sizeLine) : Er Z (tCall sp_is_text_word [] E (tCons te tNil)) σ H (· = .b (isTW z)) := fun H1 g j Q q => h H1 g j _ fun t v H2 g2 j2 p r => by
  subst p
  exact ⟨z, by rw [show v = _ from r]; rfl, hl, fun H3 s => q _ _ H3 (g2.trans (Gr.same s)) (Z.jsame s j2) rfl rfl⟩
theorem er_istext (h : Er Z te σ H (· = .s z)) (hl : z.length ≤ sizeLine) : Er Z (tCall sp_is_text [] E (tCons te tNil)) σ H (· = .b (isText z)) := fun H1 g j Q q => h H1 g j _ fun t v H2 g2 j2 p r => by
  subst p
  exact ⟨z, by rw [show v = _ from r]; rfl, hl, fun H3 s => q _ _ H3 (g2.trans (Gr.same s)) (Z.jsame s j2) rfl rfl⟩
theorem er_textin (h : Er Z te σ H (· = .s z)) : Er Z (tCall sp_text_in [] E (tCons te tNil)) σ H (· = .s (if z = "-" then "" else z)) := fun H1 g j Q q => h H1 g j _ fun t v H2 g2 j2 p r => by
  subst p
  exact ⟨z, by rw [show v = _ from r]; rfl, q _ _ H2 g2 j2 rfl rfl⟩
theorem er_int (h : Er Z te σ H (· = .s z)) {n : Int} (hn : PySem.intText? z = some n) (hl : z.length ≤ 640) : Er Z (tCB (fun xs H Q => ∃ a n, xs = [V.str a] ∧ PySem.intText? a = some n ∧ a.length ≤ 640 ∧ Q (V.int n) H) (tCons te tNil)) σ H (· = .i n) :=
  er_cb (ea_1 h) fun ts vs H1 _ j ⟨t, e, p⟩ rs Q q => by
    subst e p
    obtain ⟨x, xs, rfl, rx, rfl⟩ := rs
    exact ⟨z, n, by rw [show x = _ from rx], hn, hl, q _ _ H1 Gr.refl j rfl rfl⟩
end
/-- number and texts -/
theorem er_piece {Z : Ez} {σ : L2.St} {H : Hp} {E E' : XK} {i j : Nat} {zs : List Str} {v : V} (hne : zs ≠ []) (hl : zs.length ≤ 1000) (hz : ∀ z ∈ zs, z.length ≤ 600) (hv : σ[i]? = some (some v)) (rv : Rep Z H (.l (zs.map PT.s)) v) (hj : j < σ.length) :
    Er Z (tAndV (tCall sp_is_number [] E (tCons (tOp (rIxL Z.K) (tVar i) (tC (.int 0))) tNil)) (tCB (rAll Z.K) (tCons (tLc (iList Z.K (tSl (rSlL Z.K) (tVar i) (tPart (tC (.int 1))) tNoPart)) (gName j) tYes (tCall sp_is_text_word [] E' (tCons (tVar j) tNil)) [j]) tNil))) σ H (· = .b (pieceOk zs)) := by
  obtain ⟨z, r, rfl⟩ : ∃ z r, zs = z :: r := by
    cases zs with
    | nil => exact absurd rfl hne
    | cons z r => exact ⟨z, r, rfl⟩
  refine er_andV (a := isNum z) (b := r.all isTW) (er_isnum (er_ixL (er_var rv hv) er_i (ixN0 (by simp)) rfl) (Nat.le_trans (hz z (by simp)) (by decide))) fun _ => ?_
  have e : Er Z (tLc (iList Z.K (tSl (rSlL Z.K) (tVar i) (tPart (tC (.int 1))) tNoPart)) (gName j) tYes (tCall sp_is_text_word [] E' (tCons (tVar j) tNil)) [j]) σ H (· = .l ((r.map isTW).map PT.b)) := by
    refine (er_lcf (f := fun t => match t with | .s z => .b (isTW z) | t => t) (ei_listc (er_slL (er_var rv hv) (eo_some er_i) eo_none)) ?_ wipe1 ?_).imp ?_
    · rw [show (1 : Int) = ((1 : Nat) : Int) from rfl, cutP_from]
      rw [List.length_drop, List.length_map]
      exact Nat.le_trans (Nat.sub_le _ _) (Nat.le_trans hl (by decide))
    · intro D o t x H1 ht hD g r1
      rw [show (1 : Int) = ((1 : Nat) : Int) from rfl, cutP_from] at ht
      obtain ⟨y, hy, rfl⟩ := List.mem_map.mp (show t ∈ r.map PT.s by simpa using ht)
      exact er_istw (er_var r1 (var1 hj)) (Nat.le_trans (hz y (by simp [hy])) (by decide))
    · intro t e
      rw [e, show (1 : Int) = ((1 : Nat) : Int) from rfl, cutP_from]
      simp
  exact (er_all e).imp fun t h => by rw [h, List.all_map]; rfl
theorem er_pieceV {Z : Ez} {σ : L2.St} {H : Hp} {E : XK} {i j : Nat} {zs : List Str} {v : V} (hok : pieceOk zs = true) (hl : zs.length ≤ 1000) (hz : ∀ z ∈ zs, z.length ≤ 600) (hv : σ[i]? = some (some v)) (rv : Rep Z H (.l (zs.map PT.s)) v) (hj : j < σ.length) :
    Er Z (tTup (tCons (tCB (fun xs H Q => ∃ a n, xs = [V.str a] ∧ PySem.intText? a = some n ∧ a.length ≤ 640 ∧ Q (V.int n) H) (tCons (tOp (rIxL Z.K) (tVar i) (tC (.int 0))) tNil))
      (tCons (tCB (rTupOf Z.K) (tCons (tLc (iList Z.K (tSl (rSlL Z.K) (tVar i) (tPart (tC (.int 1))) tNoPart)) (gName j) tYes (tCall sp_text_in [] E (tCons (tVar j) tNil)) [j]) tNil)) tNil))) σ H (fun t => ∃ us, t = .u [.i (numOf (nth zs 0)), .u us]) := by
  obtain ⟨z, r, rfl⟩ : ∃ z r, zs = z :: r := by
    cases zs with
    | nil => cases hok
    | cons z r => exact ⟨z, r, rfl⟩
  have hn : isNum z = true := by
    cases e : isNum z with
    | true => rfl
    | false => simp [pieceOk, e] at hok
  have hzl := hz z (by simp)
  have e : Er Z (tLc (iList Z.K (tSl (rSlL Z.K) (tVar i) (tPart (tC (.int 1))) tNoPart)) (gName j) tYes (tCall sp_text_in [] E (tCons (tVar j) tNil)) [j]) σ H (fun t => ∃ as, t = .l as ∧ True) := by
    refine (er_lcf (f := fun t => match t with | .s z => .s (if z = "-" then "" else z) | t => t) (ei_listc (er_slL (er_var rv hv) (eo_some er_i) eo_none)) ?_ wipe1 ?_).imp ?_
    · rw [show (1 : Int) = ((1 : Nat) : Int) from rfl, cutP_from]
      rw [List.length_drop, List.length_map]
      exact Nat.le_trans (Nat.sub_le _ _) (Nat.le_trans hl (by decide))
    · intro D o t x H1 ht hD g r1
      rw [show (1 : Int) = ((1 : Nat) : Int) from rfl, cutP_from] at ht
      obtain ⟨y, hy, rfl⟩ := List.mem_map.mp (show t ∈ r.map PT.s by simpa using ht)
      exact er_textin (er_var r1 (var1 hj))
    · intro t e
      exact ⟨_, e, trivial⟩
  refine (er_tup (ea_2 (er_int (er_ixL (er_var rv hv) er_i (ixN0 (by simp)) rfl) (numOf_ok hn (Nat.le_trans hzl (by decide))) (Nat.le_trans hzl (by decide))) (er_tuple e)) ?_).imp ?_
  · rintro ts ⟨t, u, rfl, _⟩
    exact (by decide : 2 ≤ sizeLine)
  · rintro t ⟨ts, rfl, t1, u, rfl, rfl, us, rfl, _⟩
    exact ⟨us, rfl⟩
theorem at0s {zs : List Str} (h : zs ≠ []) : atI (zs.map V.str) 0 = some (V.str (nth zs 0)) := by
  cases zs with
  | nil => exact absurd rfl h
  | cons z r => exact at0
def tiV : V → V
  | .str z => .str (if z = "-" then "" else z)
  | v => v
def twV : V → Bool
  | .str z => isTW z
  | _ => false
theorem all_twV (zs : List Str) : (zs.map V.str).all twV = zs.all isTW := by
  rw [List.all_map]
  rfl
section
variable {P : Program} {w : World} {K : PySem.W.Frag} {mg : Str → Option Value} {base : Heap}
def sp_TR_init (K : PySem.W.Frag) : Sp := fun vs H Q _ => ∃ p dx, vs = [.ref p] ∧ H p = some (.ins (CT K) dx []) ∧ ∀ H' r, H r = none → (∀ b o, H b = some o → b ≠ p → H' b = some o) → TRAt K p r H' none [] → Q .non H'
theorem sc_TableReader___init__ : FnScope ["self"] ["self"] (defScope s_TableReader___init__) := ⟨rfl, rfl, rfl, by decide +kernel, rfl, by decide +kernel, by decide +kernel⟩
theorem ok_TableReader___init__ (T : Tx K mg) : HasM P w K mg base CX0 1 (CT K) "__init__" ["self"] (sp_TR_init K) := by
  obtain ⟨fd, F, g⟩ := T.m_TableReader___init__
  refine ⟨_, fd, g, F.bindsN (ps := ["self"]) (fun _ _ _ _ _ _ us hl => match us, hl with | [_], _ => rfl), ?_⟩
  refine F.ok sc_TableReader___init__ (fun vs H Q E h => ?_) (fun cdv A outer s H vs Q E hr h => ?_)
  · obtain ⟨p, dx, rfl, _⟩ := h
    rfl
  · obtain ⟨p, dx, rfl, hp, k⟩ := h
    refine ⟨_, (pss_cons (ps_fld (pv 0) pe_non rfl)
      (pss_one (ps_fld (pv 0) (pe_lst pa_nil) rfl))), ?_⟩
    refine ⟨_, rfl, p, _, _, [], rfl, hp, T.cl_TableReader, T.na_TableReader_own_first, by decide, ?_⟩
    refine ⟨Nat.zero_le _, fun r hr => ?_⟩
    have npr : p ≠ r := fun z => by rw [← z, upd_same] at hr; cases hr
    refine ⟨_, rfl, p, _, _, _, rfl, by rw [upd_ne npr]; exact upd_same, T.cl_TableReader, T.na_TableReader_own_rows, by decide, ?_⟩
    have hr0 : H r = none := by rw [upd_ne npr.symm] at hr; exact hr
    refine k _ r hr0 (fun b o e n => ?_) ⟨_, .non, [], by rw [upd_same, tf_new], by rw [upd_ne npr.symm, upd_same], .nil, rfl⟩
    rw [upd_ne n, upd_ne (ne_of_none e hr0), upd_ne n]
    exact e
theorem sc_TableReader_take : FnScope ["self", "words", "line", "word", "size", "ways", "piece"] ["self", "words", "line"] (defScope s_TableReader_take) := ⟨rfl, rfl, rfl, by decide +kernel, rfl, by decide +kernel, by decide +kernel⟩
def sp_TR_take (K : PySem.W.Frag) : Sp := fun vs H Q _ => ∃ (p r ws : Addr) (line : Int) (zs : List Str) (first : Option Nat) (rows : List (Int × Int × Int)), vs = [.ref p, .ref ws, .int line] ∧ TRAt K p r H first rows ∧ H ws = some (.lst (zs.map V.str)) ∧
  ws ≠ r ∧ zs ≠ [] ∧ zs.length ≤ 1000 ∧ (∀ z ∈ zs, z.length ≤ 600) ∧ rows.length ≤ 1000 ∧ (∀ n, first = some n → n ≤ 1000) ∧
  (takeT zs line first rows = none → ∀ H', Keep2 p r H H' → Q (.bl false) H') ∧ (∀ st, takeT zs line first rows = some st → ∀ H', Keep2 p r H H' → TRAt K p r H' st.1 st.2 → Q (.bl true) H')
theorem ok_TableReader_take (T : Tx K mg) : HasM P w K mg base CX0 3 (CT K) "take" ["self", "words", "line"] (sp_TR_take K) := by
  obtain ⟨fd, F, g⟩ := T.m_TableReader_take
  obtain ⟨mc, uE, rE, vE⟩ := T.y_exits
  refine ⟨_, fd, g, F.bindsN (ps := ["self", "words", "line"]) (fun _ _ _ _ _ _ us hl => match us, hl with | [_, _, _], _ => rfl), ?_⟩
  refine F.ok sc_TableReader_take (fun vs H Q E h => ?_) (fun cdv A outer s H vs Q E hr h => ?_)
  · obtain ⟨p, r, ws, line, zs, first, rows, rfl, _⟩ := h
    rfl
  · obtain ⟨p, r, ws, line, zs, first, rows, rfl, ⟨dx, v, ys, hp, hrr, hys, hfst⟩, hws, nwr, hne, hlen, hsz, hrl, hfl, kF, kT⟩ := h
    refine ⟨_, (pss_cons (ps_if (pt_cmpR op_isN1 (pe_fldK (K := K) (pv 0)) pe_non (nomark _)) (pss_cons (ps_if ((pw_or (pt_cmpR op_ne (pe_ix (r := rIxL K) ix_list (pv 1) pe_int (fun _ _ => rfl)) pe_str (nomark _)) (pw_or1 (pt_not (pt_chain op_le op_le pe_int (pe_callB (r := rLenSq K) call_lenK (by rfl) T.n_len boot_len (pa_cons (pv 1) pa_nil)) (pe_op op_add (ClX.pe_cval (pe_glob (v := .ref (He.ga K "Yard")) (by rfl) T.g_Yard rfl)) pe_int))))).pt) (pss_one (ps_ret pe_bl)) pss_nil)
      (pss_cons (ps_fld (pv 0) (pe_callTy (r := rTupOf K) call_tupK (by rfl) T.n_tuple b_tuple (pa_cons (pe_lc (own := [("word", 3)]) (g := gName 3) (tt := tYes) rfl sc_TableReader_take.nd (pi_listK (K := K) (pe_slice (r := rSlL K) sl_list (pv 1) (po_some pe_int) po_none)) (blkOk_by (N := ["self", "words", "line", "word", "size", "ways", "piece"]) (sc := defScope s_TableReader_take) (by decide +kernel)) (fun _ _ _ _ _ => pg_name (i := 3) sc_TableReader_take.nd rfl (Or.inl rfl)) (fun _ _ _ _ _ => pts_nil) (fun _ _ _ _ _ => (pe_has (ok_text_in T) (hr.mono (by decide)) pass0 (pa_cons (pv 3) pa_nil)))) pa_nil)) rfl)
      (pss_one (ps_ret (pe_callB (r := rAll K) (cr_all rfl) (by rfl) T.n_all b_all (pa_cons (pe_lc (own := [("word", 3)]) (g := gName 3) (tt := tYes) rfl sc_TableReader_take.nd (pi_listK (K := K) (pe_slice (r := rSlL K) sl_list (pv 1) (po_some pe_int) po_none)) (blkOk_by (N := ["self", "words", "line", "word", "size", "ways", "piece"]) (sc := defScope s_TableReader_take) (by decide +kernel)) (fun _ _ _ _ _ => pg_name (i := 3) sc_TableReader_take.nd rfl (Or.inl rfl)) (fun _ _ _ _ _ => pts_nil) (fun _ _ _ _ _ => (pe_has (ok_is_text_word T) (hr.mono (by decide)) pass0 (pa_cons (pv 3) pa_nil)))) pa_nil)))))) pss_nil)
      (pss_cons (ps_set (i := 4) sc_TableReader_take.nd rfl (Or.inl rfl) (pe_op op_add pe_int (pe_callB (r := rLenSq K) call_lenK (by rfl) T.n_len boot_len (pa_cons (pe_fldK (K := K) (pv 0)) pa_nil))))
      (pss_cons (ps_if ((pw_or (pt_cmpR op_ne (pe_ix (r := rIxL K) ix_list (pv 1) pe_int (fun _ _ => rfl)) pe_str (nomark _)) (pw_or (pt_cmpR op_ne (pe_callB (r := rLenSq K) call_lenK (by rfl) T.n_len boot_len (pa_cons (pv 1) pa_nil)) (pe_op op_add pe_int (pe_op op_mul pe_int (pv 4))) (nomark _)) (pw_or1 (pt_cmpR op_eq (pe_callB (r := rLenSq K) call_lenK (by rfl) T.n_len boot_len (pa_cons (pe_fldK (K := K) (pv 0)) pa_nil)) (pe_gi T.c_MOST_PLACES) (nomark _))))).pt) (pss_one (ps_ret pe_bl)) pss_nil)
      (pss_cons (ps_set (i := 5) sc_TableReader_take.nd rfl (Or.inl rfl) (pe_lst (pa_cons (pe_slice (r := rSlL K) sl_list (pv 1) (po_some pe_int) (po_some (pe_op op_add pe_int (pv 4)))) (pa_cons (pe_slice (r := rSlL K) sl_list (pv 1) (po_some (pe_op op_add pe_int (pv 4))) po_none) pa_nil))))
      (pss_cons (ps_if (pt_not (pt_val (pe_callB (r := rAll K) (cr_all rfl) (by rfl) T.n_all b_all (pa_cons (pe_lc (own := [("piece", 6)]) (g := gName 6) (tt := tYes) rfl sc_TableReader_take.nd (pi_listK (K := K) (pv 5)) (blkOk_by (N := ["self", "words", "line", "word", "size", "ways", "piece"]) (sc := defScope s_TableReader_take) (by decide +kernel)) (fun _ _ _ _ _ => pg_name (i := 6) sc_TableReader_take.nd rfl (Or.inl rfl)) (fun _ _ _ _ _ => pts_nil) (fun _ _ _ _ _ => (pe_and (pe_has (ok_is_number T) (hr.mono (by decide)) pass0 (pa_cons (pe_ix (r := rIxL K) ix_list (pv 6) pe_int (fun _ _ => rfl)) pa_nil)) (pe_one (pe_callB (r := rAll K) (cr_all rfl) (by rfl) T.n_all b_all (pa_cons (pe_lc (own := [("word", 3)]) (g := gName 3) (tt := tYes) rfl sc_TableReader_take.nd (pi_listK (K := K) (pe_slice (r := rSlL K) sl_list (pv 6) (po_some pe_int) po_none)) (blkOk_by (N := ["self", "words", "line", "word", "size", "ways", "piece"])  (by kernel_rfl)) (fun _ _ _ _ _ => pg_name (i := 3) sc_TableReader_take.nd rfl (Or.inl rfl)) (fun _ _ _ _ _ => pts_nil) (fun _ _ _ _ _ => (pe_has (ok_is_text_word T) (hr.mono (by decide)) pass0 (pa_cons (pv 3) pa_nil)))) pa_nil)))))) pa_nil)))) (pss_one (ps_ret pe_bl)) pss_nil)
      (pss_cons (ps_expr (pe_bm PySem.F.plainAttrs_list PySem.F.slot_list_append PySem.F.type_list_append mt_append (pe_fldK (K := K) (pv 0)) (pa_cons (pe_tup (pa_cons (pv 2) (pa_cons (pe_lc (own := [("piece", 6)]) (g := gName 6) (tt := tYes) rfl sc_TableReader_take.nd (pi_listK (K := K) (pv 5)) (blkOk_by (N := ["self", "words", "line", "word", "size", "ways", "piece"]) (sc := defScope s_TableReader_take) (by decide +kernel)) (fun _ _ _ _ _ => pg_name (i := 6) sc_TableReader_take.nd rfl (Or.inl rfl)) (fun _ _ _ _ _ => pts_nil) (fun _ _ _ _ _ => (pe_tup (pa_cons (pe_callTy call_int_str (by rfl) T.n_int b_int (pa_cons (pe_ix (r := rIxL K) ix_list (pv 6) pe_int (fun _ _ => rfl)) pa_nil)) (pa_cons (pe_callTy (r := rTupOf K) call_tupK (by rfl) T.n_tuple b_tuple (pa_cons (pe_lc (own := [("word", 3)]) (g := gName 3) (tt := tYes) rfl sc_TableReader_take.nd (pi_listK (K := K) (pe_slice (r := rSlL K) sl_list (pv 6) (po_some pe_int) po_none)) (blkOk_by (N := ["self", "words", "line", "word", "size", "ways", "piece"])  (by kernel_rfl)) (fun _ _ _ _ _ => pg_name (i := 3) sc_TableReader_take.nd rfl (Or.inl rfl)) (fun _ _ _ _ _ => pts_nil) (fun _ _ _ _ _ => (pe_has (ok_text_in T) (hr.mono (by decide)) pass0 (pa_cons (pv 3) pa_nil)))) pa_nil)) pa_nil))))) pa_nil))) pa_nil)))
      (pss_one (ps_ret pe_bl)))))))), ?_⟩
    have npw : p ≠ ws := ne_of hp hws (by intro z; cases z)
    refine ⟨_, rfl, p, _, _, _, _, rfl, hp, T.cl_TableReader, T.na_TableReader_own_first, tf_first _ _, rfl, _, rfl, ?_⟩
    cases first with
    | none =>
      have ev : v = .non := hfst
      subst ev
      refine iteT ?_
      refine ⟨_, rfl, ws, _, 0, _, rfl, rfl, SqL.of hws, at0s hne, rfl, _, rfl, ?_⟩
      by_cases c1 : nth zs 0 = "first"
      case neg =>
        have e1 : (!decide (V.str (nth zs 0) = V.str "first")) = true := by simp [c1]
        rw [e1]
        refine iteT ?_
        exact kF (tkN (fun z => c1 z.1)) H (Keep2.of (Same.refl _))
      have e1 : (!decide (V.str (nth zs 0) = V.str "first")) = false := by simp [c1]
      rw [e1]
      refine iteF ?_
      refine ⟨_, rfl, ws, _, rfl, .inl (SqL.of hws), _, _, rfl, rfl, _, rfl, ?_⟩
      by_cases c2 : 2 ≤ zs.length
      case neg =>
        have e2 : decide ((2 : Int) ≤ ((zs.map V.str).length : Nat)) = false := by simp; omega
        rw [e2]
        refine iteF ?_
        refine ⟨_, rfl, ?_⟩
        refine iteT ?_
        exact kF (tkN (fun z => c2 z.2.1)) H (Keep2.of (Same.refl _))
      have e2 : decide ((2 : Int) ≤ ((zs.map V.str).length : Nat)) = true := by simp; omega
      rw [e2]
      refine iteT ?_
      refine ⟨_, mc, _, uE, rfl, rE, vE, _, _, rfl, rfl, _, _, rfl, rfl, _, rfl, ?_⟩
      by_cases c3 : zs.length ≤ 4
      case neg =>
        have e3 : decide (((zs.map V.str).length : Nat) ≤ (3 : Int) + 1) = false := by simp; omega
        rw [e3]
        refine iteT ?_
        exact kF (tkN (fun z => c3 z.2.2.1)) H (Keep2.of (Same.refl _))
      have e3 : decide (((zs.map V.str).length : Nat) ≤ (3 : Int) + 1) = true := by simp; omega
      rw [e3]
      refine iteF ?_
      refine ⟨_, rfl, _, rfl, ws, _, rfl, SqL.of hws, fun q hq => ⟨q, rfl, ⟨_, SqL.of upd_same⟩, ?_⟩⟩
      have sq : Same H (upd H q (.lst (cutV (zs.map V.str) (some 1) none))) := fun b o e => by rw [upd_ne (ne_of_none e hq)]; exact e
      have ec : cutV (zs.map V.str) (some 1) none = (zs.drop 1).map V.str := by rw [show (1 : Int) = ((1 : Nat) : Int) from rfl, cut_from, List.map_drop]
      refine tup_pure (f := tiV) (steady_l (SqL.of upd_same)) ?_ ?_ ?_
      · exact Nat.le_trans (cutV_length _ _ _) (by rw [List.length_map]; exact Nat.le_trans hlen (by decide))
      · intro x H' R hx sm q
        rw [ec] at hx
        obtain ⟨z, _, rfl⟩ := List.mem_map.mp hx
        exact ⟨rfl, _, rfl, z, rfl, q H' (Same.refl _)⟩
      · intro H1 l sm hl
        have s1 : Same H (upd H1 l (.tup ((cutV (zs.map V.str) (some 1) none).map tiV))) := fun b o e => by
          have e2 := sm _ _ (sq _ _ e)
          rw [upd_ne (ne_of_none e2 hl)]
          exact e2
        refine ⟨_, rfl, p, _, _, _, rfl, s1 _ _ hp, T.cl_TableReader, T.na_TableReader_own_first, by simp [tf], ?_⟩
        have npl : p ≠ l := ne_of_none (sm _ _ (sq _ _ hp)) hl
        have s2 : Keep2 p r H (upd (upd H1 l (.tup ((cutV (zs.map V.str) (some 1) none).map tiV))) p (.ins (CT K) dx (putF "own_first" (.ref l) (tf .non r)))) := fun b o e n1 n2 => by
          rw [upd_ne n1]
          exact s1 _ _ e
        refine ⟨_, rfl, _, rfl, ws, _, rfl, SqL.of (s2 _ _ hws npw.symm nwr), fun q2 hq2 => ⟨q2, rfl, ⟨_, SqL.of upd_same⟩, ?_⟩⟩
        refine all_pure (p := twV) (steady_l (SqL.of upd_same)) ?_ ?_ ?_
        · exact Nat.le_trans (cutV_length _ _ _) (by rw [List.length_map]; exact Nat.le_trans hlen (by decide))
        · intro x H' R hx sm q
          rw [ec] at hx
          obtain ⟨z, hz, rfl⟩ := List.mem_map.mp hx
          exact ⟨rfl, _, rfl, z, rfl, Nat.le_trans (hsz z (List.mem_of_mem_drop hz)) (by decide), fun H'' s => q H'' s⟩
        · intro H4 s4
          have s5 : Same (upd (upd H1 l (.tup ((cutV (zs.map V.str) (some 1) none).map tiV))) p (.ins (CT K) dx (putF "own_first" (.ref l) (tf .non r)))) H4 := fun b o e => s4 _ _ (by rw [upd_ne (ne_of_none e hq2)]; exact e)
          have kp : Keep2 p r H H4 := fun b o e n1 n2 => s5 _ _ (s2 b o e n1 n2)
          rw [ec, all_twV]
          cases ht : (zs.drop 1).all isTW with
          | false => exact kF (tkN (fun z => by rw [ht] at z; exact absurd z.2.2.2 (by decide))) _ kp
          | true =>
            refine kT (some (zs.length - 1), rows) (by unfold takeT; rw [if_pos ⟨c1, c2, c3, ht⟩]) _ kp ⟨dx, .ref l, ys, ?_, ?_, ?_, l, _, rfl, s5 _ _ (by rw [upd_ne npl.symm, upd_same]), ?_⟩
            · rw [s5 _ _ upd_same, tf_put]
            · exact s5 _ _ (by rw [upd_ne (ne_of hrr hp (by intro z; cases z))]; exact s1 _ _ hrr)
            · exact Paired.mapP hys fun a b h => h.keep kp hp hrr
            · rw [List.length_map, ec, List.length_map, List.length_drop]
    | some n =>
      obtain ⟨ft, ts, rfl, hft, hts⟩ := hfst
      have hn := hfl n rfl
      refine iteF ?_
      refine ⟨_, rfl, p, _, _, _, _, rfl, hp, T.cl_TableReader, T.na_TableReader_own_first, tf_first _ _, ft, _, rfl, .inr (SqT.of hft), _, _, rfl, rfl, ?_⟩
      refine ⟨_, rfl, ws, _, 0, _, rfl, rfl, SqL.of hws, at0s hne, rfl, _, rfl, ?_⟩
      by_cases c1 : nth zs 0 = "place"
      case neg =>
        have e1 : (!decide (V.str (nth zs 0) = V.str "place")) = true := by simp [c1]
        rw [e1]
        refine iteT ?_
        exact kF (tkS (fun z => c1 z.1)) H (Keep2.of (Same.refl _))
      have e1 : (!decide (V.str (nth zs 0) = V.str "place")) = false := by simp [c1]
      rw [e1]
      refine iteF ?_
      refine ⟨_, rfl, ws, _, rfl, .inl (SqL.of hws), _, rfl, _, _, rfl, rfl, .inl (by decide), _, _, rfl, rfl, rfl, _, rfl, ?_⟩
      by_cases c2 : zs.length = 1 + 2 * (1 + n)
      case neg =>
        have e2 : (!decide (V.int ((zs.map V.str).length : Nat) = V.int (1 + 2 * (1 + (ts.length : Nat))))) = true := by simp; omega
        rw [e2]
        refine iteT ?_
        exact kF (tkS (fun z => c2 z.2.1)) H (Keep2.of (Same.refl _))
      have e2 : (!decide (V.int ((zs.map V.str).length : Nat) = V.int (1 + 2 * (1 + (ts.length : Nat))))) = false := by simp; omega
      rw [e2]
      refine iteF ?_
      refine ⟨_, rfl, p, _, _, _, _, rfl, hp, T.cl_TableReader, T.na_TableReader_own_rows, tf_rows _ _, r, _, rfl, .inl (SqL.of hrr), rfl, _, rfl, ?_⟩
      have hyl : ys.length = rows.length := Paired.length hys
      by_cases c3 : rows.length = 60
      case pos =>
        have e3 : decide (V.int (ys.length : Nat) = V.int 60) = true := by simp; omega
        rw [e3]
        refine iteT ?_
        exact kF (tkS (fun z => z.2.2.1 c3)) H (Keep2.of (Same.refl _))
      have e3 : decide (V.int (ys.length : Nat) = V.int 60) = false := by simp; omega
      rw [e3]
      refine iteF ?_
      have pk : ∀ z ∈ zs, z.length ≤ 640 := fun z hz => Nat.le_trans (hsz z hz) (by decide)
      have eA : cutV (zs.map V.str) (some 1) (some (1 + (1 + (ts.length : Nat)))) = ((zs.drop 1).take (n + 1)).map V.str := by
        rw [show (1 : Int) + (1 + ((ts.length : Nat) : Int)) = ((n + 2 : Nat) : Int) by omega, show (1 : Int) = ((1 : Nat) : Int) from rfl, cut_mid, List.map_take, List.map_drop]
        rfl
      have eB : cutV (zs.map V.str) (some (1 + (1 + (ts.length : Nat)))) none = (zs.drop (n + 2)).map V.str := by
        rw [show (1 : Int) + (1 + ((ts.length : Nat) : Int)) = ((n + 2 : Nat) : Int) by omega, cut_from, List.map_drop]
      generalize hA : (zs.drop 1).take (n + 1) = A at eA
      generalize hB : zs.drop (n + 2) = B at eB
      refine ⟨_, rfl, _, rfl, _, rfl, _, _, rfl, rfl, _, rfl, ws, _, rfl, SqL.of hws, fun q0 hq0 => ?_⟩
      refine ⟨_, rfl, _, rfl, _, _, rfl, rfl, _, rfl, ws, _, rfl, SqL.of (by rw [upd_ne (ne_of_none hws hq0)]; exact hws), fun q1 hq1 => ?_⟩
      refine ⟨(by decide : 2 ≤ sizeLine), fun wl hwl => ?_⟩
      rw [eA] at hq1 hwl ⊢
      rw [eB] at hwl ⊢
      have hAl : A.length = n + 1 := by rw [← hA, List.length_take, List.length_drop]; omega
      have hBl : B.length = n + 1 := by rw [← hB, List.length_drop]; omega
      have hAz : ∀ z ∈ A, z.length ≤ 600 := fun z hz => hsz z (by rw [← hA] at hz; exact List.mem_of_mem_drop (List.mem_of_mem_take hz))
      have hBz : ∀ z ∈ B, z.length ≤ 600 := fun z hz => hsz z (by rw [← hB] at hz; exact List.mem_of_mem_drop hz)
      have s3 : Same H (upd (upd (upd H q0 (.lst (A.map V.str))) q1 (.lst (B.map V.str))) wl (.lst [.ref q0, .ref q1])) := fun b o e => by
        have e1 : upd H q0 (.lst (A.map V.str)) b = some o := by rw [upd_ne (ne_of_none e hq0)]; exact e
        have e2 : upd (upd H q0 (.lst (A.map V.str))) q1 (.lst (B.map V.str)) b = some o := by rw [upd_ne (ne_of_none e1 hq1)]; exact e1
        rw [upd_ne (ne_of_none e2 hwl)]
        exact e2
      have x01 : q0 ≠ q1 := ne_of_none upd_same hq1
      have x0w : q0 ≠ wl := ne_of_none (by rw [upd_ne x01]; exact upd_same) hwl
      have x1w : q1 ≠ wl := ne_of_none upd_same hwl
      have g0 : (upd (upd (upd H q0 (.lst (A.map V.str))) q1 (.lst (B.map V.str))) wl (.lst [.ref q0, .ref q1])) q0 = some (.lst (A.map V.str)) := by rw [upd_ne x0w, upd_ne x01]; exact upd_same
      have g1 : (upd (upd (upd H q0 (.lst (A.map V.str))) q1 (.lst (B.map V.str))) wl (.lst [.ref q0, .ref q1])) q1 = some (.lst (B.map V.str)) := by rw [upd_ne x1w]; exact upd_same
      have gw : (upd (upd (upd H q0 (.lst (A.map V.str))) q1 (.lst (B.map V.str))) wl (.lst [.ref q0, .ref q1])) wl = some (.lst [.ref q0, .ref q1]) := upd_same
      have fr : ∀ a, H a = none → a ≠ p ∧ a ≠ r := fun a h => ⟨fun z => by (rw [z, hp] at h; cases h), fun z => by (rw [z, hrr] at h; cases h)⟩
      have f0 := fr q0 hq0
      have hq1' : H q1 = none := by rw [upd_ne x01.symm] at hq1; exact hq1
      have hwl' : H wl = none := by rw [upd_ne x1w.symm, upd_ne x0w.symm] at hwl; exact hwl
      have f1 := fr q1 hq1'
      have fw := fr wl hwl'
      generalize (upd (upd (upd H q0 (.lst (A.map V.str))) q1 (.lst (B.map V.str))) wl (.lst [.ref q0, .ref q1])) = H3 at s3 g0 g1 gw ⊢
      have hp3 := s3 _ _ hp
      have hr3 := s3 _ _ hrr
      generalize hZ : ((Ez.base K H).acc p (.ins (CT K) dx (tf (.ref ft) r))).acc r (.lst ys) = Z
      have zK : Z.K = K := by rw [← hZ]; rfl
      have zM : ∀ a, Z.M a ↔ (a = r ∨ a = p) := fun a => by
        rw [← hZ]
        show (a = r ∨ a = p ∨ False) ↔ _
        simp
      have zJ : ∀ H', Z.J H' → (H' p = some (.ins (CT K) dx (tf (.ref ft) r)) ∧ H' r = some (.lst ys)) ∧ ∀ b ps, H b = some (.tbl ps) → H' b = some (.tbl ps) := fun H' j => by
        rw [← hZ] at j
        exact ⟨⟨j.1.2, j.2⟩, j.1.1⟩
      have j3 : Z.J H3 := by
        rw [← hZ]
        exact ⟨⟨fun b ps e => s3 _ _ e, hp3⟩, hr3⟩
      have nM : ∀ a, a ≠ p ∧ a ≠ r → ¬ Z.M a := fun a h m => ((zM a).mp m).elim h.2 h.1
      have kp4 : ∀ H', Gr Z H3 H' → Z.J H' → Keep2 p r H H' := fun H' g j b o e n1 n2 => by
        by_cases t : ∃ ps, o = .tbl ps
        · obtain ⟨ps, rfl⟩ := t
          exact (zJ _ j).2 b ps e
        · exact g _ _ (s3 _ _ e) (nM _ ⟨n1, n2⟩) fun ps z => t ⟨ps, z⟩
      have rw0 : Rep Z H3 (.l [.l (A.map PT.s), .l (B.map PT.s)]) (.ref wl) := ⟨wl, _, rfl, nM _ fw, gw, _, _, rfl, ⟨q0, _, rfl, nM _ f0, g0, RepL.strs A⟩, _, _, rfl, ⟨q1, _, rfl, nM _ f1, g1, RepL.strs B⟩, rfl⟩
      clear hZ
      subst zK
      have nA : A ≠ [] := fun e => by rw [e] at hAl; cases hAl
      have nB : B ≠ [] := fun e => by rw [e] at hBl; cases hBl
      have lA : A.length ≤ 1000 := by omega
      have lB : B.length ≤ 1000 := by omega
      have hAll : ∀ D : L2.St → Prop, True := fun _ => trivial
      change tSeq _ _ _ _ _
      refine zq_when (b := !(pieceOk A && pieceOk B)) (Eb.imp (eb_not (eb_B (er_all (bs := [pieceOk A, pieceOk B]) ((er_lcf (as := [.l (A.map PT.s), .l (B.map PT.s)]) (f := fun t => .b (pieceOk t.strs)) (ei_listc (er_var rw0 ?_)) (show 2 ≤ sizeLine by decide) wipe1 ?_).imp ?_)))) ?_) j3 ?_ ?_
      · rfl
      · intro D o t x H1 ht hD g1 r1
        simp only [List.mem_cons, List.not_mem_nil, or_false] at ht
        rcases ht with rfl | rfl
        · refine Er.imp (er_piece (Z := Z.acc D o) nA lA hAz (var1 ?h1) r1 ?h2) ?h3
          case h1 => exact (show 6 < 7 by decide)
          case h2 => exact (show 3 < 7 by decide)
          case h3 => exact fun t e => by rw [e, strs_l]
        · refine Er.imp (er_piece (Z := Z.acc D o) nB lB hBz (var1 ?h1) r1 ?h2) ?h3
          case h1 => exact (show 6 < 7 by decide)
          case h2 => exact (show 3 < 7 by decide)
          case h3 => exact fun t e => by rw [e, strs_l]
      · intro t e
        rw [e]
        show PT.l [PT.b (pieceOk (PT.l (A.map PT.s)).strs), PT.b (pieceOk (PT.l (B.map PT.s)).strs)] = _
        rw [strs_l, strs_l]
        rfl
      · intro b e
        rw [e]
        simp
      · intro eb H4 g4 j4
        refine kF (tkS (fun z => ?_)) H4 (kp4 _ g4 j4)
        obtain ⟨_, _, _, e1, e2⟩ := z
        rw [hA] at e1
        rw [hB] at e2
        rw [e1, e2] at eb
        cases eb
      · intro eb H4 g4 j4
        have eA2 : pieceOk A = true := by
          cases e : pieceOk A with
          | true => rfl
          | false => rw [e] at eb; cases eb
        have eB2 : pieceOk B = true := by
          cases e : pieceOk B with
          | true => rfl
          | false => rw [eA2, e] at eb; cases eb
        have hrest := (zJ _ j4).1
        refine ⟨_, rfl, p, _, _, _, _, rfl, hrest.1, T.cl_TableReader, T.na_TableReader_own_rows, tf_rows _ _, ?_⟩
        refine ⟨Or.inl ⟨rfl, _, SqL.of hrest.2⟩, ?_⟩
        have rw4 := rw0.mono g4
        refine (ea_1 (er_tup (ea_2 (er_var (t := .i line) (v := .int line) rfl ?_) (er_lc (R := fun t u => ∃ us, u = .u [.i (numOf (nth t.strs 0)), .u us]) (P := (· = [.l (A.map PT.s), .l (B.map PT.s)])) (ei_listc (er_var rw4 ?_)) ?_ wipe1 ?_)) ?_)) H4 Gr.refl j4 _ fun vts vs H5 g5 j5 p5 r5 => ?_
        · rfl
        · rfl
        · intro ts e
          rw [e]
          exact (show 2 ≤ sizeLine by decide)
        · intro ts D o t x H1 e ht hD g1 r1
          subst e
          simp only [List.mem_cons, List.not_mem_nil, or_false] at ht
          rcases ht with rfl | rfl
          · refine Er.imp (er_pieceV (Z := Z.acc D o) eA2 lA hAz (var1 ?h1) r1 ?h2) ?h3
            case h1 => exact (show 6 < 7 by decide)
            case h2 => exact (show 3 < 7 by decide)
            case h3 => exact fun t e => by rw [strs_l]; exact e
          · refine Er.imp (er_pieceV (Z := Z.acc D o) eB2 lB hBz (var1 ?h1) r1 ?h2) ?h3
            case h1 => exact (show 6 < 7 by decide)
            case h2 => exact (show 3 < 7 by decide)
            case h3 => exact fun t e => by rw [strs_l]; exact e
        · rintro ts ⟨t, u, rfl, _⟩
          exact (show 2 ≤ sizeLine by decide)
        · obtain ⟨t, rfl, ts2, rfl, t1, u1, rfl, rfl, its, us, rfl, rfl, hus⟩ := p5
          obtain ⟨x5, _, rfl, hx5, rfl⟩ := r5
          have hj5 := (zJ _ j5).1
          refine ⟨r, ys, x5, rfl, rfl, hj5.2, Nat.lt_of_le_of_lt (by omega : ys.length ≤ 1000) (by decide), ?_⟩
          have n5 : nth zs 1 = nth A 0 ∧ nth zs (n + 2) = nth B 0 := by
            rw [← hA, ← hB]
            unfold nth
            simp
          have hnt : ¬ x5 = .ref r := fun e => by
            obtain ⟨a, xs, e2, na, _⟩ := hx5
            rw [e] at e2
            injection e2 with e2
            exact na ((zM a).mpr (.inl e2.symm))
          cases hus with
          | cons h1 hus =>
          cases hus with
          | cons h2 hus =>
          cases hus
          obtain ⟨us1, rfl⟩ := h1
          obtain ⟨us2, rfl⟩ := h2
          rw [strs_l] at hx5
          rw [strs_l] at hx5
          obtain ⟨t5, xs5, rfl, nt5, h5, y1, _, rfl, rfl, y2, _, rfl, ⟨w5, ws5, rfl, nw5, hw5, z1, _, rfl, ⟨a1, x1, rfl, na1, ha1, i1, _, rfl, rfl, k1, _, rfl, ⟨e1a, e1b, rfl, _, _, _⟩, rfl⟩, z2, _, rfl, ⟨a2, x2, rfl, na2, ha2, i2, _, rfl, rfl, k2, _, rfl, ⟨e2a, e2b, rfl, _, _, _⟩, rfl⟩, rfl⟩, rfl⟩ := hx5
          have up : ∀ {b o}, H5 b = some o → ¬ Z.M b → upd H5 r (.lst (ys ++ [.ref t5])) b = some o := fun e n => by rw [upd_ne (fun z => n ((zM _).mpr (.inl z)))]; exact e
          have kp : Keep2 p r H (upd H5 r (.lst (ys ++ [.ref t5]))) := fun b o e n1 n2 => up (kp4 _ (g4.trans g5) j5 b o e n1 n2) (nM _ ⟨n1, n2⟩)
          have nft : ft ≠ p ∧ ft ≠ r := ⟨ne_of hft hp (by intro z; cases z), ne_of hft hrr (by intro z; cases z)⟩
          refine kT (some n, rows ++ [(line, numOf (nth zs 1), numOf (nth zs (n + 2)))]) ?_ _ kp ⟨dx, .ref ft, ys ++ [.ref t5], ?_, upd_same, ?_, ft, ts, rfl, kp _ _ hft nft.1 nft.2, hts⟩
          · show (if _ then _ else _) = _
            rw [hA, hB, if_pos ⟨c1, c2, c3, eA2, eB2⟩]
          · rw [upd_ne (ne_of hp hrr (by intro z; cases z))]
            exact hj5.1
          · refine paired_app (Paired.mapP hys fun a b h => h.keep kp hp hrr) (.cons ?_ .nil)
            exact ⟨t5, w5, a1, a2, _, _, rfl, up h5 nt5, up hw5 nw5, fun z => nw5 ((zM _).mpr (.inl z)), by rw [n5.1]; exact up ha1 na1, by rw [n5.2]; exact up ha2 na2⟩
end
end Fy
/-! TR2 -/
namespace Fy
open PySem PySem.Spec PyProof.Rows L2
section
variable {Z : Ez} {σ : L2.St} {H : Hp} {t u : PT} {v : V}
theorem er_fld {p C dx : Addr} {fs : List (Str × V)} {f : Str} {i : Nat} (hp : H p = some (.ins C dx fs)) (nM : ¬ Z.M p) (c : Cls Z.K C) (n : NoAttr Z.K C f) (hl : fs.lookup f = some v) (r : Rep Z H t v) (hi : σ[i]? = some (some (.ref p)) := by rfl) : Er Z (tFld Z.K (tVar i) f) σ H (· = t) :=
  fun H1 g j Q q => ⟨_, hi, p, C, dx, fs, v, rfl, g p _ hp nM (fun _ z => by cases z), c, n, hl, q t v H1 Gr.refl j rfl (r.mono g)⟩
/-- a, b = a pair -/
theorem g_pair {x : V} {i j : Nat} {Kt : L2.St → Hp → Prop} (r : Rep Z H (.u [t, u]) x) (k : ∀ v w, Rep Z H t v → Rep Z H u w → Kt ((σ.set i (some v)).set j (some w)) H) : gTup Z.K 2 (gCons (gName i) (gCons (gName j) gNil)) x σ H Kt := by
  obtain ⟨a, xs, rfl, na, h, v, _, rfl, rv, w, _, rfl, rw', rfl⟩ := r
  exact ⟨a, _, rfl, SqT.of h, rfl, v, _, rfl, w, _, rfl, rfl, k v w rv rw'⟩
end
/-- a row as a tree -/
def IsRow (x : Int × Int × Int) (t : PT) : Prop := ∃ c0 c1, t = .u [.i x.1, .l [.u [.i x.2.1, .r c0], .u [.i x.2.2, .r c1]]]
section
variable {P : Program} {w : World} {K : PySem.W.Frag} {mg : Str → Option Value} {base : Heap}
theorem rows_rep {H0 H : Hp} {r : Addr} : ∀ {ys : List V} {rows : List (Int × Int × Int)}, Paired (fun v x => RowAt H r v x) ys rows → ∃ ts, RepL (Ez.base K H0) H ts ys ∧ Paired IsRow rows ts
  | _, _, .nil => ⟨[], rfl, .nil⟩
  | _, _, .cons h p => by
    obtain ⟨ts, h1, h2⟩ := rows_rep (H0 := H0) p
    obtain ⟨t, w, t0, t1, c0, c1, rfl, e1, e2, _, e3, e4⟩ := h
    exact ⟨.u [.i _, .l [.u [.i _, .r c0], .u [.i _, .r c1]]] :: ts, ⟨_, _, rfl, ⟨t, _, rfl, id, e1, _, _, rfl, rfl, _, _, rfl, ⟨w, _, rfl, id, e2, _, _, rfl, ⟨t0, _, rfl, id, e3, _, _, rfl, rfl, _, _, rfl, rfl, rfl⟩, _, _, rfl, ⟨t1, _, rfl, id, e4, _, _, rfl, rfl, _, _, rfl, rfl, rfl⟩, rfl⟩, rfl⟩, h1⟩, .cons ⟨c0, c1, rfl⟩ h2⟩
theorem base_same {H0 H H' : Hp} (g : Gr (Ez.base K H0) H H') (j : (Ez.base K H0).J H') (e : H = H0) : Same H H' := fun b o h => by
  by_cases t : ∃ ps, o = .tbl ps
  · obtain ⟨ps, rfl⟩ := t
    exact j b ps (e ▸ h)
  · exact g b o h id fun ps z => t ⟨ps, z⟩
theorem base_j {H : Hp} : (Ez.base K H).J H := fun _ _ e => e
def sp_TR_whole (K : PySem.W.Frag) : Sp := fun vs H Q _ => ∃ p r first rows, vs = [.ref p] ∧ TRAt K p r H first rows ∧ ∀ H', Same H H' → Q (.bl (!rows.isEmpty)) H'
theorem sc_TableReader_is_whole : FnScope ["self"] ["self"] (defScope s_TableReader_is_whole) := ⟨rfl, rfl, rfl, by decide +kernel, rfl, by decide +kernel, by decide +kernel⟩
theorem ok_TableReader_is_whole (T : Tx K mg) : HasM P w K mg base CX0 1 (CT K) "is_whole" ["self"] (sp_TR_whole K) := by
  obtain ⟨fd, F, g⟩ := T.m_TableReader_is_whole
  refine ⟨_, fd, g, F.bindsN (ps := ["self"]) (fun _ _ _ _ _ _ us hl => match us, hl with | [_], _ => rfl), ?_⟩
  refine F.ok sc_TableReader_is_whole (fun vs H Q E h => ?_) (fun cdv A outer s H vs Q E hr h => ?_)
  · obtain ⟨p, r, first, rows, rfl, _⟩ := h
    rfl
  · obtain ⟨p, r, first, rows, rfl, ⟨dx, v, ys, hp, hrr, hys, hfst⟩, k⟩ := h
    refine ⟨_, (pss_one (ps_ret (pe_cmpR (op_ne_nil hr) (pe_fldK (K := K) (pv 0)) (pe_lst pa_nil) (nomark _)))), ?_⟩
    refine ⟨_, rfl, p, _, _, _, _, rfl, hp, T.cl_TableReader, T.na_TableReader_own_rows, tf_rows _ _, Nat.zero_le _, fun q hq => ?_⟩
    have s1 : Same H (upd H q (.lst [])) := fun b o e => by rw [upd_ne (ne_of_none e hq)]; exact e
    refine ⟨r, q, ys, rfl, rfl, SqL.of (s1 _ _ hrr), SqL.of upd_same, ?_⟩
    have e : ys.isEmpty = rows.isEmpty := by
      have := Paired.length hys
      cases ys <;> cases rows <;> simp_all
    rw [e]
    exact k _ s1
theorem paired_mem {α β : Type} {R : α → β → Prop} : ∀ {l : List α} {us : List β} {u : β}, Paired R l us → u ∈ us → ∃ a, a ∈ l ∧ R a u
  | _, _, _, .nil, h => absurd h (by simp)
  | a :: l, _, u, .cons r p, h => by
    rcases List.mem_cons.mp h with rfl | h
    · exact ⟨a, by simp, r⟩
    · obtain ⟨b, h1, h2⟩ := paired_mem p h
      exact ⟨b, by simp [h1], h2⟩
def wrongs (rows : List (Int × Int × Int)) : List Int := (rows.filter fun x => decide ((rows.length : Int) ≤ x.2.1) || decide ((rows.length : Int) ≤ x.2.2)).map (·.1)
def rowBad (many : Int) : PT → Bool
  | .u [.i _, .l [.u [.i a, _], .u [.i b, _]]] => decide (many ≤ a) || decide (many ≤ b)
  | _ => false
def fstI : PT → PT
  | .u (t :: _) => t
  | t => t
def sp_TR_wrong (K : PySem.W.Frag) : Sp := fun vs H Q _ => ∃ p r first rows, vs = [.ref p] ∧ TRAt K p r H first rows ∧ rows.length ≤ 1000 ∧ ∀ H' l, Same H H' → H' l = some (.lst ((wrongs rows).map V.int)) → Q (.ref l) H'
theorem sc_TableReader_wrong_lines : FnScope ["self", "many", "line", "ways", "place", "texts"] ["self"] (defScope s_TableReader_wrong_lines) := ⟨rfl, rfl, rfl, by decide +kernel, rfl, by decide +kernel, by decide +kernel⟩
theorem paired_wrongs {n : Int} : ∀ {rows : List (Int × Int × Int)} {ts us : List PT}, Paired IsRow rows ts → Paired (fun t u => u = fstI t) (ts.filter (rowBad n)) us → us = ((rows.filter fun x => decide (n ≤ x.2.1) || decide (n ≤ x.2.2)).map (·.1)).map PT.i
  | _, _, us, .nil, p => by cases p; rfl
  | x :: rows, _, us, .cons (b := t) ⟨c0, c1, e⟩ h, p => by
    subst e
    have e1 : rowBad n (.u [.i x.1, .l [.u [.i x.2.1, .r c0], .u [.i x.2.2, .r c1]]]) = (decide (n ≤ x.2.1) || decide (n ≤ x.2.2)) := rfl
    cases q : (decide (n ≤ x.2.1) || decide (n ≤ x.2.2)) with
    | true =>
      rw [List.filter_cons_of_pos (by rw [e1, q])] at p
      rw [List.filter_cons_of_pos (p := fun x : Int × Int × Int => decide (n ≤ x.2.1) || decide (n ≤ x.2.2)) q]
      cases p with
      | cons e p => rw [paired_wrongs h p, e]; rfl
    | false =>
      rw [List.filter_cons_of_neg (by rw [e1, q]; decide)] at p
      rw [List.filter_cons_of_neg (p := fun x : Int × Int × Int => decide (n ≤ x.2.1) || decide (n ≤ x.2.2)) (by rw [q]; decide)]
      exact paired_wrongs h p
theorem ok_TableReader_wrong_lines (T : Tx K mg) : HasM P w K mg base CX0 1 (CT K) "wrong_lines" ["self"] (sp_TR_wrong K) := by
  obtain ⟨fd, F, g⟩ := T.m_TableReader_wrong_lines
  refine ⟨_, fd, g, F.bindsN (ps := ["self"]) (fun _ _ _ _ _ _ us hl => match us, hl with | [_], _ => rfl), ?_⟩
  refine F.ok sc_TableReader_wrong_lines (fun vs H Q E h => ?_) (fun cdv A outer s H vs Q E hr h => ?_)
  · obtain ⟨p, r, first, rows, rfl, _⟩ := h
    rfl
  · obtain ⟨p, r, first, rows, rfl, ⟨dx, v, ys, hp, hrr, hys, hfst⟩, hrl, k⟩ := h
    refine ⟨_, (pss_cons (ps_set (i := 1) sc_TableReader_wrong_lines.nd rfl (Or.inr rfl) (pe_callB (r := rLenSq K) call_lenK (by rfl) T.n_len boot_len (pa_cons (pe_fldK (K := K) (pv 0)) pa_nil)))
      (pss_one (ps_ret (pe_lc (own := [("line", 2), ("ways", 3)]) (g := gTup K 2 (gCons (gName 2) (gCons (gName 3) gNil))) (tt := _) rfl sc_TableReader_wrong_lines.nd (pi_listK (K := K) (pe_fldK (K := K) (pv 0))) (blkOk_by (N := ["self", "many", "line", "ways", "place", "texts"]) (sc := defScope s_TableReader_wrong_lines) (by decide +kernel)) (fun _ _ _ _ _ => pg_tup rfl (pgs_cons (pg_name (i := 2) sc_TableReader_wrong_lines.nd rfl (Or.inl rfl)) (pgs_cons (pg_name (i := 3) sc_TableReader_wrong_lines.nd rfl (Or.inl rfl)) pgs_nil))) (fun _ _ _ _ _ => pts_one (pt_val (pe_callB (r := rAny K) (cr_any rfl) (by rfl) T.n_any b_any (pa_cons (pe_lc (own := [("place", 4), ("texts", 5)]) (g := gTup K 2 (gCons (gName 4) (gCons (gName 5) gNil))) (tt := tYes) rfl sc_TableReader_wrong_lines.nd (pi_listK (K := K) (pv 3)) (blkOk_by (N := ["self", "many", "line", "ways", "place", "texts"])  (by kernel_rfl)) (fun _ _ _ _ _ => pg_tup rfl (pgs_cons (pg_name (i := 4) sc_TableReader_wrong_lines.nd rfl (Or.inl rfl)) (pgs_cons (pg_name (i := 5) sc_TableReader_wrong_lines.nd rfl (Or.inl rfl)) pgs_nil))) (fun _ _ _ _ _ => pts_nil) (fun _ _ _ _ _ => (pe_cmpR op_ge (pv 4) (pv 1) (nomark _)))) pa_nil)))) (fun _ _ _ _ _ => (pv 2)))))), ?_⟩
    have hyl : ys.length = rows.length := Paired.length hys
    obtain ⟨ts, hts, hrt⟩ := rows_rep (K := K) (H0 := H) hys
    have htl : ts.length = rows.length := (Paired.length hrt).symm
    have rr : Rep (Ez.base K H) H (.l ts) (.ref r) := ⟨r, ys, rfl, id, hrr, hts⟩
    have fld : ∀ σ : L2.St, σ[0]? = some (some (.ref p)) → Er (Ez.base K H) (tFld K (tVar 0) "own_rows") σ H (· = .l ts) := fun σ h0 => er_fld hp id T.cl_TableReader T.na_TableReader_own_rows (tf_rows _ _) rr h0
    refine zq_asg (er_lenL (fld _ rfl)) base_j fun t1 v1 H1 g1 j1 e1 r1 => ?_
    subst e1
    have e2 : v1 = .int ts.length := r1
    subst e2
    refine z_ret ((er_lcF (R := fun t u => u = fstI t) (f := rowBad ts.length) (ei_listc (Er.mono g1 (fld _ ?_))) (fun as e => by rw [show as = ts from e, htl]; exact Nat.le_trans hrl (by decide)) ?_)) j1 ?_
    · rfl
    · intro ts' D o t x H2 Kt e ht hD g2 j2 r2 kk
      subst e
      obtain ⟨row, _, c0, c1, e⟩ := paired_mem hrt ht
      subst e
      refine g_pair r2 fun v3 v4 r3 r4 => ?_
      refine kk _ rfl ?_ fun _ => ?_
      · refine Eb.imp (eb_B (er_any (bs := [decide ((ts'.length : Int) ≤ row.2.1), decide ((ts'.length : Int) ≤ row.2.2)]) (Er.imp (er_lcF (f := fun _ => true) (R := fun t u => u = .b (match t with | .u (.i a :: _) => decide ((ts'.length : Int) ≤ a) | _ => false)) (ei_listc (er_var r4 ?_)) ?_ ?_) ?_))) ?_
        · rfl
        · intro as e
          rw [show as = _ from e]
          exact (show 2 ≤ sizeLine by decide)
        · intro ts2 D2 o2 t2 x2 H3 Kt2 e2 ht2 hD2 g3 j3 r5 kk2
          subst e2
          simp only [List.mem_cons, List.not_mem_nil, or_false] at ht2
          rcases ht2 with rfl | rfl
          · refine g_pair r5 fun v5 v6 r5 r6 => kk2 _ rfl (fun H4 g4 j4 Q q => q true H4 Gr.refl j4 rfl) fun _ => er_I0 (er_var r5 ?_) (er_var (t := .i ts'.length) (v := .int ts'.length) rfl ?_) fun _ => rfl
            · rfl
            · rfl
          · refine g_pair r5 fun v5 v6 r5 r6 => kk2 _ rfl (fun H4 g4 j4 Q q => q true H4 Gr.refl j4 rfl) fun _ => er_I0 (er_var r5 ?_) (er_var (t := .i ts'.length) (v := .int ts'.length) rfl ?_) fun _ => rfl
            · rfl
            · rfl
        · rintro t2 ⟨ts2, us, rfl, rfl, hp2⟩
          rw [filter_yes] at hp2
          have e3 := paired_map hp2
          rw [e3]
          rfl
        · intro b e
          rw [e]
          simp [rowBad]
      · refine Er.imp (er_var r3 ?_) fun t e => ?_
        · rfl
        · rw [e]
          rfl
    · rintro t v2 H2 g2 j2 ⟨ts', us, rfl, rfl, hp2⟩ r2
      have e3 := paired_wrongs (n := ts'.length) hrt hp2
      subst e3
      obtain ⟨a, xs, rfl, na, ha, ra⟩ := r2
      rw [ra.ints'] at ha
      refine k H2 a (base_same (g1.trans g2) j2 rfl) ?_
      rw [ha, htl]
      rfl
def sp_TR_made (K : PySem.W.Frag) : Sp := fun vs H Q _ => ∃ p r first rows, vs = [.ref p] ∧ TRAt K p r H first rows ∧ rows.length ≤ 1000 ∧ ∀ v H', Same H H' → Q v H'
theorem sc_TableReader_made : FnScope ["self", "line", "ways"] ["self"] (defScope s_TableReader_made) := ⟨rfl, rfl, rfl, by decide +kernel, rfl, by decide +kernel, by decide +kernel⟩
theorem ok_TableReader_made (T : Tx K mg) : HasM P w K mg base CX0 1 (CT K) "made" ["self"] (sp_TR_made K) := by
  obtain ⟨fd, F, g⟩ := T.m_TableReader_made
  refine ⟨_, fd, g, F.bindsN (ps := ["self"]) (fun _ _ _ _ _ _ us hl => match us, hl with | [_], _ => rfl), ?_⟩
  refine F.ok sc_TableReader_made (fun vs H Q E h => ?_) (fun cdv A outer s H vs Q E hr h => ?_)
  · obtain ⟨p, r, first, rows, rfl, _⟩ := h
    rfl
  · obtain ⟨p, r, first, rows, rfl, ⟨dx, v, ys, hp, hrr, hys, hfst⟩, hrl, k⟩ := h
    refine ⟨_, (pss_one (ps_ret (pe_tup (pa_cons (pe_fldK (K := K) (pv 0)) (pa_cons (pe_lc (own := [("line", 1), ("ways", 2)]) (g := gTup K 2 (gCons (gName 1) (gCons (gName 2) gNil))) (tt := tYes) rfl sc_TableReader_made.nd (pi_listK (K := K) (pe_fldK (K := K) (pv 0))) (blkOk_by (N := ["self", "line", "ways"]) (sc := defScope s_TableReader_made) (by decide +kernel)) (fun _ _ _ _ _ => pg_tup rfl (pgs_cons (pg_name (i := 1) sc_TableReader_made.nd rfl (Or.inl rfl)) (pgs_cons (pg_name (i := 2) sc_TableReader_made.nd rfl (Or.inl rfl)) pgs_nil))) (fun _ _ _ _ _ => pts_nil) (fun _ _ _ _ _ => (pv 2))) pa_nil))))), ?_⟩
    obtain ⟨ts, hts, hrt⟩ := rows_rep (K := K) (H0 := H) hys
    have htl : ts.length = rows.length := (Paired.length hrt).symm
    have rr : Rep (Ez.base K H) H (.l ts) (.ref r) := ⟨r, ys, rfl, id, hrr, hts⟩
    obtain ⟨tv, rv⟩ : ∃ tv, Rep (Ez.base K H) H tv v := by
      cases first with
      | none => exact ⟨.n, hfst⟩
      | some n =>
        obtain ⟨ft, _, e, _⟩ := hfst
        exact ⟨.r ft, e⟩
    refine z_ret (er_tup (ea_2 (er_fld hp id T.cl_TableReader T.na_TableReader_own_first (tf_first _ _) rv ?_) (er_lcF (R := fun t u => True) (f := fun _ => true) (ei_listc (er_fld hp id T.cl_TableReader T.na_TableReader_own_rows (tf_rows _ _) rr ?_)) (fun as e => by rw [show as = ts from e, htl]; exact Nat.le_trans hrl (by decide)) ?_)) ?_) base_j ?_
    · rfl
    · rfl
    · intro ts' D o t x H2 Kt e ht hD g2 j2 r2 kk
      subst e
      obtain ⟨row, _, c0, c1, e⟩ := paired_mem hrt ht
      subst e
      refine g_pair r2 fun v3 v4 r3 r4 => kk _ rfl (fun H4 g4 j4 Q q => q true H4 Gr.refl j4 rfl) fun _ => Er.imp (er_var r4 ?_) fun _ _ => trivial
      rfl
    · rintro ts' ⟨t, u, rfl, _⟩
      exact (show 2 ≤ sizeLine by decide)
    · intro t v2 H2 g2 j2 _ _
      exact k v2 H2 (base_same g2 j2 rfl)
end
end Fy
/-! Tm -/
/-! how a term's form is read, in plain lists of signs -/
namespace Fy
open PySem
abbrev mk (l : List Nat) : Str := ⟨l.toArray⟩
def isLet (c : Nat) : Bool := decide (97 ≤ c ∧ c ≤ 122)
def partsL : List (Str × Nat) := [("not", 1), ("late", 1), ("twice", 1), ("half", 1), ("change", 1), ("count", 1), ("by", 2), ("keep", 2), ("then", 2)]
def chop (c : Nat) : List Nat → Option (List Nat)
  | [] => none
  | d :: r => if d = c then some r else none
def signsM (m : Nat) (l : List Nat) : Option (List Nat) := if m ≤ l.length ∧ (l.take m).all isSign = true then chop 44 (l.drop m) else none
def headM (w : Str) (l : List Nat) : Option (List Nat) := if w = "late" then signsM 1 l else if w = "by" then signsM 4 l else some l
def loopM (g : Nat → List Nat → Option (List Nat × Nat)) : Nat → Bool → List Nat → Nat → Option (List Nat × Nat)
  | 0, _, l, left => some (l, left)
  | k + 1, first, l, left => (if first then some l else chop 44 l).bind fun l' => (g left l').bind fun s => loopM g k false s.1 s.2
def nodeM : Nat → Nat → List Nat → Option (List Nat × Nat)
  | 0, _, _ => none
  | f + 1, left, l => match left with
    | 0 => none
    | left + 1 => if mk (l.takeWhile isLet) = "in" then some (l.dropWhile isLet, left) else
        (partsL.lookup (mk (l.takeWhile isLet))).bind fun k => (chop 40 (l.dropWhile isLet)).bind fun l2 => (headM (mk (l.takeWhile isLet)) l2).bind fun l3 => (loopM (nodeM f) k true l3 left).bind fun s => (chop 41 s.1).map fun r => (r, s.2)
/-- the reader's one step: the words of a row -/
def takeR (zs : List Str) (term : Bool) : Option Bool := if term = true ∨ zs.length ≠ 1 then none else match nodeM 10 9 (zs.getD 0 "").cps.toList with
  | some ([], _) => some true
  | _ => none
theorem chop_len {c : Nat} {l r : List Nat} (h : chop c l = some r) : r.length ≤ l.length := by
  cases l with
  | nil => cases h
  | cons d r' =>
    have h : (if d = c then some r' else none) = some r := h
    by_cases e : d = c
    · rw [if_pos e] at h
      cases h
      simp
    · rw [if_neg e] at h
      cases h
theorem signsM_len {m : Nat} {l r : List Nat} (h : signsM m l = some r) : r.length ≤ l.length := by
  unfold signsM at h
  split at h
  · have := chop_len h
    rw [List.length_drop] at this
    omega
  · cases h
theorem headM_len {w : Str} {l r : List Nat} (h : headM w l = some r) : r.length ≤ l.length := by
  unfold headM at h
  split at h
  · exact signsM_len h
  · split at h
    · exact signsM_len h
    · cases h
      exact Nat.le_refl _
theorem loopM_len {g : Nat → List Nat → Option (List Nat × Nat)} (hg : ∀ left l s, g left l = some s → s.1.length ≤ l.length ∧ s.2 ≤ left) : ∀ (k : Nat) (b : Bool) (l : List Nat) (left : Nat) (s : List Nat × Nat), loopM g k b l left = some s → s.1.length ≤ l.length ∧ s.2 ≤ left
  | 0, _, l, left, s, h => by
    cases h
    exact ⟨Nat.le_refl _, Nat.le_refl _⟩
  | k + 1, b, l, left, s, h => by
    obtain ⟨l', h1, h⟩ := Option.bind_eq_some_iff.mp h
    obtain ⟨s', h2, h⟩ := Option.bind_eq_some_iff.mp h
    have e1 : l'.length ≤ l.length := by
      cases b with
      | true => cases h1; exact Nat.le_refl _
      | false => exact chop_len h1
    have e2 := hg _ _ _ h2
    have e3 := loopM_len hg k false _ _ s h
    omega
theorem nodeM_len : ∀ (f left : Nat) (l : List Nat) (s : List Nat × Nat), nodeM f left l = some s → s.1.length ≤ l.length ∧ s.2 ≤ left
  | 0, _, _, _, h => by cases h
  | f + 1, 0, _, _, h => by cases h
  | f + 1, left + 1, l, s, h => by
    have hd : (l.dropWhile isLet).length ≤ l.length := by
      have := congrArg List.length (List.takeWhile_append_dropWhile (p := isLet) (l := l))
      rw [List.length_append] at this
      omega
    have h : (if mk (l.takeWhile isLet) = "in" then some (l.dropWhile isLet, left) else (partsL.lookup (mk (l.takeWhile isLet))).bind fun k => (chop 40 (l.dropWhile isLet)).bind fun l2 => (headM (mk (l.takeWhile isLet)) l2).bind fun l3 => (loopM (nodeM f) k true l3 left).bind fun s => (chop 41 s.1).map fun r => (r, s.2)) = some s := h
    split at h
    · cases h
      exact ⟨hd, Nat.le_succ _⟩
    · obtain ⟨k, _, h⟩ := Option.bind_eq_some_iff.mp h
      obtain ⟨l2, h2, h⟩ := Option.bind_eq_some_iff.mp h
      obtain ⟨l3, h3, h⟩ := Option.bind_eq_some_iff.mp h
      obtain ⟨s2, h4, h⟩ := Option.bind_eq_some_iff.mp h
      obtain ⟨r, h5, h⟩ := Option.map_eq_some_iff.mp h
      subst h
      have a2 := chop_len h2
      have a3 := headM_len h3
      have a4 := loopM_len (nodeM_len f) k true l3 left s2 h4
      have a5 := chop_len h5
      dsimp only
      omega
theorem nodeM_step (f left : Nat) (l : List Nat) : nodeM (f + 1) (left + 1) l = if mk (l.takeWhile isLet) = "in" then some (l.dropWhile isLet, left) else (partsL.lookup (mk (l.takeWhile isLet))).bind fun k => (chop 40 (l.dropWhile isLet)).bind fun l2 => (headM (mk (l.takeWhile isLet)) l2).bind fun l3 => (loopM (nodeM f) k true l3 left).bind fun s => (chop 41 s.1).map fun r => (r, s.2) := rfl
end Fy
/-! RR -/
namespace Fy
open PySem PySem.Spec PyProof.Rows L2
abbrev CR (K : PySem.W.Frag) : Addr := He.ga K "TermReader"
def rf (v : V) (l : List Nat) (n : Int) : List (Str × V) := [("own_term", v), ("own_line", .str (mk l)), ("own_left", .int n)]
theorem fe1 : (("own_line" : Str) == "own_term") = false := by decide +kernel
theorem fe2 : (("own_left" : Str) == "own_term") = false := by decide +kernel
theorem fe3 : (("own_left" : Str) == "own_line") = false := by decide +kernel
theorem fm1 : ¬ (("own_term" : Str) = "own_line") := by decide +kernel
theorem fm2 : ¬ (("own_term" : Str) = "own_left") := by decide +kernel
theorem fm3 : ¬ (("own_line" : Str) = "own_left") := by decide +kernel
theorem rf_term (v : V) (l : List Nat) (n : Int) : (rf v l n).lookup ("own_term" : Str) = some v := by simp [rf, List.lookup]
theorem rf_line (v : V) (l : List Nat) (n : Int) : (rf v l n).lookup ("own_line" : Str) = some (.str (mk l)) := by simp [rf, List.lookup, fe1]
theorem rf_left (v : V) (l : List Nat) (n : Int) : (rf v l n).lookup ("own_left" : Str) = some (.int n) := by simp [rf, List.lookup, fe2, fe3]
theorem pf_eq {f : Str} {v w : V} {r : List (Str × V)} : putF f v ((f, w) :: r) = (f, v) :: r := by
  show (if f = f then _ else _) = _
  rw [if_pos rfl]
theorem pf_ne {f g : Str} {v w : V} {r : List (Str × V)} (h : ¬ g = f) : putF f v ((g, w) :: r) = (g, w) :: putF f v r := by
  show (if g = f then _ else _) = _
  rw [if_neg h]
theorem pf_nil {f : Str} {v : V} : putF f v [] = [(f, v)] := rfl
theorem rf_none {x : Str} (h1 : (x == "own_term") = false) (h2 : (x == "own_line") = false) (h3 : (x == "own_left") = false) (v : V) (l : List Nat) (n : Int) : (rf v l n).lookup x = none := by simp [rf, List.lookup, h1, h2, h3]
theorem rf_pass (v : V) (l : List Nat) (n : Int) : (rf v l n).lookup ("pass_over" : Str) = none := rf_none (by decide +kernel) (by decide +kernel) (by decide +kernel) v l n
theorem rf_word (v : V) (l : List Nat) (n : Int) : (rf v l n).lookup ("word" : Str) = none := rf_none (by decide +kernel) (by decide +kernel) (by decide +kernel) v l n
theorem rf_signs (v : V) (l : List Nat) (n : Int) : (rf v l n).lookup ("signs" : Str) = none := rf_none (by decide +kernel) (by decide +kernel) (by decide +kernel) v l n
theorem rf_node (v : V) (l : List Nat) (n : Int) : (rf v l n).lookup ("node" : Str) = none := rf_none (by decide +kernel) (by decide +kernel) (by decide +kernel) v l n
theorem rf_pterm (v v' : V) (l : List Nat) (n : Int) : putF "own_term" v' (rf v l n) = rf v' l n := pf_eq
theorem rf_pline (v : V) (l l' : List Nat) (n : Int) : putF "own_line" (.str (mk l')) (rf v l n) = rf v l' n := by
  unfold rf
  rw [pf_ne fm1, pf_eq]
theorem rf_pleft (v : V) (l : List Nat) (n n' : Int) : putF "own_left" (.int n') (rf v l n) = rf v l n' := by
  unfold rf
  rw [pf_ne fm2, pf_ne fm3, pf_eq]
theorem rf_new (v : V) (l : List Nat) (n : Int) : putF "own_left" (.int n) (putF "own_line" (.str (mk l)) (putF "own_term" v [])) = rf v l n := by
  rw [pf_nil, pf_ne fm1, pf_nil, pf_ne fm2, pf_ne fm3, pf_nil]
  rfl
/-- all but p stays -/
def Keep1 (p : Addr) (H H' : Hp) : Prop := ∀ b o, H b = some o → b ≠ p → H' b = some o
theorem Keep1.refl {p : Addr} {H : Hp} : Keep1 p H H := fun _ _ h _ => h
theorem Keep1.trans {p : Addr} {H H1 H2 : Hp} (a : Keep1 p H H1) (b : Keep1 p H1 H2) : Keep1 p H H2 := fun c o e h => b c o (a c o e h) h
theorem Keep1.set {p : Addr} {o : HO} {H : Hp} : Keep1 p H (upd H p o) := fun b u e n => by rw [upd_ne n]; exact e
theorem Keep1.new {p q : Addr} {o : HO} {H : Hp} (h : H q = none) : Keep1 p H (upd H q o) := fun b u e _ => by rw [upd_ne (ne_of_none e h)]; exact e
theorem Keep1.put {p q : Addr} {o : HO} {H H1 : Hp} (h : H q = none) (k : Keep1 p H H1) : Keep1 p H (upd H1 q o) := fun b u e n => by rw [upd_ne (ne_of_none e h)]; exact k b u e n
/-- a reader of a term -/
def RdAt (K : PySem.W.Frag) (p : Addr) (H : Hp) (v : V) (l : List Nat) (n : Int) : Prop := ∃ dx, H p = some (.ins (CR K) dx (rf v l n))
theorem cutS_from (l : List Nat) (k : Nat) : cutS (mk l) (some (k : Int)) none = mk (l.drop k) := by
  unfold cutS
  rw [HT.sIx_nat, HT.sIx_none]
  show mk _ = _
  have e : (mk l).length = l.length := by simp [Str.length]
  rw [e]
  by_cases h : k ≤ l.length
  · rw [Nat.min_eq_left h, List.take_of_length_le (by simp)]
  · rw [Nat.min_eq_right (by omega), List.drop_eq_nil_of_le (by simp), List.drop_eq_nil_of_le (by omega), List.take_nil]
theorem cutS_to (l : List Nat) (k : Nat) : cutS (mk l) none (some (k : Int)) = mk (l.take k) := by
  unfold cutS
  rw [HT.sIx_nat, HT.sIx_none]
  show mk _ = _
  have e : (mk l).length = l.length := by simp [Str.length]
  rw [e, List.drop_zero, Nat.sub_zero]
  by_cases h : k ≤ l.length
  · rw [Nat.min_eq_left h]
  · rw [Nat.min_eq_right (by omega), List.take_of_length_le (by simp), List.take_of_length_le (by omega)]
theorem mk_len (l : List Nat) : (mk l).length = l.length := by simp [Str.length]
theorem mk_inj {a b : List Nat} : mk a = mk b ↔ a = b := by simp
theorem starts_mk (l t : List Nat) : Txt.startswith (mk l) (mk t) = decide (t <+: l) := by
  unfold Txt.startswith
  rw [PySem.StrLaws.subAt_eq, mk_len, mk_len, List.drop_zero]
  show (decide (0 + t.length ≤ l.length) && (l.take t.length == t)) = _
  rw [Bool.eq_iff_iff]
  simp only [Bool.and_eq_true, decide_eq_true_eq, beq_iff_eq]
  rw [List.prefix_iff_eq_take]
  constructor
  · rintro ⟨_, h⟩
    exact h.symm
  · intro h
    have := congrArg List.length h
    rw [List.length_take] at this
    exact ⟨by omega, h.symm⟩
theorem pre1 (c : Nat) (l : List Nat) : decide ([c] <+: l) = (chop c l).isSome := by
  cases l with
  | nil => simp [chop]
  | cons d r =>
    by_cases h : d = c
    · subst h
      simp [chop]
    · have h2 : ¬ c = d := fun e => h e.symm
      simp [chop, h, h2]
theorem drop1 {c : Nat} {l r : List Nat} (h : chop c l = some r) : l.drop 1 = r := by
  cases l with
  | nil => cases h
  | cons d r' =>
    have h : (if d = c then some r' else none) = some r := h
    by_cases e : d = c
    · rw [if_pos e] at h
      exact Option.some.inj h
    · rw [if_neg e] at h
      cases h
section
variable {P : Program} {w : World} {K : PySem.W.Frag} {mg : Str → Option Value} {base : Heap}
def sp_RR_init (K : PySem.W.Frag) : Sp := fun vs H Q _ => ∃ p dx, vs = [.ref p] ∧ H p = some (.ins (CR K) dx []) ∧ ∀ H', Keep1 p H H' → RdAt K p H' .non [] 9 → Q .non H'
theorem sc_TermReader___init__ : FnScope ["self"] ["self"] (defScope s_TermReader___init__) := ⟨rfl, rfl, rfl, by decide +kernel, rfl, by decide +kernel, by decide +kernel⟩
theorem ok_TermReader___init__ (T : Tx K mg) : HasM P w K mg base CX0 1 (CR K) "__init__" ["self"] (sp_RR_init K) := by
  obtain ⟨fd, F, g⟩ := T.m_TermReader___init__
  refine ⟨_, fd, g, F.bindsN (ps := ["self"]) (fun _ _ _ _ _ _ us hl => match us, hl with | [_], _ => rfl), ?_⟩
  refine F.ok sc_TermReader___init__ (fun vs H Q E h => ?_) (fun cdv A outer s H vs Q E hr h => ?_)
  · obtain ⟨p, dx, rfl, _⟩ := h
    rfl
  · obtain ⟨p, dx, rfl, hp, k⟩ := h
    refine ⟨_, (pss_cons (ps_fld (pv 0) pe_non rfl)
      (pss_cons (ps_fld (pv 0) pe_str rfl)
      (pss_one (ps_fld (pv 0) (pe_gi T.c_MOST_NODES_readers) rfl)))), ?_⟩
    refine ⟨_, rfl, p, _, _, _, rfl, hp, T.cl_TermReader, T.na_TermReader_own_term, by decide, ?_⟩
    refine ⟨_, rfl, p, _, _, _, rfl, upd_same, T.cl_TermReader, T.na_TermReader_own_line, (by decide : 1 < 1000), ?_⟩
    refine ⟨_, rfl, p, _, _, _, rfl, upd_same, T.cl_TermReader, T.na_TermReader_own_left, (by decide : 2 < 1000), ?_⟩
    exact k _ (Keep1.set.trans (Keep1.set.trans Keep1.set)) ⟨dx, by rw [upd_same]; exact congrArg some (congrArg (HO.ins _ dx) (rf_new .non [] 9))⟩
def sp_RR_pass (K : PySem.W.Frag) : Sp := fun vs H Q _ => ∃ p t v l n, vs = [.ref p, .str (mk t)] ∧ RdAt K p H v l n ∧ l.length ≤ 100000 ∧ t.length ≤ 100 ∧
  (t <+: l → ∀ H', Keep1 p H H' → RdAt K p H' v (l.drop t.length) n → Q (.bl true) H') ∧ (¬ t <+: l → Q (.bl false) H)
theorem sc_TermReader_pass_over : FnScope ["self", "text"] ["self", "text"] (defScope s_TermReader_pass_over) := ⟨rfl, rfl, rfl, by decide +kernel, rfl, by decide +kernel, by decide +kernel⟩
theorem ok_TermReader_pass_over (T : Tx K mg) : HasM P w K mg base CX0 1 (CR K) "pass_over" ["self", "text"] (sp_RR_pass K) := by
  obtain ⟨fd, F, g⟩ := T.m_TermReader_pass_over
  refine ⟨_, fd, g, F.bindsN (ps := ["self", "text"]) (fun _ _ _ _ _ _ us hl => match us, hl with | [_, _], _ => rfl), ?_⟩
  refine F.ok sc_TermReader_pass_over (fun vs H Q E h => ?_) (fun cdv A outer s H vs Q E hr h => ?_)
  · obtain ⟨p, t, v, l, n, rfl, _⟩ := h
    rfl
  · obtain ⟨p, t, v, l, n, rfl, ⟨dx, hp⟩, hl, ht, kT, kF⟩ := h
    refine ⟨_, (pss_cons (ps_if (pt_not (pt_val (pe_m1 PySem.F.slot_str_startswith PySem.F.type_str_startswith mt_startswith (pe_fldK (K := K) (pv 0)) (pv 1)))) (pss_one (ps_ret pe_bl)) pss_nil)
      (pss_cons (ps_fld (pv 0) (pe_slice sl_str (pe_fldK (K := K) (pv 0)) (po_some (pe_callB call_len_str (by rfl) T.n_len boot_len (pa_cons (pv 1) pa_nil))) po_none) rfl)
      (pss_one (ps_ret pe_bl)))), ?_⟩
    refine ⟨_, rfl, p, _, _, _, _, rfl, hp, T.cl_TermReader, T.na_TermReader_own_line, rf_line _ _ _, ⟨_, rfl⟩, _, rfl, mk l, mk t, rfl, rfl, _, rfl, ?_⟩
    rw [starts_mk]
    by_cases hs : t <+: l
    · rw [decide_eq_true hs]
      refine iteF ?_
      refine ⟨_, rfl, p, _, _, _, _, rfl, hp, T.cl_TermReader, T.na_TermReader_own_line, rf_line _ _ _, _, rfl, mk t, rfl, by rw [mk_len]; exact Nat.le_trans ht (by decide), _, rfl, mk l, rfl, by rw [mk_len]; exact Nat.le_trans hl (by decide), ?_⟩
      refine ⟨_, rfl, p, _, _, _, rfl, hp, T.cl_TermReader, T.na_TermReader_own_line, by simp [rf], ?_⟩
      rw [mk_len, cutS_from, rf_pline]
      exact kT hs _ Keep1.set ⟨dx, upd_same⟩
    · rw [decide_eq_false hs]
      refine iteT ?_
      exact kF hs
theorem takeWhile_step {l : List Nat} {c : Nat} {r : List Nat} (e : l = c :: r) (h : isLet c = true) : l.takeWhile isLet = c :: r.takeWhile isLet ∧ l.dropWhile isLet = r.dropWhile isLet := by
  subst e
  simp [h]
theorem letters : (("abcdefghijklmnopqrstuvwxyz" : Str)).cps.toList = (List.range 26).map (· + 97) := by decide +kernel
theorem in_letters (c : Nat) : decide (c ∈ (("abcdefghijklmnopqrstuvwxyz" : Str)).cps.toList) = isLet c := by
  rw [letters]
  unfold isLet
  rw [decide_eq_decide]
  simp only [List.mem_map, List.mem_range]
  constructor
  · rintro ⟨a, h, rfl⟩
    omega
  · intro h
    exact ⟨c - 97, by omega, by omega⟩
theorem mk_ne (c : Nat) (r : List Nat) : ¬ mk (c :: r) = "" := fun e => by
  have h := congrArg Str.length e
  rw [mk_len] at h
  have h0 : ("" : Str).length = 0 := by decide +kernel
  rw [h0] at h
  cases h
theorem mk_app (a b : List Nat) : mk a ++ mk b = mk (a ++ b) := TL.ext_tl (by rw [TL.tl_append])
def sp_RR_word (K : PySem.W.Frag) : Sp := fun vs H Q _ => ∃ p v l n, vs = [.ref p] ∧ RdAt K p H v l n ∧ l.length ≤ 100000 ∧ ∀ H', Keep1 p H H' → RdAt K p H' v (l.dropWhile isLet) n → Q (.str (mk (l.takeWhile isLet))) H'
theorem sc_TermReader_word : FnScope ["self", "found"] ["self"] (defScope s_TermReader_word) := ⟨rfl, rfl, rfl, by decide +kernel, rfl, by decide +kernel, by decide +kernel⟩
theorem ok_TermReader_word (T : Tx K mg) : HasM P w K mg base CX0 1 (CR K) "word" ["self"] (sp_RR_word K) := by
  obtain ⟨fd, F, g⟩ := T.m_TermReader_word
  refine ⟨_, fd, g, F.bindsN (ps := ["self"]) (fun _ _ _ _ _ _ us hl => match us, hl with | [_], _ => rfl), ?_⟩
  refine F.ok sc_TermReader_word (fun vs H Q E h => ?_) (fun cdv A outer s H vs Q E hr h => ?_)
  · obtain ⟨p, v, l, n, rfl, _⟩ := h
    rfl
  · obtain ⟨p, v, l, n, rfl, ⟨dx, hp⟩, hl, k⟩ := h
    refine ⟨_, PSs.nox (pss_cons (ps_set (i := 1) sc_TermReader_word.nd rfl (Or.inl rfl) pe_str)
      (pss_cons (ps_while PassesOwn.never ((pw_and (pt_cmpR op_ne (pe_slice sl_str (pe_fldK (K := K) (pv 0)) po_none (po_some pe_int)) pe_str (nomark _)) (pw_and1 (pt_cmpR op_inS (pe_ix ix_str (pe_fldK (K := K) (pv 0)) pe_int (fun _ _ => rfl)) (pe_gs T.c_LETTERS) rfl))).pt) (pss_cons (ps_set (i := 1) sc_TermReader_word.nd rfl (Or.inl rfl) (pe_op op_add_str (pv 1) (pe_ix ix_str (pe_fldK (K := K) (pv 0)) pe_int (fun _ _ => rfl))))
      (pss_one (ps_fld (pv 0) (pe_slice sl_str (pe_fldK (K := K) (pv 0)) (po_some pe_int) po_none) rfl))))
      (pss_one (ps_ret (pv 1))))), ?_⟩
    refine ⟨fun m σ H' => ∃ a b, σ = [some (.ref p), some (.str (mk a))] ∧ H' p = some (.ins (CR K) dx (rf v b n)) ∧ Keep1 p H H' ∧ m = b.length ∧ a.length + b.length = l.length ∧ l.takeWhile isLet = a ++ b.takeWhile isLet ∧ l.dropWhile isLet = b.dropWhile isLet,
      ⟨l.length, [], l, rfl, hp, Keep1.refl, rfl, by simp, rfl, rfl⟩, ?_⟩
    rintro m σ H' ⟨a, b, rfl, hp', kp, rfl, hab, e1, e2⟩
    refine ⟨_, rfl, p, _, _, _, _, rfl, hp', T.cl_TermReader, T.na_TermReader_own_line, rf_line _ _ _, _, rfl, mk b, rfl, by rw [mk_len]; exact Nat.le_trans (by omega : b.length ≤ 100000) (by decide), ?_⟩
    rw [show (1 : Int) = ((1 : Nat) : Int) from rfl, cutS_to]
    refine ⟨rfl, ?_⟩
    cases b with
    | nil =>
      refine ⟨_, rfl, ?_⟩
      show ∃ v, _ ∧ _
      refine ⟨_, rfl, ?_⟩
      rw [List.takeWhile_nil, List.append_nil] at e1
      rw [← e1]
      refine k H' kp ⟨dx, ?_⟩
      rw [e2]
      exact hp'
    | cons c r =>
      have hcl : (mk (c :: r)).length ≤ sizeLine := by
        rw [mk_len]
        exact Nat.le_trans (by omega : (c :: r).length ≤ 100000) (by decide)
      have hne : (!decide (V.str (mk ((c :: r).take 1)) = V.str "")) = true := by simp [mk_ne c []]
      rw [hne]
      refine ⟨true, rfl, ?_⟩
      refine iteT ?_
      refine ⟨_, rfl, p, _, _, _, _, rfl, hp', T.cl_TermReader, T.na_TermReader_own_line, rf_line _ _ _, mk (c :: r), 0, c, rfl, rfl, hcl, at0, c, _, rfl, rfl, _, rfl, ?_⟩
      rw [in_letters]
      cases hc : isLet c with
      | true =>
        refine iteT ?_
        obtain ⟨t1, t2⟩ := takeWhile_step (rfl : c :: r = c :: r) hc
        refine ⟨fun σ' H'' => σ' = [some (.ref p), some (.str (mk (a ++ [c])))] ∧ H'' p = some (.ins (CR K) dx (rf v r n)) ∧ Keep1 p H H'', fun σ' H'' ⟨q1, q2, q3⟩ => ⟨r.length, by simp, a ++ [c], r, q1, q2, q3, rfl, by simp at hab ⊢; omega, by rw [e1, t1]; simp, by rw [e2, t2]⟩, ?_⟩
        refine ⟨_, rfl, _, rfl, p, _, _, _, _, rfl, hp', T.cl_TermReader, T.na_TermReader_own_line, rf_line _ _ _, mk (c :: r), 0, c, rfl, rfl, hcl, at0, _, _, rfl, rfl, ?_, ?_⟩
        · rw [mk_len]
          show a.length + 1 ≤ sizeLine
          simp at hab
          exact Nat.le_trans (by omega : a.length + 1 ≤ 100000) (by decide)
        refine ⟨_, rfl, p, _, _, _, _, rfl, hp', T.cl_TermReader, T.na_TermReader_own_line, rf_line _ _ _, _, rfl, mk (c :: r), rfl, hcl, ?_⟩
        refine ⟨_, rfl, p, _, _, _, rfl, hp', T.cl_TermReader, T.na_TermReader_own_line, by simp [rf], ?_⟩
        rw [cutS_from, rf_pline]
        refine ⟨?_, upd_same, kp.trans Keep1.set⟩
        show [some (V.ref p), some (V.str (mk a ++ mk [c]))] = _
        rw [mk_app]
      | false =>
        refine ⟨_, rfl, ?_⟩
        have f1 : (c :: r).takeWhile isLet = [] := by simp [hc]
        have f2 : (c :: r).dropWhile isLet = c :: r := by simp [hc]
        rw [f1, List.append_nil] at e1
        rw [f2] at e2
        rw [← e1]
        refine k H' kp ⟨dx, ?_⟩
        rw [e2]
        exact hp'
def sp_RR_signs (K : PySem.W.Frag) : Sp := fun vs H Q _ => ∃ (p : Addr) (m : Nat) (v : V) (l : List Nat) (n : Int), vs = [.ref p, .int (m : Int)] ∧ RdAt K p H v l n ∧ l.length ≤ 100000 ∧
  (signsM m l = none → ∀ H' l', Keep1 p H H' → RdAt K p H' v l' n → Q .non H') ∧ (∀ r, signsM m l = some r → ∀ H' a z, Keep1 p H H' → RdAt K p H' v r n → H' a = some (.lst [z]) → Q (.ref a) H')
theorem sc_TermReader_signs : FnScope ["self", "many", "text"] ["self", "many"] (defScope s_TermReader_signs) := ⟨rfl, rfl, rfl, by decide +kernel, rfl, by decide +kernel, by decide +kernel⟩
theorem comma : ("," : Str) = mk [44] := by decide +kernel
theorem opens : ("(" : Str) = mk [40] := by decide +kernel
theorem closes : (")" : Str) = mk [41] := by decide +kernel
theorem chop_pre {c : Nat} {l r : List Nat} (h : chop c l = some r) : [c] <+: l ∧ l.drop [c].length = r := by
  have h1 := pre1 c l
  rw [h] at h1
  exact ⟨of_decide_eq_true h1, drop1 h⟩
theorem chop_npre {c : Nat} {l : List Nat} (h : chop c l = none) : ¬ [c] <+: l := by
  have h1 := pre1 c l
  rw [h] at h1
  exact of_decide_eq_false h1
theorem ok_TermReader_signs (T : Tx K mg) : HasM P w K mg base CX0 2 (CR K) "signs" ["self", "many"] (sp_RR_signs K) := by
  obtain ⟨fd, F, g⟩ := T.m_TermReader_signs
  refine ⟨_, fd, g, F.bindsN (ps := ["self", "many"]) (fun _ _ _ _ _ _ us hl => match us, hl with | [_, _], _ => rfl), ?_⟩
  refine F.ok sc_TermReader_signs (fun vs H Q E h => ?_) (fun cdv A outer s H vs Q E hr h => ?_)
  · obtain ⟨p, m, v, l, n, rfl, _⟩ := h
    rfl
  · obtain ⟨p, m, v, l, n, rfl, ⟨dx, hp⟩, hl, kN, kS⟩ := h
    refine ⟨_, (pss_cons (ps_set (i := 2) sc_TermReader_signs.nd rfl (Or.inl rfl) (pe_slice sl_str (pe_fldK (K := K) (pv 0)) po_none (po_some (pv 1))))
      (pss_cons (ps_if ((pw_or (pt_cmpR op_lt (pe_callB call_len_str (by rfl) T.n_len boot_len (pa_cons (pv 2) pa_nil)) (pv 1) (nomark _)) (pw_or1 (pt_not (pt_val (pe_has (ok_is_text T) (hr.mono (by decide)) pass0 (pa_cons (pv 2) pa_nil)))))).pt) (pss_one (ps_ret pe_non)) pss_nil)
      (pss_cons (ps_fld (pv 0) (pe_slice sl_str (pe_fldK (K := K) (pv 0)) (po_some (pv 1)) po_none) rfl)
      (pss_one (ps_ret (pe_ifExp (pt_val (pe_hasM (pv 0) T.cl_TermReader (ok_TermReader_pass_over T) (hr.mono (by decide)) pass0 (pa_cons pe_str pa_nil))) (pe_lst (pa_cons (pv 2) pa_nil)) pe_non)))))), ?_⟩
    have hlz : (mk l).length ≤ sizeLine := by
      rw [mk_len]
      exact Nat.le_trans hl (by decide)
    have htz : (mk (l.take m)).length ≤ sizeLine := by
      rw [mk_len, List.length_take]
      exact Nat.le_trans (Nat.le_trans (Nat.min_le_right _ _) hl) (by decide)
    refine ⟨_, rfl, p, _, _, _, _, rfl, hp, T.cl_TermReader, T.na_TermReader_own_line, rf_line _ _ _, _, rfl, _, rfl, mk l, rfl, hlz, ?_⟩
    rw [cutS_to]
    refine ⟨_, rfl, mk (l.take m), rfl, htz, _, rfl, _, _, rfl, rfl, _, rfl, ?_⟩
    rw [mk_len, List.length_take]
    by_cases c1 : m ≤ l.length
    case neg =>
      have e1 : decide (((min m l.length : Nat) : Int) < m) = true := by simp; omega
      rw [e1]
      refine iteT ?_
      exact kN (by unfold signsM; rw [if_neg (fun z => c1 z.1)]) H l Keep1.refl ⟨dx, hp⟩
    have e1 : decide (((min m l.length : Nat) : Int) < m) = false := by simp; omega
    rw [e1]
    refine iteF ?_
    refine ⟨_, rfl, mk (l.take m), rfl, htz, fun H1 s1 => ⟨_, rfl, ?_⟩⟩
    have hi : isText (mk (l.take m)) = (l.take m).all isSign := rfl
    rw [hi]
    have k1 : Keep1 p H H1 := fun b o e _ => s1 _ _ e
    cases c2 : (l.take m).all isSign with
    | false =>
      refine iteT ?_
      exact kN (by unfold signsM; rw [if_neg (fun z => by rw [c2] at z; exact absurd z.2 (by decide))]) H1 l k1 ⟨dx, s1 _ _ hp⟩
    | true =>
      refine iteF ?_
      refine ⟨_, rfl, p, _, _, _, _, rfl, s1 _ _ hp, T.cl_TermReader, T.na_TermReader_own_line, rf_line _ _ _, _, rfl, _, rfl, mk l, rfl, hlz, ?_⟩
      refine ⟨_, rfl, p, _, _, _, rfl, s1 _ _ hp, T.cl_TermReader, T.na_TermReader_own_line, by simp [rf], ?_⟩
      rw [cutS_from, rf_pline]
      have es : signsM m l = chop 44 (l.drop m) := by unfold signsM; rw [if_pos ⟨c1, c2⟩]
      have k2 := k1.trans (Keep1.set (p := p) (o := .ins (CR K) dx (rf v (l.drop m) n)) (H := H1))
      refine ⟨_, rfl, p, _, _, rfl, upd_same, rf_pass _ _ _, ?_⟩
      refine ⟨p, [44], v, l.drop m, n, ?_, ⟨dx, upd_same⟩, by rw [List.length_drop]; omega, by decide, fun hpre H3 k3 r3 => ⟨_, rfl, ?_⟩, fun hpre => ⟨_, rfl, ?_⟩⟩
      · show [V.ref p, V.str ","] = _
        rw [comma]
      · refine iteT ?_
        refine ⟨_, rfl, (by decide : 1 ≤ sizeLine), fun a ha => ?_⟩
        cases hc : chop 44 (l.drop m) with
        | none => exact absurd hpre (chop_npre hc)
        | some r =>
          have hd := (chop_pre hc).2
          rw [hd] at r3
          obtain ⟨dx3, h3⟩ := r3
          exact kS r (by rw [es, hc]) _ a _ (fun b o e n => by rw [upd_ne (ne_of_none (k3 _ _ (k2 b o e n) n) ha)]; exact k3 _ _ (k2 b o e n) n) ⟨dx3, by rw [upd_ne (ne_of_none h3 ha)]; exact h3⟩ upd_same
      · refine iteF ?_
        refine kN ?_ _ _ k2 ⟨dx, upd_same⟩
        rw [es]
        cases hc : chop 44 (l.drop m) with
        | none => rfl
        | some r => exact absurd (chop_pre hc).1 hpre
end
end Fy
/-! ND -/
namespace Fy
open PySem PySem.Spec PyProof.Rows L2
/-- the table of the words -/
theorem lookup_mem {α β : Type} [BEq α] {x : α} {b : β} : ∀ {l : List (α × β)}, l.lookup x = some b → ∃ a, (a, b) ∈ l
  | [], h => by cases h
  | (a, c) :: l, h => by
    cases e : x == a with
    | true =>
      rw [List.lookup_cons, e] at h
      cases h
      exact ⟨a, by simp⟩
    | false =>
      rw [List.lookup_cons, e] at h
      obtain ⟨a', h'⟩ := lookup_mem (l := l) h
      exact ⟨a', by simp [h']⟩
theorem parts_le {z : Str} {k : Nat} (h : partsL.lookup z = some k) : 1 ≤ k ∧ k ≤ 2 := by
  obtain ⟨a, ha⟩ := lookup_mem h
  have key : ∀ q ∈ partsL, 1 ≤ q.2 ∧ q.2 ≤ 2 := by decide +kernel
  exact key _ ha
structure PartsAt (w : World) (K : PySem.W.Frag) (mg : Str → Option Value) : Prop where
  kd : ∃ es n, KDict K w (He.ga K "PARTS") es n
  g : mg "PARTS" = some (.ref (He.ga K "PARTS"))
  no : ∀ z : Str, partsL.lookup z = none → PySem.W.nsIn K (He.ga K "PARTS") z = some none
  yes : ∀ (z : Str) (k : Nat), partsL.lookup z = some k → ∃ t, PySem.W.nsIn K (He.ga K "PARTS") z = some (some (.int (k : Int) t))
section
variable {P : Program} {w : World} {K : PySem.W.Frag} {mg : Str → Option Value} {base : Heap}
def spN (K : PySem.W.Frag) : Nat → Sp
  | 0 => fun _ _ _ _ => False
  | f + 1 => fun vs H Q _ => ∃ (p : Addr) (v : V) (l : List Nat) (left : Nat), vs = [.ref p] ∧ RdAt K p H v l (left : Int) ∧ l.length ≤ 1000 ∧ left ≤ f ∧
    (nodeM (f + 1) left l = none → ∀ H' l' n, Keep1 p H H' → RdAt K p H' v l' n → Q .non H') ∧
    (∀ s, nodeM (f + 1) left l = some s → ∀ x H', x ≠ .non → Keep1 p H H' → RdAt K p H' v s.1 (s.2 : Int) → Q x H')
theorem sc_TermReader_node : FnScope ["self", "word", "found", "told", "at", "part"] ["self"] (defScope s_TermReader_node) := ⟨rfl, rfl, rfl, by decide +kernel, rfl, by decide +kernel, by decide +kernel⟩
theorem ok_node0 (T : Tx K mg) : HasM P w K mg base CX0 3 (CR K) "node" ["self"] (spN K 0) := by
  obtain ⟨fd, F, g⟩ := T.m_TermReader_node
  exact ⟨_, fd, g, F.bindsN (ps := ["self"]) (fun _ _ _ _ _ _ us hl => match us, hl with | [_], _ => rfl), fun _ _ _ _ h => h.elim, fun _ _ _ _ _ _ _ _ _ _ _ _ _ h => h.elim⟩
theorem ok_nodeS (T : Tx K mg) (PA : PartsAt w K mg) (f : Nat) (ih : HasM P w K mg base CX0 (3 + f) (CR K) "node" ["self"] (spN K f)) : HasM P w K mg base CX0 (3 + f + 1) (CR K) "node" ["self"] (spN K (f + 1)) := by
  obtain ⟨fd, F, g⟩ := T.m_TermReader_node
  obtain ⟨es, en, D⟩ := PA.kd
  have Dg := PA.g
  refine ⟨_, fd, g, F.bindsN (ps := ["self"]) (fun _ _ _ _ _ _ us hl => match us, hl with | [_], _ => rfl), ?_⟩
  refine F.ok sc_TermReader_node (fun vs H Q E h => ?_) (fun cdv A outer s H vs Q E hr h => ?_)
  · obtain ⟨p, v, l, left, rfl, _⟩ := h
    rfl
  · obtain ⟨p, v, l, left, rfl, ⟨dx, hp⟩, hl, hlf, kN, kS⟩ := h
    refine ⟨_, PSs.nox (pss_cons (ps_fldaug (pv 0) pe_int in_sub)
      (pss_cons (ps_set (i := 1) sc_TermReader_node.nd rfl (Or.inl rfl) (pe_hasM0 (pv 0) T.cl_TermReader (ok_TermReader_word T) (hr.mono (by omega)) pass0))
      (pss_cons (ps_if ((pw_or (pt_cmpR op_lt (pe_fldK (K := K) (pv 0)) pe_int (nomark _)) (pw_or1 (pt_cmpR op_eq (pv 1) pe_str (nomark _)))).pt) (pss_one (ps_ret (pe_ifExp (pt_cmpR op_lt (pe_fldK (K := K) (pv 0)) pe_int (nomark _)) pe_non (pv 1)))) pss_nil)
      (pss_cons (ps_if ((pw_or (pt_cmpR (op_notIn_kd D) (pv 1) (pe_glob (v := .ref (He.ga K "PARTS")) (by rfl) Dg rfl) rfl) (pw_or1 (pt_not (pt_val (pe_hasM (pv 0) T.cl_TermReader (ok_TermReader_pass_over T) (hr.mono (by omega)) pass0 (pa_cons pe_str pa_nil)))))).pt) (pss_one (ps_ret pe_non)) pss_nil)
      (pss_cons (ps_set (i := 2) sc_TermReader_node.nd rfl (Or.inl rfl) (pe_lst (pa_cons (pv 1) pa_nil)))
      (Evl.pss_cut (ps_if (pt_cmpR (r := rIn K false) op_in_seq (pv 1) (pe_tup (pa_cons pe_str (pa_cons pe_str pa_nil))) rfl) (pss_cons (ps_set (i := 3) sc_TermReader_node.nd rfl (Or.inl rfl) (pe_hasM (pv 0) T.cl_TermReader (ok_TermReader_signs T) (hr.mono (by omega)) pass0 (pa_cons (pe_ifExp (pt_cmpR op_eq (pv 1) pe_str (nomark _)) pe_int pe_int) pa_nil)))
      (pss_cons (ps_if (pt_cmpR op_isN1 (pv 3) pe_non (nomark _)) (pss_one (ps_ret pe_non)) pss_nil)
      (pss_one (ps_expr (pe_bm PySem.F.plainAttrs_list PySem.F.slot_list_extend PySem.F.type_list_extend mt_extend (pv 2) (pa_cons (pv 3) pa_nil)))))) pss_nil)
      (pss_cons (ps_for PassesOwn.never rfl (pi_range1 rfl T.n_range (pa_cons (pe_ix ix_kdict (pe_glob (v := .ref (He.ga K "PARTS")) (by rfl) Dg rfl) (pv 1) (fun _ _ => rfl)) pa_nil)) (pg_name (i := 4) sc_TermReader_node.nd rfl (Or.inl rfl)) (Evl.pss_cut (ps_set (i := 5) sc_TermReader_node.nd rfl (Or.inl rfl) (pe_ifExp ((pw_or (pt_cmpR op_eq (pv 4) pe_int (nomark _)) (pw_or1 (pt_val (pe_hasM (pv 0) T.cl_TermReader (ok_TermReader_pass_over T) (hr.mono (by omega)) pass0 (pa_cons pe_str pa_nil))))).pt) (pe_hasM0 (pv 0) T.cl_TermReader ih (hr.mono (by omega)) pass0) pe_non))
      (pss_cons (ps_if (pt_cmpR op_isN1 (pv 5) pe_non (nomark _)) (pss_one (ps_ret pe_non)) pss_nil)
      (pss_one (ps_expr (pe_bm PySem.F.plainAttrs_list PySem.F.slot_list_append PySem.F.type_list_append mt_append (pv 2) (pa_cons (pv 5) pa_nil)))))))
      (pss_one (ps_ret (pe_ifExp (pt_val (pe_hasM (pv 0) T.cl_TermReader (ok_TermReader_pass_over T) (hr.mono (by omega)) pass0 (pa_cons pe_str pa_nil))) (pe_callTy (r := rTupOf K) call_tupK (by rfl) T.n_tuple b_tuple (pa_cons (pv 2) pa_nil)) pe_non)))))))))), ?_⟩
    have hlz : ∀ {l' : List Nat}, l'.length ≤ 1000 → l'.length ≤ 100000 := fun h => Nat.le_trans h (by decide)
    refine ⟨_, rfl, p, _, _, _, _, rfl, hp, T.cl_TermReader, T.na_TermReader_own_left, rf_left _ _ _, _, _, rfl, rfl, dx, _, hp, by simp [rf], ?_⟩
    rw [rf_pleft]
    refine ⟨_, rfl, p, dx, _, rfl, upd_same, rf_word _ _ _, p, v, l, _, rfl, ⟨dx, upd_same⟩, hlz hl, fun H1 k1' ⟨dx1, h1⟩ => ?_⟩
    have k1 : Keep1 p H H1 := Keep1.set.trans k1'
    clear k1'
    cases left with
    | zero =>
      refine ⟨_, rfl, p, _, _, _, _, rfl, h1, T.cl_TermReader, T.na_TermReader_own_left, rf_left _ _ _, _, _, rfl, rfl, _, rfl, ?_⟩
      refine iteT ?_
      refine ⟨_, rfl, p, _, _, _, _, rfl, h1, T.cl_TermReader, T.na_TermReader_own_left, rf_left _ _ _, _, _, rfl, rfl, _, rfl, ?_⟩
      refine iteT ?_
      exact kN rfl H1 _ _ k1 ⟨dx1, h1⟩
    | succ left =>
      have el : ((left + 1 : Nat) : Int) - 1 = (left : Int) := by omega
      rw [el] at h1
      have lneg : decide (((left : Nat) : Int) < 0) = false := by simp
      refine ⟨_, rfl, p, _, _, _, _, rfl, h1, T.cl_TermReader, T.na_TermReader_own_left, rf_left _ _ _, _, _, rfl, rfl, _, rfl, ?_⟩
      rw [lneg]
      refine iteF ?_
      refine ⟨_, rfl, rfl, _, rfl, ?_⟩
      have hd : (l.dropWhile isLet).length ≤ 1000 := by
        have := congrArg List.length (List.takeWhile_append_dropWhile (p := isLet) (l := l))
        rw [List.length_append] at this
        omega
      generalize hw : mk (l.takeWhile isLet) = w1
      generalize hl1 : l.dropWhile isLet = l1 at h1 hd
      have est := nodeM_step f left l
      rw [hw, hl1] at est
      rw [est] at kN kS
      clear est
      by_cases cin : w1 = "in"
      case pos =>
        have e1 : decide (V.str w1 = V.str "in") = true := by simp [cin]
        rw [e1]
        refine iteT ?_
        refine ⟨_, rfl, p, _, _, _, _, rfl, h1, T.cl_TermReader, T.na_TermReader_own_left, rf_left _ _ _, _, _, rfl, rfl, _, rfl, ?_⟩
        rw [lneg]
        refine iteF ?_
        refine ⟨_, rfl, ?_⟩
        exact kS (l1, left) (by rw [if_pos cin]) _ H1 (by intro z; cases z) k1 ⟨dx1, h1⟩
      have e1 : decide (V.str w1 = V.str "in") = false := by simp [cin]
      rw [e1]
      refine iteF ?_
      rw [if_neg cin] at kN kS
      cases hk : partsL.lookup w1 with
      | none =>
        refine ⟨_, rfl, w1, none, rfl, rfl, PA.no w1 hk, _, rfl, ?_⟩
        refine iteT ?_
        refine iteT ?_
        exact kN (by rw [hk]; rfl) H1 _ _ k1 ⟨dx1, h1⟩
      | some k =>
        obtain ⟨tk, hns⟩ := PA.yes w1 k hk
        rw [hk] at kN kS
        refine ⟨_, rfl, w1, _, rfl, rfl, hns, _, rfl, ?_⟩
        refine iteF ?_
        refine ⟨_, rfl, p, dx1, _, rfl, h1, rf_pass _ _ _, ?_⟩
        refine ⟨p, [40], v, l1, _, ?_, ⟨dx1, h1⟩, hlz hd, by decide, fun hpre H2 k2' r2 => ⟨_, rfl, ?_⟩, fun hpre => ⟨_, rfl, ?_⟩⟩
        · show [V.ref p, V.str "("] = _
          rw [opens]
        case refine_3 =>
          refine iteT ?_
          refine kN ?_ H1 _ _ k1 ⟨dx1, h1⟩
          cases hc : chop 40 l1 with
          | none => rfl
          | some r => exact absurd (chop_pre hc).1 hpre
        refine iteF ?_
        cases hc : chop 40 l1 with
        | none => exact absurd hpre (chop_npre hc)
        | some l2 =>
          rw [(chop_pre hc).2] at r2
          rw [hc] at kN kS
          obtain ⟨dx2, h2⟩ := r2
          have k2 : Keep1 p H H2 := k1.trans k2'
          have hl2 : l2.length ≤ 1000 := Nat.le_trans (chop_len hc) hd
          refine ⟨_, rfl, (by decide : 1 ≤ sizeLine), fun fa hfa => ?_⟩
          have fH : H fa = none := by
            cases q : H fa with
            | none => rfl
            | some o =>
              by_cases e : fa = p
              · subst e
                rw [h2] at hfa
                cases hfa
              · rw [k2 _ _ q e] at hfa
                cases hfa
          have nfp : p ≠ fa := ne_of_none h2 hfa
          have k3 : Keep1 p H (upd H2 fa (.lst [.str w1])) := k2.put fH
          have f3 : upd H2 fa (.lst [.str w1]) fa = some (.lst [.str w1]) := upd_same
          have p3 : upd H2 fa (.lst [.str w1]) p = some (.ins (CR K) dx2 (rf v l2 left)) := by rw [upd_ne nfp]; exact h2
          generalize upd H2 fa (.lst [.str w1]) = H3 at k3 f3 p3
          refine ⟨fun σ Hs => ∃ l3 xs o3 dxs, headM w1 l2 = some l3 ∧ σ = [some (.ref p), some (.str w1), some (.ref fa), o3, none, none] ∧ Hs p = some (.ins (CR K) dxs (rf v l3 left)) ∧ Hs fa = some (.lst xs) ∧ xs.length ≤ 5 ∧ Keep1 p H Hs, ?_, ?_⟩
          · refine ⟨_, rfl, (by decide : 2 ≤ sizeLine), fun q hq => ⟨q, _, rfl, .inr (SqT.of upd_same), rfl, rfl, _, rfl, ?_⟩⟩
            have k4 : Keep1 p H (upd H3 q (.tup [.str "late", .str "by"])) := k3.trans (Keep1.new hq)
            have f4 : upd H3 q (.tup [.str "late", .str "by"]) fa = some (.lst [.str w1]) := by rw [upd_ne (ne_of_none f3 hq)]; exact f3
            have p4 : upd H3 q (.tup [.str "late", .str "by"]) p = some (.ins (CR K) dx2 (rf v l2 left)) := by rw [upd_ne (ne_of_none p3 hq)]; exact p3
            generalize upd H3 q (.tup [.str "late", .str "by"]) = H4 at k4 f4 p4
            by_cases cl : w1 = "late"
            · have hm : headM w1 l2 = signsM 1 l2 := by unfold headM; rw [if_pos cl]
              have e2 : inV (V.str w1) [V.str "late", V.str "by"] = true := by rw [cl]; decide +kernel
              show if (inV (V.str w1) [V.str "late", V.str "by"]) = true then _ else _
              rw [e2]
              refine iteT ?_
              refine ⟨_, rfl, p, dx2, _, rfl, p4, rf_signs _ _ _, _, rfl, rfl, _, rfl, ?_⟩
              have e3 : decide (V.str w1 = V.str "late") = true := by simp [cl]
              rw [e3]
              refine iteT ?_
              refine ⟨p, 1, v, l2, _, rfl, ⟨dx2, p4⟩, hlz hl2, fun hs H5 l5 k5 ⟨dx5, h5⟩ => ?_, fun r hs H5 a5 z5 k5 ⟨dx5, h5⟩ ha5 => ?_⟩
              · refine ⟨_, rfl, rfl, _, rfl, ?_⟩
                refine iteT ?_
                refine kN ?_ H5 _ _ (k4.trans k5) ⟨dx5, h5⟩
                show (headM w1 l2).bind _ = none
                rw [hm, hs]
                rfl
              · refine ⟨_, rfl, rfl, _, rfl, ?_⟩
                refine iteF ?_
                have f5 := k5 _ _ f4 nfp.symm
                refine ⟨_, rfl, Or.inl ⟨rfl, _, SqL.of f5⟩, _, rfl, fa, a5, _, _, rfl, rfl, f5, ha5, (by decide : 2 ≤ sizeLine), ?_⟩
                exact ⟨r, _, _, dx5, by rw [hm, hs], rfl, by rw [upd_ne nfp]; exact h5, upd_same, (by decide : 2 ≤ 5), (k4.trans k5).put fH⟩
            · by_cases cb : w1 = "by"
              · have hm : headM w1 l2 = signsM 4 l2 := by unfold headM; rw [if_neg cl, if_pos cb]
                have e2 : inV (V.str w1) [V.str "late", V.str "by"] = true := by rw [cb]; decide +kernel
                show if (inV (V.str w1) [V.str "late", V.str "by"]) = true then _ else _
                rw [e2]
                refine iteT ?_
                refine ⟨_, rfl, p, dx2, _, rfl, p4, rf_signs _ _ _, _, rfl, rfl, _, rfl, ?_⟩
                have e3 : decide (V.str w1 = V.str "late") = false := by simp [cl]
                rw [e3]
                refine iteF ?_
                refine ⟨p, 4, v, l2, _, rfl, ⟨dx2, p4⟩, hlz hl2, fun hs H5 l5 k5 ⟨dx5, h5⟩ => ?_, fun r hs H5 a5 z5 k5 ⟨dx5, h5⟩ ha5 => ?_⟩
                · refine ⟨_, rfl, rfl, _, rfl, ?_⟩
                  refine iteT ?_
                  refine kN ?_ H5 _ _ (k4.trans k5) ⟨dx5, h5⟩
                  show (headM w1 l2).bind _ = none
                  rw [hm, hs]
                  rfl
                · refine ⟨_, rfl, rfl, _, rfl, ?_⟩
                  refine iteF ?_
                  have f5 := k5 _ _ f4 nfp.symm
                  refine ⟨_, rfl, Or.inl ⟨rfl, _, SqL.of f5⟩, _, rfl, fa, a5, _, _, rfl, rfl, f5, ha5, (by decide : 2 ≤ sizeLine), ?_⟩
                  exact ⟨r, _, _, dx5, by rw [hm, hs], rfl, by rw [upd_ne nfp]; exact h5, upd_same, (by decide : 2 ≤ 5), (k4.trans k5).put fH⟩
              · have hm : headM w1 l2 = some l2 := by unfold headM; rw [if_neg cl, if_neg cb]
                have e2 : inV (V.str w1) [V.str "late", V.str "by"] = false := by
                  show (("late" == w1) || (("by" == w1) || false)) = false
                  rw [beq_eq_false_iff_ne.mpr (Ne.symm cl), beq_eq_false_iff_ne.mpr (Ne.symm cb)]
                  rfl
                show if (inV (V.str w1) [V.str "late", V.str "by"]) = true then _ else _
                rw [e2]
                refine iteF ?_
                exact ⟨l2, _, none, dx2, hm, rfl, p4, f4, (by decide : 1 ≤ 5), k4⟩
          · rintro σ Hs ⟨l3, xs, o3, dxs, hm, rfl, ps, fs, hxs, ks⟩
            have kb : 1 ≤ k ∧ k ≤ 2 := parts_le hk
            have hl3 : l3.length ≤ 1000 := Nat.le_trans (headM_len hm) hl2
            rw [Option.bind_some, Option.bind_some, hm, Option.bind_some] at kN kS
            obtain ⟨f', rfl⟩ : ∃ f', f = f' + 1 := ⟨f - 1, by omega⟩
            refine ⟨_, rfl, _, w1, .int k, rfl, rfl, ⟨es, en, _, D.at_, D.lit, hns, ⟨tk, rfl⟩⟩, k, rfl, by omega, by omega, ?_⟩
            refine ⟨fun i m σ H' => m = k - i ∧ i ≤ k ∧ ∃ lc leftc xs o3 o4 o5 dxc, σ = [some (.ref p), some (.str w1), some (.ref fa), o3, o4, o5] ∧ H' p = some (.ins (CR K) dxc (rf v lc ((leftc : Nat) : Int))) ∧ H' fa = some (.lst xs) ∧ xs.length ≤ 5 + i ∧ Keep1 p H H' ∧ lc.length ≤ 1000 ∧ leftc ≤ left ∧
                loopM (nodeM (f' + 1)) k true l3 left = loopM (nodeM (f' + 1)) (k - i) (decide (i = 0)) lc leftc,
              ⟨k, by omega, by omega, l3, left, xs, o3, none, none, dxs, rfl, ps, fs, by omega, ks, hl3, Nat.le_refl _, rfl⟩, ?_⟩
            rintro i m σ H' ⟨rfl, hik, lc, leftc, xs, o3, o4, o5, dxc, rfl, hpc, hfc, hxc, kc, hlc, hleft, heq⟩
            by_cases hlt : i < k
            · refine .inr ⟨by show i < (k : Int).toNat; omega, fun σ' H'' => i + 1 ≤ k ∧ ∃ lc leftc xs o3 o4 o5 dxc, σ' = [some (.ref p), some (.str w1), some (.ref fa), o3, o4, o5] ∧ H'' p = some (.ins (CR K) dxc (rf v lc ((leftc : Nat) : Int))) ∧ H'' fa = some (.lst xs) ∧ xs.length ≤ 5 + (i + 1) ∧ Keep1 p H H'' ∧ lc.length ≤ 1000 ∧ leftc ≤ left ∧
                  loopM (nodeM (f' + 1)) k true l3 left = loopM (nodeM (f' + 1)) (k - (i + 1)) (decide (i + 1 = 0)) lc leftc, fun σ' H'' h' => ⟨k - (i + 1), by omega, rfl, h'⟩, ?_⟩
              rintro x H'' ⟨rfl, rfl⟩
              have ek : k - i = (k - (i + 1)) + 1 := by omega
              rw [ek] at heq
              refine ⟨fun σ'' H6 => ∃ x l' n' dx', σ'' = [some (.ref p), some (.str w1), some (.ref fa), o3, some (.int (0 + (i : Nat))), some x] ∧ H6 p = some (.ins (CR K) dx' (rf v l' n')) ∧ Keep1 p H'' H6 ∧ ((x = .non ∧ loopM (nodeM (f' + 1)) k true l3 left = none) ∨
                  (x ≠ .non ∧ ∃ left' : Nat, n' = (left' : Int) ∧ l'.length ≤ 1000 ∧ left' ≤ left ∧ loopM (nodeM (f' + 1)) k true l3 left = loopM (nodeM (f' + 1)) (k - (i + 1)) false l' left')), ?_, ?_⟩
              · refine ⟨_, rfl, rfl, _, rfl, ?_⟩
                by_cases hi0 : i = 0
                · subst hi0
                  refine iteT ?_
                  refine ⟨_, rfl, p, dxc, _, rfl, hpc, rf_node _ _ _, p, v, lc, leftc, rfl, ⟨dxc, hpc⟩, hlc, by omega, fun hn H6 l6 n6 k6 ⟨dx6, h6⟩ => ?_, fun s hs x H6 hx k6 ⟨dx6, h6⟩ => ?_⟩
                  · exact ⟨_, l6, n6, dx6, rfl, h6, k6, .inl ⟨rfl, by rw [heq]; show ((some lc).bind _) = none; rw [Option.bind_some, hn]; rfl⟩⟩
                  · have e9 := nodeM_len _ _ _ _ hs
                    exact ⟨_, _, _, dx6, rfl, h6, k6, .inr ⟨hx, s.2, rfl, by omega, by omega, by rw [heq]; show ((some lc).bind _) = _; rw [Option.bind_some, hs]; rfl⟩⟩
                · have e0 : decide (V.int (0 + (i : Nat)) = V.int 0) = false := by simp; omega
                  rw [e0]
                  refine iteF ?_
                  have ei : decide (i = 0) = false := decide_eq_false hi0
                  rw [ei] at heq
                  refine ⟨_, rfl, p, dxc, _, rfl, hpc, rf_pass _ _ _, ?_⟩
                  refine ⟨p, [44], v, lc, _, ?_, ⟨dxc, hpc⟩, hlz hlc, by decide, fun hpre H5 k5 r5 => ⟨_, rfl, ?_⟩, fun hpre => ⟨_, rfl, ?_⟩⟩
                  · show [V.ref p, V.str ","] = _
                    rw [comma]
                  · refine iteT ?_
                    cases hc : chop 44 lc with
                    | none => exact absurd hpre (chop_npre hc)
                    | some r =>
                      rw [(chop_pre hc).2] at r5
                      obtain ⟨dx5, h5⟩ := r5
                      have hr5 := chop_len hc
                      refine ⟨_, rfl, p, dx5, _, rfl, h5, rf_node _ _ _, p, v, r, leftc, rfl, ⟨dx5, h5⟩, by omega, by omega, fun hn H6 l6 n6 k6 ⟨dx6, h6⟩ => ?_, fun s hs x H6 hx k6 ⟨dx6, h6⟩ => ?_⟩
                      · exact ⟨_, l6, n6, dx6, rfl, h6, k5.trans k6, .inl ⟨rfl, by rw [heq]; show ((chop 44 lc).bind _) = none; rw [hc, Option.bind_some, hn]; rfl⟩⟩
                      · have e9 := nodeM_len _ _ _ _ hs
                        exact ⟨_, _, _, dx6, rfl, h6, k5.trans k6, .inr ⟨hx, s.2, rfl, by omega, by omega, by rw [heq]; show ((chop 44 lc).bind _) = _; rw [hc, Option.bind_some, hs]; rfl⟩⟩
                  · refine iteF ?_
                    cases hc : chop 44 lc with
                    | none => exact ⟨_, lc, _, dxc, rfl, hpc, Keep1.refl, .inl ⟨rfl, by rw [heq]; show ((chop 44 lc).bind _) = none; rw [hc]; rfl⟩⟩
                    | some r => exact absurd (chop_pre hc).1 hpre
              · rintro σ'' H6 ⟨x, l', n', dx', rfl, h6, k6, hx⟩
                refine ⟨_, rfl, rfl, _, rfl, ?_⟩
                rcases hx with ⟨rfl, hx⟩ | ⟨hx0, left', rfl, hl', hleft', hx⟩
                · refine iteT ?_
                  exact kN (by rw [hx]; rfl) H6 _ _ (kc.trans k6) ⟨dx', h6⟩
                · rw [decide_eq_false hx0]
                  refine iteF ?_
                  have f6 := k6 _ _ hfc nfp.symm
                  refine ⟨_, rfl, Or.inl ⟨rfl, _, SqL.of f6⟩, _, rfl, fa, xs, x, rfl, rfl, f6, Nat.lt_of_le_of_lt (by omega : xs.length ≤ 10) (by decide), ?_⟩
                  exact ⟨by omega, l', left', _, _, _, _, dx', rfl, by rw [upd_ne nfp]; exact h6, upd_same, by rw [List.length_append]; simp; omega, (kc.trans k6).put fH, hl', hleft', by rw [hx]; simp⟩
            · have ek : i = k := by omega
              subst ek
              refine .inl ⟨by show (i : Int).toNat ≤ i; omega, ?_⟩
              rw [Nat.sub_self] at heq
              have heq : loopM (nodeM (f' + 1)) i true l3 left = some (lc, leftc) := heq
              rw [heq, Option.bind_some] at kN kS
              refine ⟨_, rfl, p, dxc, _, rfl, hpc, rf_pass _ _ _, ?_⟩
              refine ⟨p, [41], v, lc, _, ?_, ⟨dxc, hpc⟩, hlz hlc, by decide, fun hpre H5 k5 r5 => ⟨_, rfl, ?_⟩, fun hpre => ⟨_, rfl, ?_⟩⟩
              · show [V.ref p, V.str ")"] = _
                rw [closes]
              · refine iteT ?_
                cases hc : chop 41 lc with
                | none => exact absurd hpre (chop_npre hc)
                | some r =>
                  rw [(chop_pre hc).2] at r5
                  obtain ⟨dx5, h5⟩ := r5
                  have f5 := k5 _ _ hfc nfp.symm
                  refine ⟨_, rfl, fa, xs, rfl, .inl ⟨SqL.of f5, fun q hq => ?_⟩⟩
                  exact kS (r, leftc) (by rw [hc]; rfl) _ _ (by intro z; cases z) ((kc.trans k5).trans (Keep1.new hq)) ⟨dx5, by rw [upd_ne (ne_of_none h5 hq)]; exact h5⟩
              · refine iteF ?_
                refine kN ?_ H' _ _ kc ⟨dxc, hpc⟩
                cases hc : chop 41 lc with
                | none => rfl
                | some r => exact absurd (chop_pre hc).1 hpre
theorem ok_node (T : Tx K mg) (PA : PartsAt w K mg) : ∀ f : Nat, HasM P w K mg base CX0 (3 + f) (CR K) "node" ["self"] (spN K f)
  | 0 => ok_node0 T
  | f + 1 => ok_nodeS T PA f (ok_node T PA f)
end
end Fy
/-! RR2 -/
namespace Fy
open PySem PySem.Spec PyProof.Rows L2
/-- a reader of a term: has it one -/
def RRAt (K : PySem.W.Frag) (p : Addr) (H : Hp) (st : Bool) : Prop := ∃ v l n, RdAt K p H v l n ∧ (st = false → v = .non ∧ n = 9) ∧ (st = true → v ≠ .non)
section
variable {P : Program} {w : World} {K : PySem.W.Frag} {mg : Str → Option Value} {base : Heap}
def sp_RR_take (K : PySem.W.Frag) : Sp := fun vs H Q _ => ∃ (p ws : Addr) (line : Int) (zs : List Str) (st : Bool), vs = [.ref p, .ref ws, .int line] ∧ RRAt K p H st ∧ H ws = some (.lst (zs.map V.str)) ∧ zs ≠ [] ∧ zs.length ≤ 1000 ∧ (∀ z ∈ zs, z.length ≤ 600) ∧
  (takeR zs st = none → ∀ H', Keep1 p H H' → Q (.bl false) H') ∧ (∀ st', takeR zs st = some st' → ∀ H', Keep1 p H H' → RRAt K p H' st' → Q (.bl true) H')
theorem sc_TermReader_take : FnScope ["self", "words", "line"] ["self", "words", "line"] (defScope s_TermReader_take) := ⟨rfl, rfl, rfl, by decide +kernel, rfl, by decide +kernel, by decide +kernel⟩
theorem ok_TermReader_take (T : Tx K mg) (PA : PartsAt w K mg) : HasM P w K mg base CX0 14 (CR K) "take" ["self", "words", "line"] (sp_RR_take K) := by
  obtain ⟨fd, F, g⟩ := T.m_TermReader_take
  have ok_TermReader_node : ∀ T' : Tx K mg, HasM P w K mg base CX0 13 (CR K) "node" ["self"] (spN K 10) := fun _ => ok_node T PA 10
  refine ⟨_, fd, g, F.bindsN (ps := ["self", "words", "line"]) (fun _ _ _ _ _ _ us hl => match us, hl with | [_, _, _], _ => rfl), ?_⟩
  refine F.ok sc_TermReader_take (fun vs H Q E h => ?_) (fun cdv A outer s H vs Q E hr h => ?_)
  · obtain ⟨p, ws, line, zs, st, rfl, _⟩ := h
    rfl
  · obtain ⟨p, ws, line, zs, st, rfl, ⟨v, l, n, ⟨dx, hp⟩, hF, hT⟩, hws, hne, hlen, hsz, kN, kS⟩ := h
    refine ⟨_, (pss_cons (ps_if ((pw_or (pt_cmpR op_notN1 (pe_fldK (K := K) (pv 0)) pe_non (nomark _)) (pw_or1 (pt_cmpR op_ne (pe_callB (r := rLenSq K) call_lenK (by rfl) T.n_len boot_len (pa_cons (pv 1) pa_nil)) pe_int (nomark _)))).pt) (pss_one (ps_ret pe_bl)) pss_nil)
      (pss_cons (ps_fld (pv 0) (pe_ix (r := rIxL K) ix_list (pv 1) pe_int (fun _ _ => rfl)) rfl)
      (pss_cons (ps_fld (pv 0) (pe_hasM0 (pv 0) T.cl_TermReader (ok_TermReader_node T) (hr.mono (by decide)) pass0) rfl)
      (pss_one (ps_ret (pe_and (pe_cmpR op_notN1 (pe_fldK (K := K) (pv 0)) pe_non (nomark _)) (pe_one (pe_cmpR op_eq (pe_fldK (K := K) (pv 0)) pe_str (nomark _))))))))), ?_⟩
    refine ⟨_, rfl, p, _, _, _, _, rfl, hp, T.cl_TermReader, T.na_TermReader_own_term, rf_term _ _ _, rfl, _, rfl, ?_⟩
    cases st with
    | true =>
      have e1 : (!decide (v = V.non)) = true := by simp [hT rfl]
      rw [e1]
      refine iteT ?_
      refine iteT ?_
      exact kN (by unfold takeR; rw [if_pos (.inl rfl)]) H Keep1.refl
    | false =>
      obtain ⟨rfl, rfl⟩ := hF rfl
      refine iteF ?_
      refine ⟨_, rfl, ws, _, rfl, .inl (SqL.of hws), rfl, _, rfl, ?_⟩
      by_cases c1 : zs.length = 1
      case neg =>
        have e1 : (!decide (V.int (zs.map V.str).length = V.int 1)) = true := by simp; omega
        rw [e1]
        refine iteT ?_
        exact kN (by unfold takeR; rw [if_pos (.inr c1)]) H Keep1.refl
      have e1 : (!decide (V.int (zs.map V.str).length = V.int 1)) = false := by simp; omega
      rw [e1]
      refine iteF ?_
      obtain ⟨z, rfl⟩ : ∃ z, zs = [z] := by
        match zs, c1 with
        | [z], _ => exact ⟨z, rfl⟩
      have hz : z.length ≤ 600 := hsz z (by simp)
      have ez : z = mk z.cps.toList := (TL.mk_tl z).symm
      refine ⟨_, rfl, ws, _, 0, _, rfl, rfl, SqL.of hws, at0, _, rfl, p, _, _, _, rfl, hp, T.cl_TermReader, T.na_TermReader_own_line, by simp [rf], ?_⟩
      have ep : putF "own_line" (V.str z) (rf .non l 9) = rf .non z.cps.toList 9 := by
        conv => lhs; rw [ez]
        exact rf_pline _ _ _ _
      rw [ep]
      have et : takeR [z] false = match nodeM 10 9 z.cps.toList with
        | some ([], _) => some true
        | _ => none := rfl
      rw [et] at kN kS
      have hzl : z.cps.toList.length ≤ 1000 := by
        have : z.cps.toList.length = z.length := by simp [Str.length]
        omega
      refine ⟨_, rfl, p, dx, _, rfl, upd_same, rf_node _ _ _, p, .non, z.cps.toList, 9, rfl, ⟨dx, upd_same⟩, hzl, by decide, fun hn H2 l2 n2 k2 ⟨dx2, h2⟩ => ?_, fun s hs x H2 hx k2 ⟨dx2, h2⟩ => ?_⟩
      · have k2 : Keep1 p H H2 := Keep1.set.trans k2
        refine ⟨_, rfl, p, _, _, _, rfl, h2, T.cl_TermReader, T.na_TermReader_own_term, by simp [rf], ?_⟩
        rw [rf_pterm]
        refine ⟨_, rfl, p, _, _, _, _, rfl, upd_same, T.cl_TermReader, T.na_TermReader_own_term, rf_term _ _ _, rfl, _, rfl, ?_⟩
        exact kN (by rw [hn]) _ (k2.trans Keep1.set)
      · have k2 : Keep1 p H H2 := Keep1.set.trans k2
        refine ⟨_, rfl, p, _, _, _, rfl, h2, T.cl_TermReader, T.na_TermReader_own_term, by simp [rf], ?_⟩
        rw [rf_pterm]
        refine ⟨_, rfl, p, _, _, _, _, rfl, upd_same, T.cl_TermReader, T.na_TermReader_own_term, rf_term _ _ _, rfl, _, rfl, ?_⟩
        have e3 : (!decide (x = V.non)) = true := by simp [hx]
        rw [e3]
        refine iteT ?_
        refine ⟨_, rfl, p, _, _, _, _, rfl, upd_same, T.cl_TermReader, T.na_TermReader_own_line, rf_line _ _ _, rfl, ?_⟩
        obtain ⟨s1, s2⟩ := s
        rw [hs] at kN kS
        cases s1 with
        | nil =>
          have e4 : decide (V.str (mk []) = V.str "") = true := by decide +kernel
          rw [e4]
          exact kS true rfl _ (k2.trans Keep1.set) ⟨x, _, _, ⟨dx2, upd_same⟩, fun z => (by cases z), fun _ => hx⟩
        | cons c r =>
          have e4 : decide (V.str (mk (c :: r)) = V.str "") = false := by simp [mk_ne c r]
          rw [e4]
          exact kN rfl _ (k2.trans Keep1.set)
def sp_RR_whole (K : PySem.W.Frag) : Sp := fun vs H Q _ => ∃ p st, vs = [.ref p] ∧ RRAt K p H st ∧ Q (.bl st) H
theorem sc_TermReader_is_whole : FnScope ["self"] ["self"] (defScope s_TermReader_is_whole) := ⟨rfl, rfl, rfl, by decide +kernel, rfl, by decide +kernel, by decide +kernel⟩
theorem ok_TermReader_is_whole (T : Tx K mg) : HasM P w K mg base CX0 1 (CR K) "is_whole" ["self"] (sp_RR_whole K) := by
  obtain ⟨fd, F, g⟩ := T.m_TermReader_is_whole
  refine ⟨_, fd, g, F.bindsN (ps := ["self"]) (fun _ _ _ _ _ _ us hl => match us, hl with | [_], _ => rfl), ?_⟩
  refine F.ok sc_TermReader_is_whole (fun vs H Q E h => ?_) (fun cdv A outer s H vs Q E hr h => ?_)
  · obtain ⟨p, st, rfl, _⟩ := h
    rfl
  · obtain ⟨p, st, rfl, ⟨v, l, n, ⟨dx, hp⟩, hF, hT⟩, k⟩ := h
    refine ⟨_, (pss_one (ps_ret (pe_cmpR op_notN1 (pe_fldK (K := K) (pv 0)) pe_non (nomark _)))), ?_⟩
    refine ⟨_, rfl, p, _, _, _, _, rfl, hp, T.cl_TermReader, T.na_TermReader_own_term, rf_term _ _ _, rfl, ?_⟩
    cases st with
    | true =>
      have e1 : (!decide (v = V.non)) = true := by simp [hT rfl]
      rw [e1]
      exact k
    | false =>
      have e1 : (!decide (v = V.non)) = false := by simp [(hF rfl).1]
      rw [e1]
      exact k
def sp_RR_wrong : Sp := fun vs H Q _ => ∃ p, vs = [.ref p] ∧ ∀ l, H l = none → Q (.ref l) (upd H l (.lst []))
theorem sc_TermReader_wrong_lines : FnScope ["self"] ["self"] (defScope s_TermReader_wrong_lines) := ⟨rfl, rfl, rfl, by decide +kernel, rfl, by decide +kernel, by decide +kernel⟩
theorem ok_TermReader_wrong_lines (T : Tx K mg) : HasM P w K mg base CX0 1 (CR K) "wrong_lines" ["self"] sp_RR_wrong := by
  obtain ⟨fd, F, g⟩ := T.m_TermReader_wrong_lines
  refine ⟨_, fd, g, F.bindsN (ps := ["self"]) (fun _ _ _ _ _ _ us hl => match us, hl with | [_], _ => rfl), ?_⟩
  refine F.ok sc_TermReader_wrong_lines (fun vs H Q E h => ?_) (fun cdv A outer s H vs Q E hr h => ?_)
  · obtain ⟨p, rfl, _⟩ := h
    rfl
  · obtain ⟨p, rfl, k⟩ := h
    refine ⟨_, (pss_one (ps_ret (pe_lst pa_nil))), ?_⟩
    exact ⟨Nat.zero_le _, k⟩
def sp_RR_made (K : PySem.W.Frag) : Sp := fun vs H Q _ => ∃ p st, vs = [.ref p] ∧ RRAt K p H st ∧ ∀ v, Q v H
theorem sc_TermReader_made : FnScope ["self"] ["self"] (defScope s_TermReader_made) := ⟨rfl, rfl, rfl, by decide +kernel, rfl, by decide +kernel, by decide +kernel⟩
theorem ok_TermReader_made (T : Tx K mg) : HasM P w K mg base CX0 1 (CR K) "made" ["self"] (sp_RR_made K) := by
  obtain ⟨fd, F, g⟩ := T.m_TermReader_made
  refine ⟨_, fd, g, F.bindsN (ps := ["self"]) (fun _ _ _ _ _ _ us hl => match us, hl with | [_], _ => rfl), ?_⟩
  refine F.ok sc_TermReader_made (fun vs H Q E h => ?_) (fun cdv A outer s H vs Q E hr h => ?_)
  · obtain ⟨p, st, rfl, _⟩ := h
    rfl
  · obtain ⟨p, st, rfl, ⟨v, l, n, ⟨dx, hp⟩, hF, hT⟩, k⟩ := h
    refine ⟨_, (pss_one (ps_ret (pe_fldK (K := K) (pv 0)))), ?_⟩
    exact ⟨_, rfl, p, _, _, _, _, rfl, hp, T.cl_TermReader, T.na_TermReader_own_term, rf_term _ _ _, k v⟩
end
end Fy
/-! Exc92 -/
namespace Fy
open PySem PySem.Spec PyProof.Rows L2
section
variable {P : Program} {w : World} {K : PySem.W.Frag} {mg : Str → Option Value} {base : Heap}
abbrev CIL (K : PySem.W.Frag) : Addr := He.ga K "InvalidLines"
def sp_FE_init (K : PySem.W.Frag) : Sp := fun vs H Q _ => ∃ a v, vs = [.ref a, v] ∧ H a = some (exo a (CIL K) none) ∧ ∀ d, H d = none → d ≠ a → Q .non (upd (upd H d (exd d [("value", v)])) a (exo a (CIL K) (some d)))
theorem sc_FlowError___init__ : FnScope ["self", "value"] ["self", "value"] (defScope s_FlowError___init__) := ⟨rfl, rfl, rfl, by decide +kernel, rfl, by decide +kernel, by decide +kernel⟩
theorem ok_FlowError___init__ (T : Tx K mg) : ∃ fd, FunD K "__init__" "FlowError.__init__" (defArgs s_FlowError___init__) (defBody s_FlowError___init__) (defScope s_FlowError___init__) [] [] (He.ma K (He.ga K "FlowError") "__init__") fd ∧
    Meth K (He.ga K "FlowError") "__init__" (He.ma K (He.ga K "FlowError") "__init__") ∧ Binds K fd ["self", "value"] [] ∧ FnOk P w K mg base CX0 1 (He.ma K (He.ga K "FlowError") "__init__") fd ["self", "value"] (sp_FE_init K) := by
  obtain ⟨fd, F, g⟩ := T.m_FlowError___init__
  refine ⟨fd, F, g, F.bindsN (ps := ["self", "value"]) (fun _ _ _ _ _ _ us hl => match us, hl with | [_, _], _ => rfl), ?_⟩
  refine F.ok sc_FlowError___init__ (fun vs H Q E h => ?_) (fun cdv A outer s H vs Q E hr h => ?_)
  · obtain ⟨a, v, rfl, _⟩ := h
    rfl
  · obtain ⟨a, v, rfl, ha, k⟩ := h
    refine ⟨_, pss_cons (ps_expr (pe_veinit (by rfl) T.n_ValueError T.x_ve (pa_cons (pv 0) (pa_cons pe_str pa_nil)))) (pss_one (ps_ost (pv 0) (pv 1) rfl)), ?_⟩
    refine ⟨_, rfl, a, CIL K, _, rfl, (by decide : 1 ≤ 1000), T.x_oex, ha, ?_⟩
    exact ⟨_, rfl, _, rfl, a, CIL K, rfl, T.x_oex, T.x_value, .inl ⟨ha, k⟩⟩
def sp_IL_init (K : PySem.W.Frag) : Sp := fun vs H Q _ => ∃ a v, vs = [.ref a, v] ∧ H a = some (exo a (CIL K) none) ∧ ∀ d, H d = none → d ≠ a → Q .non (upd (upd (upd H d (exd d [("value", v)])) a (exo a (CIL K) (some d))) d (exd d [("line", v), ("value", v)]))
theorem sc_InvalidLines___init__ : FnScope ["self", "line"] ["self", "line"] (defScope s_InvalidLines___init__) := ⟨rfl, rfl, rfl, by decide +kernel, rfl, by decide +kernel, by decide +kernel⟩
theorem ok_InvalidLines___init__ (T : Tx K mg) : ∃ fd, FunD K "__init__" "InvalidLines.__init__" (defArgs s_InvalidLines___init__) (defBody s_InvalidLines___init__) (defScope s_InvalidLines___init__) [] [] (He.ma K (He.ga K "InvalidLines") "__init__") fd ∧
    Meth K (He.ga K "InvalidLines") "__init__" (He.ma K (He.ga K "InvalidLines") "__init__") ∧ Binds K fd ["self", "line"] [] ∧ FnOk P w K mg base CX0 2 (He.ma K (He.ga K "InvalidLines") "__init__") fd ["self", "line"] (sp_IL_init K) := by
  obtain ⟨fd, F, g⟩ := T.m_InvalidLines___init__
  obtain ⟨fd2, F2, g2, b2, ok2⟩ := ok_FlowError___init__ (P := P) (w := w) (base := base) T
  obtain ⟨mc, cr, cv⟩ := T.x_fe
  refine ⟨fd, F, g, F.bindsN (ps := ["self", "line"]) (fun _ _ _ _ _ _ us hl => match us, hl with | [_, _], _ => rfl), ?_⟩
  refine F.ok sc_InvalidLines___init__ (fun vs H Q E h => ?_) (fun cdv A outer s H vs Q E hr h => ?_)
  · obtain ⟨a, v, rfl, _⟩ := h
    rfl
  · obtain ⟨a, v, rfl, ha, k⟩ := h
    refine ⟨_, pss_cons (ps_expr (pe_clsfn cr cv ok2 (hr.mono (by decide)) g2.kp b2 (E := E0) pass0 (by rfl) T.g_FlowError (pa_cons (pv 0) (pa_cons (pv 1) pa_nil)))) (pss_one (ps_ost (pv 0) (pv 1) rfl)), ?_⟩
    refine ⟨_, rfl, _, rfl, a, v, rfl, ha, fun d hd nd => ?_⟩
    refine ⟨_, rfl, _, rfl, a, CIL K, rfl, T.x_oex, T.x_line, .inr ⟨d, [("value", v)], upd_same, by rw [upd_ne nd, upd_same], (by decide : 1 ≤ 900), k d hd nd⟩⟩
/-- InvalidLines(e) is made -/
theorem mkIL {v : V} {H1 : Hp} {Q : XK} (k : ∀ d, H1 d = none → Q (.ref (CIL K)) (some d) (upd H1 d (.xd [("line", v), ("value", v)]))) :
    [v].length ≤ 1000 ∧ ∀ a, H1 a = none → sp_IL_init K (.ref a :: ([v] ++ [])) (upd H1 a (exo a (CIL K) none))
      (fun u H2 => u = .non ∧ ∃ (d : Addr) (fs : List (Str × V)), H2 a = some (exo a (CIL K) (some d)) ∧ H2 d = some (exd d fs) ∧ H1 d = none ∧ Q (.ref (CIL K)) (some d) (upd (del H2 a) d (.xd fs))) (fun _ _ _ => False) := by
  refine ⟨(by decide : 1 ≤ 1000), fun a ha => ⟨a, v, rfl, upd_same, fun d hd nd => ⟨rfl, d, _, by rw [upd_ne nd.symm, upd_same], upd_same, ?_, ?_⟩⟩⟩
  · rw [upd_ne nd] at hd
    exact hd
  · rw [upd_ne nd] at hd
    have e : (upd (del (upd (upd (upd (upd H1 a (exo a (CIL K) none)) d (exd d [("value", v)])) a (exo a (CIL K) (some d))) d (exd d [("line", v), ("value", v)])) a) d (.xd [("line", v), ("value", v)])) = upd H1 d (.xd [("line", v), ("value", v)]) := by
      funext b
      by_cases hb : b = d
      · subst hb
        rw [upd_same, upd_same]
      · rw [upd_ne hb, upd_ne hb]
        by_cases hba : b = a
        · subst hba
          rw [del_same, ha]
        · rw [del_ne hba, upd_ne hb, upd_ne hba, upd_ne hb, upd_ne hba]
    rw [e]
    exact k d hd
theorem pmk_IL {X : Cx} {e : Expr} {te : TE} {p pos : Pos} (hK : X.K = K) (hmg : X.mg = mg) (T : Tx K mg) (hr : Room 3 X.A) (hg : Gl X "InvalidLines") (he : PE X e te) (hs : starEach [e] X.env = (false, eval e X.env) :: starEach [] X.env := by rfl) :
    PMk X (.Call (.Name "InvalidLines" p) [e] [] pos) (tMkO (CIL K) (sp_IL_init K) [] (tCons te tNil)) := by
  subst hK hmg
  obtain ⟨fd, F, g, b, ok⟩ := ok_InvalidLines___init__ (P := X.prog) (w := X.w) (base := X.base) T
  exact pmk_oex (dvs := []) T.x_oex g.at_ T.x_ty ok hr b .nil pass0 hg T.g_InvalidLines (pa_cons he pa_nil (hs := hs)) (he := hs)
end
end Fy
/-! Told -/
namespace Fy
open PySem PySem.Spec PyProof.Rows L2 LamX
theorem b_VE : bootBuiltins "ValueError" = some (.type "ValueError") := by decide +kernel
/-- what told makes of the call: the line of the error, or 'read' -/
def TTold92 (K : PySem.W.Frag) : (XK → Hp → VK → Prop) → Hp → VK → Prop := fun tl H Q =>
  tl (fun cls d H' => cls = .ref (CIL K) ∧ ∃ dd v, d = some dd ∧ H' dd = some (.xd [("line", v), ("value", v)]) ∧ Q v H') H (fun _ H' => ∃ v, some (some (V.str "read")) = some (some v) ∧ Q v H')
theorem takes_len {X : Cx} {W : WX} (tk : Takes X W) : Takes X (fun cls d σ H => σ.length = X.N.length → W cls d σ H) := fun u s' ⟨a, B, sI, pins, σ, H, cls, d, e, I, nb, up, sky, na, os, ag, w⟩ =>
  tk u s' ⟨a, B, sI, pins, σ, H, cls, d, e, I, nb, up, sky, na, os, ag, w I.len⟩
theorem sc_told : FnScope ["_law_call", "_law_told_here", "e"] ["_law_call"] (defScope s__law_told) := ⟨rfl, rfl, rfl, by decide +kernel, rfl, by decide +kernel, by decide +kernel⟩
theorem told92 {X : Cx} {g : Addr} {cdg : Value} {q : Str} (T : Tx X.K X.mg) : GivesTo X ["_law_call", "_law_told_here", "e"] "_law_told" (defScope s__law_told) g cdg (defBody s__law_told) "_law_call" q (TTold92 X.K) := by
  intro f c' s H Q tl act hc h
  have hb : bootBuiltins "ValueError" = some (.type "ValueError") := b_VE
  refine ⟨_, pss_cons (ps_set (i := 1) sc_told.nd rfl (Or.inl rfl) pe_str) (pss_cons (ps_try_as (X := (cxOf C8.CX0 X.prog X.w X.K X.mg X.base ["_law_call", "_law_told_here", "e"] "_law_told" (defScope s__law_told) g cdg X.A X.stack s H C8.E0).nox) (c := .ref (CIL X.K)) (i := 2) (n := "e")
      (tb := fun W D σ H => ∃ Ech : XK, (∀ cls d σ' H', Ech cls d H' → σ'.length = 3 → W cls d σ' H') ∧ σ[0]? = some (some (.ref f)) ∧ H c' = some (CodeO c' q) ∧ tl Ech H fun _ H' => D.nx σ H')
      rfl rfl sc_told.nd rfl rfl ⟨by rfl, by decide, .inl T.g_InvalidLines⟩ L2.takes0 ?hb (fun a oe cls d pn hz hf => pss_one (ps_set (i := 1) sc_told.nd (by rfl) (Or.inl (by rfl)) (pe_ifExp (PW.pt (pw_and (pt_val
        (pe_callB (call_isX T.x_exc hz hf) (by rfl) T.n_isinstance boot_isinstance (pa_cons (pv 2 (by rfl)) (pa_cons (pe_glob (v := .ref (He.ga X.K "FlowError")) (by rfl) T.g_FlowError (by rfl)) pa_nil)))) (pw_and1 (pt_val
        (pe_callB (call_isX T.x_exc hz hf) (by rfl) T.n_isinstance boot_isinstance (pa_cons (pv 2 (by rfl)) (pa_cons (pe_bltn (v := .ty "ValueError") (by rfl) T.n_ValueError hb (by rfl)) pa_nil)))))))
        (pe_xf T.x_xf T.x_line hz hf (pv 2 (by rfl))) pe_str)))) (pss_one (ps_ret (pv 1)))), ?hq⟩
  case hb =>
    intro W pn xe tk _
    refine ⟨fun pins s' σ H' D I h' => ?_⟩
    obtain ⟨Ech, hW, h1, h2, h3⟩ := h'
    exact PSs.run (pss_one (ps_expr (act (fun cls d σ H => σ.length = 3 → W cls d σ H) pn xe Ech _ _ (takes_len tk) hW))) pins s' σ H' D I ⟨h1, h2, h3⟩
  · refine ⟨fun cls d H' => cls = .ref (CIL X.K) ∧ ∃ dd v, d = some dd ∧ H' dd = some (.xd [("line", v), ("value", v)]) ∧ Q v H', ?_, rfl, hc, h⟩
    rintro cls d σ' H' ⟨rfl, dd, v, rfl, hx, q⟩ hl
    obtain ⟨a0, a1, a2, rfl⟩ : ∃ a0 a1 a2, σ' = [a0, a1, a2] := by
      match σ', hl with
      | [a0, a1, a2], _ => exact ⟨_, _, _, rfl⟩
    refine ⟨true, T.x_exm, fun _ a ha => ?_, fun z => nomatch z⟩
    refine ⟨_, rfl, rfl, ⟨dd, _, rfl, hx⟩, .ref (He.ga X.K "FlowError"), .ref (He.ga X.K "FlowError"), true, rfl, fun u r => r, T.x_isF, true, rfl, ?_⟩
    refine iteT ?_
    refine ⟨_, rfl, rfl, ⟨dd, _, rfl, hx⟩, .ty "ValueError", .type "ValueError", true, rfl, fun u r => r, T.x_isV, true, rfl, ?_⟩
    refine iteT ?_
    refine ⟨_, rfl, rfl, rfl, dd, _, v, rfl, hx, rfl, ?_⟩
    exact ⟨_, rfl, q⟩
end Fy
/-! RB -/
namespace Fy
open PySem PySem.Spec PyProof.Rows L2
theorem Keep2.refl {p r : Addr} {H : Hp} : Keep2 p r H H := fun _ _ h _ _ => h
theorem Keep2.new {p r q : Addr} {o : HO} {H : Hp} (h : H q = none) : Keep2 p r H (upd H q o) := fun b u e _ _ => by rw [upd_ne (ne_of_none e h)]; exact e
/-- a reader: what it takes, row by row -/
structure Rdr (P : Program) (w : World) (K : PySem.W.Frag) (mg : Str → Option Value) (base : Heap) where
  C : Addr
  cl : Cls K C
  S : Type
  At : Addr → Addr → Hp → S → Prop
  ok : S → Prop
  step : List Str → Int → S → Option S
  whole : S → Bool
  wrongs : S → List Int
  obj : ∀ {p r H s}, At p r H s → ∃ dx fs, H p = some (.ins C dx fs) ∧ ∀ x ∈ (["take", "is_whole", "wrong_lines", "made"] : List Str), fs.lookup x = none
  rk : ∀ {p r H s}, At p r H s → ∃ o, H r = some o
  keep : ∀ {p r H H' s}, At p r H s → Same H H' → At p r H' s
  okS : ∀ {zs n s s'}, ok s → step zs n s = some s' → ok s'
  take : HasM P w K mg base CX0 14 C "take" ["self", "words", "line"] fun vs H Q _ => ∃ (p r ws : Addr) (line : Int) (zs : List Str) (s : S), vs = [.ref p, .ref ws, .int line] ∧ At p r H s ∧ ok s ∧ H ws = some (.lst (zs.map V.str)) ∧ ws ≠ r ∧ zs ≠ [] ∧ zs.length ≤ 1000 ∧ (∀ z ∈ zs, z.length ≤ 600) ∧
    (step zs line s = none → ∀ H', Keep2 p r H H' → Q (.bl false) H') ∧ (∀ s', step zs line s = some s' → ∀ H', Keep2 p r H H' → At p r H' s' → Q (.bl true) H')
  is_whole : HasM P w K mg base CX0 14 C "is_whole" ["self"] fun vs H Q _ => ∃ p r s, vs = [.ref p] ∧ At p r H s ∧ ok s ∧ ∀ H', Same H H' → Q (.bl (whole s)) H'
  wrong_lines : HasM P w K mg base CX0 14 C "wrong_lines" ["self"] fun vs H Q _ => ∃ p r s, vs = [.ref p] ∧ At p r H s ∧ ok s ∧ ∀ H' l, Same H H' → H' l = some (.lst ((wrongs s).map V.int)) → Q (.ref l) H'
  made : HasM P w K mg base CX0 14 C "made" ["self"] fun vs H Q _ => ∃ p r s, vs = [.ref p] ∧ At p r H s ∧ ok s ∧ ∀ v H', Same H H' → Q v H'
def runM {S : Type} (step : List Str → Int → S → Option S) : List (List Str) → Int → S → Except Int S
  | [], _, s => .ok s
  | ws :: r, n, s => match step ws n s with
    | none => .error n
    | some s' => runM step r (n + 1) s'
/-- the line that is wrong, if any -/
def readM {S : Type} (step : List Str → Int → S → Option S) (whole : S → Bool) (wrongs : S → List Int) (s0 : S) (rows : List Str) (rest : Str) : Option Int :=
  match runM step (rows.map fun z => Txt.split z " ") 1 s0 with
  | .error n => some n
  | .ok s => if rest ≠ "" ∨ whole s = false then some (rows.length + 1) else (wrongs s).head?
/-- the pieces are small -/
def SplitOk (z : Str) : Prop := z.length ≤ 1000000 ∧ Txt.split z "\n" ≠ [] ∧ (Txt.split z "\n").length ≤ 1000 ∧ ∀ row ∈ Txt.split z "\n", row.length ≤ 100000 ∧ (Txt.split row " ").length ≤ 1000 ∧ Txt.split row " " ≠ [] ∧ ∀ w ∈ Txt.split row " ", w.length ≤ 600
def notStr (K : PySem.W.Frag) (H : Hp) (x : V) : Prop := ∃ t, TyX K H x t ∧ PySem.W.kitOne K t (.type "str") = some false
section
variable {P : Program} {w : World} {K : PySem.W.Frag} {mg : Str → Option Value} {base : Heap}
def readOf (R : Rdr P w K mg base) (s0 : R.S) (z : Str) : Option Int := readM R.step R.whole R.wrongs s0 (Txt.split z "\n").dropLast ((Txt.split z "\n").getLastD "")
def sp_by (R : Rdr P w K mg base) (s0 : R.S) : Sp := fun vs H Q E => ∃ p r x, vs = [.ref p, x] ∧ R.At p r H s0 ∧ R.ok s0 ∧
  (notStr K H x ∧ (∀ H' d, Keep2 p r H H' → H' d = some (.xd [("line", .int 0), ("value", .int 0)]) → E (.ref (CIL K)) (some d) H') ∨
   ∃ z, x = .str z ∧ SplitOk z ∧ (∀ n, readOf R s0 z = some n → ∀ H' d, Keep2 p r H H' → H' d = some (.xd [("line", .int n), ("value", .int n)]) → E (.ref (CIL K)) (some d) H') ∧ (readOf R s0 z = none → ∀ v H', Keep2 p r H H' → Q v H'))
theorem sc_read_by : FnScope ["reader", "lines", "rows", "rest", "line", "row", "wrong"] ["reader", "lines"] (defScope s_read_by) := ⟨rfl, rfl, rfl, by decide +kernel, rfl, by decide +kernel, by decide +kernel⟩
theorem body_read_by (T : Tx K mg) (R : Rdr P w K mg base) (s0 : R.S) (cdv : Value) (f : Addr) (A : Around) (outer : List Env) (s : Shared) (H : Hp) (vs : List V) (Q : VK) (E : XK) (hr : Room 15 (A.deeper (envOfC "read_by" (defScope s_read_by) s.heap.objs.size f cdv))) (h : sp_by R s0 vs H Q E) :
    ∃ t, PSs (cxOf (L2.CX P w) P w K mg base ["reader", "lines", "rows", "rest", "line", "row", "wrong"] "read_by" (defScope s_read_by) f cdv A outer s H E) (defBody s_read_by) t ∧ t { nx := fun _ H' => Q .non H', rt := Q } (L2.start ["reader", "lines", "rows", "rest", "line", "row", "wrong"] vs) H := by
  obtain ⟨p, r, x, rfl, hat, hok, hx⟩ := h
  refine ⟨_, (pss_cons (ps_if (pt_not (pt_val (pe_callB (r := rIsi K) call_isi (by rfl) T.n_isinstance boot_isinstance (pa_cons (pv 1) (pa_cons (pe_bltn (v := .ty "str") rfl T.n_str b_str rfl) pa_nil))))) (pss_one (ps_raise rfl (takes_of rfl rfl rfl rfl) (pmk_IL rfl rfl T (hr.mono (by decide)) (by rfl) pe_int))) pss_nil)
      (pss_cons (ps_asg (pe_split (pv 1) (pe_gs T.c_LINE_END)) (pg_star rfl (pgs_cons (pg_name (i := 2) sc_read_by.nd rfl (Or.inl rfl)) (pgs_cons (pg_name (i := 3) sc_read_by.nd rfl (Or.inl rfl)) pgs_nil))))
      (pss_cons (ps_for (passes_of rfl) rfl (pi_enumF (by rfl) T.n_enumerate (pa_cons (pv 2) (pa_cons pe_int pa_nil))) (pg_tup rfl (pgs_cons (pg_name (i := 4) sc_read_by.nd rfl (Or.inl rfl)) (pgs_cons (pg_name (i := 5) sc_read_by.nd rfl (Or.inl rfl)) pgs_nil))) (pss_one (ps_if (pt_not (pt_val (pe_hasM (pv 0) R.cl R.take (hr.mono (by decide)) pass0 (pa_cons (pe_split (pv 5) pe_str) (pa_cons (pv 4) pa_nil))))) (pss_one (ps_raise rfl (takes_of rfl rfl rfl rfl) (pmk_IL rfl rfl T (hr.mono (by decide)) (by rfl) (pv 4)))) pss_nil)))
      (pss_cons (ps_if ((pw_or (pt_cmpR op_ne (pv 3) pe_str (nomark _)) (pw_or1 (pt_not (pt_val (pe_hasM0 (pv 0) R.cl R.is_whole (hr.mono (by decide)) pass0))))).pt) (pss_one (ps_raise rfl (takes_of rfl rfl rfl rfl) (pmk_IL rfl rfl T (hr.mono (by decide)) (by rfl) (pe_op op_add (pe_callB (r := rLenSq K) call_lenK (by rfl) T.n_len boot_len (pa_cons (pv 2) pa_nil)) pe_int)))) pss_nil)
      (pss_cons (ps_set (i := 6) sc_read_by.nd rfl (Or.inl rfl) (pe_hasM0 (pv 0) R.cl R.wrong_lines (hr.mono (by decide)) pass0))
      (pss_cons (ps_if (pt_cmpR (op_ne_nil hr) (pv 6) (pe_lst pa_nil) (nomark _)) (pss_one (ps_raise rfl (takes_of rfl rfl rfl rfl) (pmk_IL rfl rfl T (hr.mono (by decide)) (by rfl) (pe_ix (r := rIxL K) ix_list (pv 6) pe_int (fun _ _ => rfl))))) pss_nil)
      (pss_one (ps_ret (pe_hasM0 (pv 0) R.cl R.made (hr.mono (by decide)) pass0))))))))), ?_⟩
  have nstr : ∀ {H1 : Hp} {n : Int}, Keep2 p r H H1 → (∀ H' d, Keep2 p r H H' → H' d = some (.xd [("line", .int n), ("value", .int n)]) → E (.ref (CIL K)) (some d) H') → ∀ d, H1 d = none → E (.ref (CIL K)) (some d) (upd H1 d (.xd [("line", .int n), ("value", .int n)])) :=
    fun k0 k d hd => k _ d (k0.trans (Keep2.new hd)) upd_same
  rcases hx with ⟨⟨t, ht, hk⟩, kE⟩ | ⟨z, rfl, ⟨hz, hne, hpl, hrow⟩, kE, kS⟩
  · refine ⟨_, rfl, _, _, t, _, false, rfl, .ty _, ht, hk, false, rfl, ?_⟩
    refine iteT ?_
    exact mkIL (nstr Keep2.refl kE)
  · refine ⟨_, rfl, _, _, _, _, true, rfl, .ty _, .base (.str _), kit_ty (by decide +kernel), true, rfl, ?_⟩
    refine iteF ?_
    have nlz : (("\n" : Str).length == 0) = false := by decide +kernel
    refine ⟨_, rfl, ⟨_, rfl⟩, z, "\n", rfl, rfl, nlz, Nat.le_trans (by omega : z.length + 2 ≤ 1000002) (by decide), fun la hla => ?_⟩
    generalize hps : Txt.split z "\n" = ps at hne hpl hrow ⊢
    have k1 : Keep2 p r H (upd H la (.lst (ps.map V.str))) := Keep2.new hla
    have at1 : R.At p r (upd H la (.lst (ps.map V.str))) s0 := R.keep hat fun b o e => by rw [upd_ne (ne_of_none e hla)]; exact e
    have h1 : upd H la (.lst (ps.map V.str)) la = some (.lst (ps.map V.str)) := upd_same
    generalize upd H la (.lst (ps.map V.str)) = H1 at k1 at1 h1
    obtain ⟨rows, rest, rfl⟩ : ∃ rows rest, ps = rows ++ [rest] := ⟨ps.dropLast, ps.getLast hne, (List.dropLast_concat_getLast hne).symm⟩
    have ers : readOf R s0 z = readM R.step R.whole R.wrongs s0 rows rest := by
      unfold readOf
      rw [hps, List.dropLast_concat]
      simp
    rw [ers] at kE kS
    have hll : ((rows ++ [rest]).map V.str).length = rows.length + 1 := by simp
    refine ⟨la, _, rfl, SqL.of h1, (by rw [hll]; exact Nat.le_add_left _ _), fun D hD => ?_⟩
    have e1 : ((rows ++ [rest]).map V.str).take (((rows ++ [rest]).map V.str).length - 1) = rows.map V.str := by rw [hll, List.map_append]; simp
    have e2 : ((rows ++ [rest]).map V.str).drop (((rows ++ [rest]).map V.str).length - 1) = [.str rest] := by rw [hll, List.map_append]; simp
    show gCons (gName 2) (gCons (gName 3) gNil) (V.ref D :: ((rows ++ [rest]).map V.str).drop (((rows ++ [rest]).map V.str).length - 1)) _ (upd H1 D (.lst (((rows ++ [rest]).map V.str).take (((rows ++ [rest]).map V.str).length - 1)))) _
    rw [e1, e2]
    have k2 : Keep2 p r H (upd H1 D (.lst (rows.map V.str))) := k1.trans (Keep2.new hD)
    have at2 : R.At p r (upd H1 D (.lst (rows.map V.str))) s0 := R.keep at1 fun b o e => by rw [upd_ne (ne_of_none e hD)]; exact e
    have h2 : upd H1 D (.lst (rows.map V.str)) D = some (.lst (rows.map V.str)) := upd_same
    obtain ⟨dx1, fs1, hp1, _⟩ := R.obj at1
    obtain ⟨or1, hr1⟩ := R.rk at1
    have nD : D ≠ p ∧ D ≠ r := ⟨fun e => by (rw [e, hp1] at hD; cases hD), fun e => by (rw [e, hr1] at hD; cases hD)⟩
    generalize upd H1 D (.lst (rows.map V.str)) = H2 at k2 at2 h2
    have hrl : rows.length ≤ 1000 := by
      rw [List.length_append] at hpl
      simp at hpl
      omega
    refine ⟨_, _, rfl, _, _, rfl, rfl, ?_⟩
    refine ⟨_, rfl, D, _, 1, rfl, SqL.of h2, by decide, by decide, ?_⟩
    generalize hws : (rows.map fun z => Txt.split z " ") = wss
    refine ⟨fun i m σ H' => m = rows.length - i ∧ i ≤ rows.length ∧ ∃ st o4 o5, σ = [some (.ref p), some (.str z), some (.ref D), some (.str rest), o4, o5, none] ∧ R.At p r H' st ∧ R.ok st ∧ Keep2 p r H H' ∧ H' D = some (.lst (rows.map V.str)) ∧ runM R.step wss 1 s0 = runM R.step (wss.drop i) (1 + (i : Nat)) st,
      ⟨rows.length, by omega, by omega, s0, none, none, rfl, at2, hok, k2, h2, by simp⟩, ?_⟩
    rintro i m σ H' ⟨rfl, hi, st, o4, o5, rfl, hat', hok', k', h', heq⟩
    have hml : (rows.map V.str).length = rows.length := by simp
    by_cases hlt : i < rows.length
    · refine .inr ⟨⟨_, .str rows[i], SqL.of h', by simp [hlt]⟩, fun σ' H'' => i + 1 ≤ rows.length ∧ ∃ st o4 o5, σ' = [some (.ref p), some (.str z), some (.ref D), some (.str rest), o4, o5, none] ∧ R.At p r H'' st ∧ R.ok st ∧ Keep2 p r H H'' ∧ H'' D = some (.lst (rows.map V.str)) ∧ runM R.step wss 1 s0 = runM R.step (wss.drop (i + 1)) (1 + ((i + 1 : Nat) : Int)) st,
        fun σ' H'' q => ⟨rows.length - (i + 1), by omega, rfl, q⟩, ?_⟩
      rintro x H'' ⟨Tt, y, rfl, hT, rfl, hy⟩
      have ey : y = .str rows[i] := by
        have := hy _ (SqL.of h')
        simp [hlt] at this
        exact this.symm
      subst ey
      have k3 : Keep2 p r H (upd H' Tt (.tup [.int (1 + (i : Nat)), .str rows[i]])) := k'.trans (Keep2.new hT)
      have at3 : R.At p r (upd H' Tt (.tup [.int (1 + (i : Nat)), .str rows[i]])) st := R.keep hat' fun b o e => by rw [upd_ne (ne_of_none e hT)]; exact e
      have h3 : upd H' Tt (.tup [.int (1 + (i : Nat)), .str rows[i]]) D = some (.lst (rows.map V.str)) := by rw [upd_ne (ne_of_none h' hT)]; exact h'
      refine ⟨Tt, _, rfl, SqT.of upd_same, rfl, _, _, rfl, _, _, rfl, rfl, ?_⟩
      generalize upd H' Tt (.tup [.int (1 + (i : Nat)), .str rows[i]]) = H3 at k3 at3 h3
      obtain ⟨dx3, fs3, hp3, hfs3⟩ := R.obj at3
      have hri := hrow rows[i] (by simp)
      have spl : ((" " : Str).length == 0) = false := by decide +kernel
      refine ⟨_, rfl, p, dx3, fs3, rfl, hp3, hfs3 _ (by simp), _, rfl, ⟨_, rfl⟩, rows[i], " ", rfl, rfl, spl, Nat.le_trans (by omega : rows[i].length + 2 ≤ 100002) (by decide), fun sa hsa => ?_⟩
      have k4 : Keep2 p r H (upd H3 sa (.lst ((Txt.split rows[i] " ").map V.str))) := k3.trans (Keep2.new hsa)
      have at4 : R.At p r (upd H3 sa (.lst ((Txt.split rows[i] " ").map V.str))) st := R.keep at3 fun b o e => by rw [upd_ne (ne_of_none e hsa)]; exact e
      have h4 : upd H3 sa (.lst ((Txt.split rows[i] " ").map V.str)) D = some (.lst (rows.map V.str)) := by rw [upd_ne (ne_of_none h3 hsa)]; exact h3
      obtain ⟨or3, hr3⟩ := R.rk at3
      have nsa : sa ≠ r := fun e => by (rw [e, hr3] at hsa; cases hsa)
      have hsl : upd H3 sa (.lst ((Txt.split rows[i] " ").map V.str)) sa = some (.lst ((Txt.split rows[i] " ").map V.str)) := upd_same
      generalize upd H3 sa (.lst ((Txt.split rows[i] " ").map V.str)) = H4 at k4 at4 h4 hsl
      have hdr : wss.drop i = Txt.split rows[i] " " :: wss.drop (i + 1) := by
        subst hws
        rw [List.drop_eq_getElem_cons (by simpa using hlt)]
        simp
      rw [hdr] at heq
      refine ⟨_, rfl, p, r, sa, _, _, st, rfl, at4, hok', hsl, nsa, hri.2.2.1, hri.2.1, hri.2.2.2, fun hn H5 k5 => ⟨_, rfl, ?_⟩, fun st' hs H5 k5 at5 => ⟨_, rfl, ?_⟩⟩
      · refine iteT ?_
        refine ⟨_, rfl, ?_⟩
        have k6 := k4.trans k5
        refine mkIL (nstr k6 fun H' d => kE _ ?_ H' d)
        unfold readM
        rw [hws, heq]
        unfold runM
        rw [hn]
      · refine iteF ?_
        refine ⟨by omega, st', _, _, rfl, at5, R.okS hok' hs, k4.trans k5, k5 _ _ h4 nD.1 nD.2, ?_⟩
        rw [heq]
        conv => lhs; unfold runM
        rw [hs]
        rw [show (1 + ((i + 1 : Nat) : Int)) = 1 + (i : Int) + 1 by omega]
    · have ei : i = rows.length := by omega
      subst ei
      refine .inl ⟨⟨_, SqL.of h', hml⟩, ?_⟩
      have hwl : wss.length = rows.length := by rw [← hws, List.length_map]
      rw [List.drop_eq_nil_of_le (by omega)] at heq
      have heq : runM R.step wss 1 s0 = .ok st := heq
      have er : readM R.step R.whole R.wrongs s0 rows rest = if rest ≠ "" ∨ R.whole st = false then some ((rows.length : Int) + 1) else (R.wrongs st).head? := by
        unfold readM
        rw [hws, heq]
      rw [er] at kE kS
      have lenR : ∀ {H5 : Hp}, Keep2 p r H H5 → H5 D = some (.lst (rows.map V.str)) → (if rest ≠ "" ∨ R.whole st = false then some ((rows.length : Int) + 1) else (R.wrongs st).head?) = some ((rows.length : Int) + 1) → tCons (tOp (rI0 fun i j => V.int (i + j)) (tCB (rLenSq K) (tCons (tVar 2) tNil)) (tC (V.int 1))) tNil [some (.ref p), some (.str z), some (.ref D), some (.str rest), o4, o5, none] H5 fun vs H1 => vs.length ≤ 1000 ∧ ∀ a, H1 a = none → sp_IL_init K (.ref a :: (vs ++ [])) (upd H1 a (exo a (CIL K) none))
          (fun u H2 => u = .non ∧ ∃ (d : Addr) (fs : List (Str × V)), H2 a = some (exo a (CIL K) (some d)) ∧ H2 d = some (exd d fs) ∧ H1 d = none ∧ E (.ref (CIL K)) (some d) (upd (del H2 a) d (.xd fs))) (fun _ _ _ => False) := fun k5 h5 e => by
        refine ⟨_, rfl, D, _, rfl, .inl (SqL.of h5), _, _, rfl, rfl, ?_⟩
        rw [hml]
        exact mkIL (nstr k5 fun H' d => kE _ e H' d)
      refine ⟨_, rfl, rfl, _, rfl, ?_⟩
      by_cases c1 : rest = ""
      case neg =>
        have e5 : (!decide (V.str rest = V.str "")) = true := by simp [c1]
        rw [e5]
        refine iteT ?_
        refine iteT ?_
        exact lenR k' h' (if_pos (.inl c1))
      have e5 : (!decide (V.str rest = V.str "")) = false := by simp [c1]
      rw [e5]
      refine iteF ?_
      obtain ⟨dx5, fs5, hp5, hfs5⟩ := R.obj hat'
      refine ⟨_, rfl, p, dx5, fs5, rfl, hp5, hfs5 _ (by simp), p, r, st, rfl, hat', hok', fun H5 s5 => ⟨_, rfl, ?_⟩⟩
      have k5 : Keep2 p r H H5 := k'.trans (Keep2.of s5)
      have at5 := R.keep hat' s5
      cases c2 : R.whole st with
      | false =>
        refine iteT ?_
        exact lenR k5 (s5 _ _ h') (if_pos (.inr c2))
      | true =>
        refine iteF ?_
        rw [if_neg (by rw [c2]; simp [c1])] at kE kS
        obtain ⟨dx6, fs6, hp6, hfs6⟩ := R.obj at5
        refine ⟨_, rfl, p, dx6, fs6, rfl, hp6, hfs6 _ (by simp), p, r, st, rfl, at5, hok', fun H6 l6 s6 h6 => ?_⟩
        have k6 : Keep2 p r H H6 := k5.trans (Keep2.of s6)
        have at6 := R.keep at5 s6
        refine ⟨_, rfl, Nat.zero_le _, fun nl hnl => ?_⟩
        have s7 : Same H6 (upd H6 nl (.lst [])) := fun b o e => by rw [upd_ne (ne_of_none e hnl)]; exact e
        refine ⟨l6, nl, _, rfl, rfl, SqL.of (s7 _ _ h6), SqL.of upd_same, _, rfl, ?_⟩
        have k7 : Keep2 p r H (upd H6 nl (.lst [])) := k6.trans (Keep2.of s7)
        have at7 := R.keep at6 s7
        have h7 := s7 _ _ h6
        generalize upd H6 nl (.lst []) = H7 at k7 at7 h7
        cases hwr : R.wrongs st with
        | nil =>
          refine iteF ?_
          obtain ⟨dx8, fs8, hp8, hfs8⟩ := R.obj at7
          refine ⟨_, rfl, p, dx8, fs8, rfl, hp8, hfs8 _ (by simp), p, r, st, rfl, at7, hok', fun v H8 s8 => ?_⟩
          exact kS (by rw [hwr]; rfl) v H8 (k7.trans (Keep2.of s8))
        | cons a b =>
          refine iteT ?_
          rw [hwr] at h7
          refine ⟨_, rfl, l6, _, 0, _, rfl, rfl, SqL.of h7, at0, ?_⟩
          exact mkIL (nstr k7 fun H' d => kE _ (by rw [hwr]; rfl) H' d)
end
end Fy
/-! RT -/
namespace Fy
open PySem PySem.Spec PyProof.Rows L2
theorem HasM.imp {P : Program} {w : World} {K : PySem.W.Frag} {mg : Str → Option Value} {base : Heap} {CX : CXT} {j k : Nat} {C : Addr} {m : Str} {ps : List Str} {sp sp' : Sp} (h : HasM P w K mg base CX j C m ps sp) (hk : j ≤ k) (hi : ∀ vs H Q E, sp' vs H Q E → sp vs H Q E) : HasM P w K mg base CX k C m ps sp' := by
  obtain ⟨f, fd, g, b, ok⟩ := h.ex
  exact ⟨f, fd, g, b, (ok.mono hk).imp hi⟩
theorem tf_none {x : Str} (h1 : (x == "own_first") = false) (h2 : (x == "own_rows") = false) (v : V) (r : Addr) : (tf v r).lookup x = none := by simp [tf, List.lookup, h1, h2]
section
variable {P : Program} {w : World} {K : PySem.W.Frag} {mg : Str → Option Value} {base : Heap}
theorem TRAt.same {p r : Addr} {H H' : Hp} {first : Option Nat} {rows : List (Int × Int × Int)} (h : TRAt K p r H first rows) (s : Same H H') : TRAt K p r H' first rows := by
  obtain ⟨dx, v, ys, hp, hr, hys, hf⟩ := h
  refine ⟨dx, v, ys, s _ _ hp, s _ _ hr, Paired.mapP hys fun a b h => h.keep (p := p) (Keep2.of s) hp hr, ?_⟩
  cases first with
  | none => exact hf
  | some n =>
    obtain ⟨ft, ts, e, h1, h2⟩ := hf
    exact ⟨ft, ts, e, s _ _ h1, h2⟩
theorem takeT_ok {zs : List Str} {line : Int} {st st' : Option Nat × List (Int × Int × Int)} (hk : st.2.length ≤ 60 ∧ ∀ n, st.1 = some n → n ≤ 3) (h : takeT zs line st.1 st.2 = some st') : st'.2.length ≤ 60 ∧ ∀ n, st'.1 = some n → n ≤ 3 := by
  obtain ⟨first, rows⟩ := st
  cases first with
  | none =>
    have h : (if nth zs 0 = "first" ∧ 2 ≤ zs.length ∧ zs.length ≤ 4 ∧ (zs.drop 1).all isTW = true then some (some (zs.length - 1), rows) else none) = some st' := h
    split at h
    · rename_i c
      cases h
      exact ⟨hk.1, fun n e => by cases e; omega⟩
    · cases h
  | some n =>
    have h : (if nth zs 0 = "place" ∧ zs.length = 1 + 2 * (1 + n) ∧ rows.length ≠ 60 ∧ pieceOk ((zs.drop 1).take (n + 1)) = true ∧ pieceOk (zs.drop (n + 2)) = true then some (some n, rows ++ [(line, numOf (nth zs 1), numOf (nth zs (n + 2)))]) else none) = some st' := h
    split at h
    · rename_i c
      cases h
      refine ⟨?_, hk.2⟩
      have h1 : rows.length ≤ 60 := hk.1
      have h2 := c.2.2.1
      simp
      omega
    · cases h
def tabR (T : Tx K mg) : Rdr P w K mg base where
  C := CT K
  cl := T.cl_TableReader
  S := Option Nat × List (Int × Int × Int)
  At := fun p r H s => TRAt K p r H s.1 s.2
  ok := fun s => s.2.length ≤ 60 ∧ ∀ n, s.1 = some n → n ≤ 3
  step := fun zs n s => takeT zs n s.1 s.2
  whole := fun s => !s.2.isEmpty
  wrongs := fun s => wrongs s.2
  obj := fun {p r H s} ⟨dx, v, ys, hp, _⟩ => ⟨dx, _, hp, fun x hx => by
    simp only [List.mem_cons, List.not_mem_nil, or_false] at hx
    rcases hx with rfl | rfl | rfl | rfl
    · exact tf_none (by decide +kernel) (by decide +kernel) v r
    · exact tf_none (by decide +kernel) (by decide +kernel) v r
    · exact tf_none (by decide +kernel) (by decide +kernel) v r
    · exact tf_none (by decide +kernel) (by decide +kernel) v r⟩
  rk := fun ⟨_, _, _, _, hr, _⟩ => ⟨_, hr⟩
  keep := fun h s => h.same s
  okS := fun hk h => takeT_ok hk h
  take := (ok_TableReader_take T).imp (by decide) fun vs H Q E ⟨p, r, ws, line, zs, s, e, hat, hok, hws, nwr, hne, hl, hz, kF, kT⟩ => ⟨p, r, ws, line, zs, s.1, s.2, e, hat, hws, nwr, hne, hl, hz, Nat.le_trans hok.1 (by decide), fun n e => Nat.le_trans (hok.2 n e) (by decide), kF, fun st hs => kT st hs⟩
  is_whole := (ok_TableReader_is_whole T).imp (by decide) fun vs H Q E ⟨p, r, s, e, hat, hok, k⟩ => ⟨p, r, s.1, s.2, e, hat, k⟩
  wrong_lines := (ok_TableReader_wrong_lines T).imp (by decide) fun vs H Q E ⟨p, r, s, e, hat, hok, k⟩ => ⟨p, r, s.1, s.2, e, hat, Nat.le_trans hok.1 (by decide), k⟩
  made := (ok_TableReader_made T).imp (by decide) fun vs H Q E ⟨p, r, s, e, hat, hok, k⟩ => ⟨p, r, s.1, s.2, e, hat, Nat.le_trans hok.1 (by decide), k⟩
theorem RRAt.same {p : Addr} {H H' : Hp} {st : Bool} (h : RRAt K p H st) (s : Same H H') : RRAt K p H' st := by
  obtain ⟨v, l, n, ⟨dx, hp⟩, r⟩ := h
  exact ⟨v, l, n, ⟨dx, s _ _ hp⟩, r⟩
def termR (T : Tx K mg) (PA : PartsAt w K mg) : Rdr P w K mg base where
  C := CR K
  cl := T.cl_TermReader
  S := Bool
  At := fun p r H s => RRAt K p H s ∧ r = p
  ok := fun _ => True
  step := fun zs _ s => takeR zs s
  whole := fun s => s
  wrongs := fun _ => []
  obj := fun {p r H s} ⟨⟨v, l, n, ⟨dx, hp⟩, _⟩, _⟩ => ⟨dx, _, hp, fun x hx => by
    simp only [List.mem_cons, List.not_mem_nil, or_false] at hx
    rcases hx with rfl | rfl | rfl | rfl
    · exact rf_none (by decide +kernel) (by decide +kernel) (by decide +kernel) v l n
    · exact rf_none (by decide +kernel) (by decide +kernel) (by decide +kernel) v l n
    · exact rf_none (by decide +kernel) (by decide +kernel) (by decide +kernel) v l n
    · exact rf_none (by decide +kernel) (by decide +kernel) (by decide +kernel) v l n⟩
  rk := fun ⟨⟨_, _, _, ⟨_, hp⟩, _⟩, e⟩ => ⟨_, e ▸ hp⟩
  keep := fun h s => ⟨h.1.same s, h.2⟩
  okS := fun _ _ => trivial
  take := (ok_TermReader_take T PA).imp (Nat.le_refl _) fun vs H Q E ⟨p, r, ws, line, zs, s, e, hat, hok, hws, nwr, hne, hl, hz, kF, kT⟩ => ⟨p, ws, line, zs, s, e, hat.1, hws, hne, hl, hz, fun h H' k => kF h H' fun b o e n _ => k b o e n, fun st hs H' k a => kT st hs H' (fun b o e n _ => k b o e n) ⟨a, hat.2⟩⟩
  is_whole := (ok_TermReader_is_whole T).imp (by decide) fun vs H Q E ⟨p, r, s, e, hat, hok, k⟩ => ⟨p, s, e, hat.1, k H (Same.refl _)⟩
  wrong_lines := (ok_TermReader_wrong_lines T).imp (by decide) fun vs H Q E ⟨p, r, s, e, hat, hok, k⟩ => ⟨p, e, fun l hl => k _ l (fun b o e => by rw [upd_ne (ne_of_none e hl)]; exact e) upd_same⟩
  made := (ok_TermReader_made T).imp (by decide) fun vs H Q E ⟨p, r, s, e, hat, hok, k⟩ => ⟨p, s, e, hat.1, fun v => k v H (Same.refl _)⟩
theorem ok_read_by (T : Tx K mg) (PA : PartsAt w K mg) : Has P w K mg base (L2.CX P w) 16 "read_by" ["reader", "lines"] fun vs H Q E => sp_by (tabR (P := P) (w := w) (base := base) T) (none, []) vs H Q E ∨ sp_by (termR (P := P) (w := w) (base := base) T PA) false vs H Q E := by
  obtain ⟨f, fd, F, g⟩ := T.d_read_by
  refine ⟨f, fd, g, F.kp, F.bindsN (ps := ["reader", "lines"]) (fun _ _ _ _ _ _ us hl => match us, hl with | [_, _], _ => rfl), ?_⟩
  refine F.ok sc_read_by (fun vs H Q E h => ?_) (fun cdv A outer s H vs Q E hr h => ?_)
  · rcases h with ⟨p, r, x, rfl, _⟩ | ⟨p, r, x, rfl, _⟩
    · rfl
    · rfl
  · rcases h with h | h
    · exact body_read_by T _ _ cdv f A outer s H vs Q E hr h
    · exact body_read_by T _ _ cdv f A outer s H vs Q E hr h
/-- what a reader of a whole text does: rd tells the wrong line -/
def sp_read (K : PySem.W.Frag) (rd : Str → Option Int) : Sp := fun vs H Q E => ∃ x, vs = [x] ∧
  ((∀ H1, Same H H1 → notStr K H1 x) ∧ (∀ H' d, Same H H' → H' d = some (.xd [("line", .int 0), ("value", .int 0)]) → E (.ref (CIL K)) (some d) H') ∨
   ∃ z, x = .str z ∧ SplitOk z ∧ (∀ n, rd z = some n → ∀ H' d, Same H H' → H' d = some (.xd [("line", .int n), ("value", .int n)]) → E (.ref (CIL K)) (some d) H') ∧ (rd z = none → ∀ v H', Same H H' → Q v H'))
def readT (z : Str) : Option Int := readM (fun zs n (s : Option Nat × List (Int × Int × Int)) => takeT zs n s.1 s.2) (fun s => !s.2.isEmpty) (fun s => wrongs s.2) (none, []) (Txt.split z "\n").dropLast ((Txt.split z "\n").getLastD "")
def readR (z : Str) : Option Int := readM (fun zs _ (s : Bool) => takeR zs s) (fun s => s) (fun _ => []) false (Txt.split z "\n").dropLast ((Txt.split z "\n").getLastD "")
theorem sc_read_table : FnScope ["lines"] ["lines"] (defScope s_read_table) := ⟨rfl, rfl, rfl, by decide +kernel, rfl, by decide +kernel, by decide +kernel⟩
theorem sc_read_term : FnScope ["lines"] ["lines"] (defScope s_read_term) := ⟨rfl, rfl, rfl, by decide +kernel, rfl, by decide +kernel, by decide +kernel⟩
theorem keep_new {p r : Addr} {H H1 H2 : Hp} (s : Same H H1) (hp : H p = none) (hr : H r = none) (k : Keep2 p r H1 H2) : Same H H2 := fun b o e => k b o (s b o e) (ne_of_none e hp) (ne_of_none e hr)
theorem all_read_table (T : Tx K mg) (PA : PartsAt w K mg) : ∃ f fd, FunD K "read_table" "read_table" (defArgs s_read_table) (defBody s_read_table) (defScope s_read_table) [] [] f fd ∧ mg "read_table" = some (.ref f) ∧ FnOk P w K mg base (L2.CX P w) 17 f fd ["lines"] (sp_read K readT) := by
  obtain ⟨f, fd, F, g⟩ := T.d_read_table
  obtain ⟨fi, fdi, gi, bi, oki⟩ := (ok_TableReader___init__ (P := P) (w := w) (base := base) T).ex
  have Mk' := T.mk_TableReader
  refine ⟨f, fd, F, g, ?_⟩
  refine F.ok sc_read_table (fun vs H Q E h => ?_) (fun cdv A outer s H vs Q E hr h => ?_)
  · obtain ⟨x, rfl, _⟩ := h
    rfl
  · obtain ⟨x, rfl, h⟩ := h
    have efi : fi = He.ma K (CT K) "__init__" := by
      obtain ⟨fd2, F2, g2⟩ := T.m_TableReader___init__
      have := gi.at_.symm.trans g2.at_
      injection this with this
      injection this with this
      injection this
    subst efi
    refine ⟨_, pss_one (ps_ret (pe_has (ok_read_by T PA) (hr.mono (by decide)) (passes_call (takes_of rfl rfl rfl rfl) (fun _ _ _ _ h => h)) (pa_cons (pe_make0 Mk' oki (hr.mono (by decide)) (by rfl) T.g_TableReader bi .nil (E := E0) pass0) (pa_cons (pv 0) pa_nil)))), ?_⟩
    intro p dx hp hdx ndx
    have s1 : Same H (upd (upd H dx (.own p)) p (.ins (CT K) dx [])) := fun b o e => by rw [upd_ne (ne_of_none e hp), upd_ne (ne_of_none e hdx)]; exact e
    refine ⟨p, dx, rfl, upd_same, fun H' r hr0 hk hat => ⟨rfl, _, rfl, .inl ⟨p, r, x, rfl, hat, ⟨Nat.zero_le _, fun n e => (by cases e)⟩, ?_⟩⟩⟩
    have npr : r ≠ p := fun z => by (rw [z, upd_same] at hr0; cases hr0)
    have hrn : H r = none := by
      cases q : H r with
      | none => rfl
      | some o => rw [s1 _ _ q] at hr0; cases hr0
    have s2 : Same H H' := fun b o e => hk b o (s1 b o e) (ne_of_none e hp)
    rcases h with ⟨hns, kE⟩ | ⟨z, rfl, hz, kE, kS⟩
    · exact .inl ⟨hns H' s2, fun H2 d k e => kE H2 d (keep_new s2 hp hrn k) e⟩
    · exact .inr ⟨z, rfl, hz, fun n hn H2 d k e => kE n hn H2 d (keep_new s2 hp hrn k) e, fun hn v H2 k => kS hn v H2 (keep_new s2 hp hrn k)⟩
theorem all_read_term (T : Tx K mg) (PA : PartsAt w K mg) : ∃ f fd, FunD K "read_term" "read_term" (defArgs s_read_term) (defBody s_read_term) (defScope s_read_term) [] [] f fd ∧ mg "read_term" = some (.ref f) ∧ FnOk P w K mg base (L2.CX P w) 17 f fd ["lines"] (sp_read K readR) := by
  obtain ⟨f, fd, F, g⟩ := T.d_read_term
  obtain ⟨fi, fdi, gi, bi, oki⟩ := (ok_TermReader___init__ (P := P) (w := w) (base := base) T).ex
  have Mk' := T.mk_TermReader
  refine ⟨f, fd, F, g, ?_⟩
  refine F.ok sc_read_term (fun vs H Q E h => ?_) (fun cdv A outer s H vs Q E hr h => ?_)
  · obtain ⟨x, rfl, _⟩ := h
    rfl
  · obtain ⟨x, rfl, h⟩ := h
    have efi : fi = He.ma K (CR K) "__init__" := by
      obtain ⟨fd2, F2, g2⟩ := T.m_TermReader___init__
      have := gi.at_.symm.trans g2.at_
      injection this with this
      injection this with this
      injection this
    subst efi
    refine ⟨_, pss_one (ps_ret (pe_has (ok_read_by T PA) (hr.mono (by decide)) (passes_call (takes_of rfl rfl rfl rfl) (fun _ _ _ _ h => h)) (pa_cons (pe_make0 Mk' oki (hr.mono (by decide)) (by rfl) T.g_TermReader bi .nil (E := E0) pass0) (pa_cons (pv 0) pa_nil)))), ?_⟩
    intro p dx hp hdx ndx
    have s1 : Same H (upd (upd H dx (.own p)) p (.ins (CR K) dx [])) := fun b o e => by rw [upd_ne (ne_of_none e hp), upd_ne (ne_of_none e hdx)]; exact e
    refine ⟨p, dx, rfl, upd_same, fun H' hk hat => ⟨rfl, _, rfl, .inr ⟨p, p, x, rfl, ⟨⟨_, _, _, hat, fun _ => ⟨rfl, rfl⟩, fun e => (by cases e)⟩, rfl⟩, trivial, ?_⟩⟩⟩
    have s2 : Same H H' := fun b o e => hk b o (s1 b o e) (ne_of_none e hp)
    rcases h with ⟨hns, kE⟩ | ⟨z, rfl, hz, kE, kS⟩
    · exact .inl ⟨hns H' s2, fun H2 d k e => kE H2 d (keep_new s2 hp hp k) e⟩
    · exact .inr ⟨z, rfl, hz, fun n hn H2 d k e => kE n hn H2 d (keep_new s2 hp hp k) e, fun hn v H2 k => kS hn v H2 (keep_new s2 hp hp k)⟩
theorem ok_read_table (T : Tx K mg) (PA : PartsAt w K mg) : Has P w K mg base (L2.CX P w) 17 "read_table" ["lines"] (sp_read K readT) := by
  obtain ⟨f, fd, F, g, ok⟩ := all_read_table (P := P) (w := w) (base := base) T PA
  exact ⟨f, fd, g, F.kp, F.bindsN (ps := ["lines"]) (fun _ _ _ _ _ _ us hl => match us, hl with | [_], _ => rfl), ok⟩
theorem ok_read_term (T : Tx K mg) (PA : PartsAt w K mg) : Has P w K mg base (L2.CX P w) 17 "read_term" ["lines"] (sp_read K readR) := by
  obtain ⟨f, fd, F, g, ok⟩ := all_read_term (P := P) (w := w) (base := base) T PA
  exact ⟨f, fd, g, F.kp, F.bindsN (ps := ["lines"]) (fun _ _ _ _ _ _ us hl => match us, hl with | [_], _ => rfl), ok⟩
end
end Fy
/-! Lam -/
namespace Fy
open PySem PySem.Spec PyProof.Rows L2 LamX
/-- as FunD.ok, the code object told -/
theorem okC {P : Program} {w : World} {K : PySem.W.Frag} {mg : Str → Option Value} {base : Heap} {x qual : Str} {params : Arguments} {body : List Stmt} {scope : Scope} {dvs : List V} {kws : List (Str × V)} {fd : FuncData} {CX : CXT} {N ps : List Str} {k : Nat} {sp : Sp}
    (F : FunD K x qual params body scope dvs kws (He.ga K x) fd) (S : FnScope N ps scope) (len : ∀ vs H Q E, sp vs H Q E → vs.length = ps.length)
    (hbody : ∀ (A : Around) (outer : List Env) (s : Shared) (H : Hp) (vs : List V) (Q : VK) (E : XK), Room k (A.deeper (envOfC qual scope s.heap.objs.size (He.ga K x) (.ref (He.cT K (x, none)).1))) → sp vs H Q E →
      ∃ t, PSs (cxOf CX P w K mg base N qual scope (He.ga K x) (.ref (He.cT K (x, none)).1) A outer s H E) body t ∧ t { nx := fun _ H' => Q .non H', rt := Q } (start N vs) H) : FnOk P w K mg base CX (k + 1) (He.ga K x) fd ps sp := by
  obtain ⟨oc, od, dV, kV, doc, pm, an, cdv, ct, osl, rfl, lk, hcd, _, _⟩ := F.ex
  obtain ⟨c, rfl⟩ := He.codeIn_ref hcd
  have ec : (He.cT K (x, none)).1 = c := He.codeOf_eq (p := (x, none)) (oc := oc) (od := od) (osl := osl) lk rfl
  rw [ec] at hbody
  exact fn_of lk hcd S len fun A outer s H vs Q E hr hsp => hbody A outer s H vs Q E hr hsp
/-- x(k = e) -/
structure HasK (P : Program) (w : World) (K : PySem.W.Frag) (mg : Str → Option Value) (base : Heap) (CX : CXT) (k : Nat) (x a : Str) (sp : Sp) : Prop where
  ex : ∃ f fd, mg x = some (.ref f) ∧ PySem.W.keepIn K (.ref f) = true ∧ (∀ (s : Shared) (u : Value), BindsTo s fd ⟨[], [(a, u)]⟩ [(a, u)]) ∧ FnOk P w K mg base CX k f fd [a] sp
theorem bindsKw {K : PySem.W.Frag} {x qual : Str} {params : Arguments} {body : List Stmt} {scope : Scope} {kws : List (Str × V)} {f : Addr} {fd : FuncData} {a : Str} (F : FunD K x qual params body scope [] kws f fd)
    (h : ∀ (kV doc pm : Value) (an : Option Addr) (cdv ct : Value) (u : Value), bindArgs (PySem.W.fnOf x qual params body scope .none kV doc pm an cdv ct) ⟨[], [(a, u)]⟩ = pure [(a, u)]) (s : Shared) (u : Value) : BindsTo s fd ⟨[], [(a, u)]⟩ [(a, u)] := by
  obtain ⟨oc, od, dV, kV, doc, pm, an, cdv, ct, osl, rfl, lk, hcd, hD, hK⟩ := F.ex
  rcases hD with ⟨_, rfl⟩ | ⟨e, _⟩
  · exact .of_eq (h kV doc pm an cdv ct u)
  · exact absurd rfl e
section
variable {X : Cx} {CX : CXT} {k : Nat} {x a : Str} {sp : Sp} {E : XK} {e : Expr} {te : TE} {p kpos pos : Pos}
theorem pe_hasK (h : HasK X.prog X.w X.K X.mg X.base CX k x a sp) (hr : Room k X.A) (hx : Passes CX X E) (he : PE X e te) (hg : Gl X x := by rfl) (hdb : (x == ("__debug__" : Str)) = false := by decide) :
    PE X (.Call (.Name x p) [] [⟨some a, e, kpos⟩] pos) (tCall sp [] E (tCons te tNil)) := by
  obtain ⟨f, fd, hm, hk, hb, F⟩ := h.ex
  refine ⟨fun pins s σ H Q I h => ?_⟩
  refine wpAny_Call_Name_kw (ld_glob I hg hm ?_ hdb)
  refine PySem.W.callWith_KW0 (h₀ := X.base) I.ok.mod.kin hk (by rfl) (thn ((pk_cons (nm := some a) (kpos := kpos) he pk_nil).run pos pins s σ H _ I h) fun ws s2 ⟨zs, H2, I2, rz, q2⟩ => ⟨I2.kIn, ?_⟩) (by rfl)
  have q2 : sp (zs ++ []) H2 Q E := q2
  rw [List.append_nil] at q2
  have hl : zs.length = 1 := F.len _ _ _ _ q2
  obtain ⟨z, rfl⟩ : ∃ z, zs = [z] := by
    match zs, hl with
    | [z], _ => exact ⟨z, rfl⟩
  cases rz with
  | @cons _ u _ _ r1 rr =>
    cases rr
    refine wpAny_call (codeAny_mono (F.run X.A X.stack s2 H2 ⟨[], [(a, u)]⟩ [u] [z] Q E hr I2.env0 (hb s2 u) (.cons r1 .nil) q2) fun r s' hq => ?_)
    cases r with
    | error e => exact hx pins σ H2 s2 e s' I2 hq
    | ok fl =>
      cases fl with
      | ret u => exact I2.after hq
      | next => exact False.elim hq
      | brk => exact False.elim hq
      | cont => exact False.elim hq
end
section
variable {P : Program} {w : World} {K : PySem.W.Frag} {mg : Str → Option Value} {base : Heap}
theorem hk_read_table (T : Tx K mg) (PA : PartsAt w K mg) : HasK P w K mg base (L2.CX P w) 17 "read_table" "lines" (sp_read K readT) := by
  obtain ⟨f, fd, F, g, ok⟩ := all_read_table (P := P) (w := w) (base := base) T PA
  exact ⟨f, fd, g, F.kp, bindsKw F fun _ _ _ _ _ _ _ => rfl, ok⟩
theorem hk_read_term (T : Tx K mg) (PA : PartsAt w K mg) : HasK P w K mg base (L2.CX P w) 17 "read_term" "lines" (sp_read K readR) := by
  obtain ⟨f, fd, F, g, ok⟩ := all_read_term (P := P) (w := w) (base := base) T PA
  exact ⟨f, fd, g, F.kp, bindsKw F fun _ _ _ _ _ _ _ => rfl, ok⟩
end
/-! ### the law's defs: what may change -/
structure LawZ (T : List (Addr × Str)) (Z : Ez) : Prop where
  tabs : ∀ H, Z.J H → Tabs T H
  ext : ∀ H H1, Z.J H → ExtN H H1 → Tabs T H1 → Z.J H1
theorem LawZ.acc {T : List (Addr × Str)} {Z : Ez} (h : LawZ T Z) {D : Addr} {o : HO} (ho : ∀ ps, o ≠ .tbl ps) : LawZ T (Z.acc D o) where
  tabs := fun H j => h.tabs H j.1
  ext := fun H H1 j e t => ⟨h.ext H H1 j.1 e t, e _ _ j.2 ho⟩
theorem extN_gr {Z : Ez} {H H1 : Hp} (e : ExtN H H1) : Gr Z H H1 := fun a o h _ t => e a o h t
def toldP : Option Int → PT
  | none => .s "read"
  | some n => .i n
/-- told(lambda: read(..)) -/
theorem er_told {T : List (Addr × Str)} {Z : Ez} (hz : LawZ T Z) {rd : Str → Option Int} {te : TE} {σ : L2.St} {H : Hp} {z : Str} (ha : Er Z te σ H (· = .s z)) (hs : SplitOk z) :
    Er Z (tLam T (TTold92 Z.K) fun E => tCall (sp_read Z.K rd) [] E (tCons te tNil)) σ H (· = toldP (rd z)) := fun H1 g j Q q => by
  refine ⟨hz.tabs H1 j, fun H2 e2 t2 => ?_⟩
  have j2 := hz.ext H1 H2 j e2 t2
  have g2 : Gr Z H1 H2 := extN_gr e2
  show tCall _ [] _ (tCons te tNil) σ H2 _
  refine ha H2 (g.trans g2) j2 _ fun t v H3 g3 j3 p r => ?_
  subst p
  have ev : v = .str z := r
  subst ev
  refine ⟨.str z, rfl, .inr ⟨z, rfl, hs, fun n hn H' d s hd => ⟨rfl, d, .int n, rfl, hd, ?_⟩, fun hn v H' s => ⟨_, rfl, ?_⟩⟩⟩
  · exact q (.i n) _ H' ((g2.trans g3).trans (Gr.same s)) (Z.jsame s j3) (show .i n = toldP (rd z) by rw [hn]; rfl) rfl
  · exact q (.s "read") _ H' ((g2.trans g3).trans (Gr.same s)) (Z.jsame s j3) (by rw [hn]; rfl) rfl
/-- .. of what is no text -/
theorem er_toldN {T : List (Addr × Str)} {Z : Ez} (hz : LawZ T Z) {rd : Str → Option Int} {te : TE} {σ : L2.St} {H : Hp} {P : PT → Prop} (ha : Er Z te σ H P) (hs : ∀ t v H1, P t → Rep Z H1 t v → Z.J H1 → notStr Z.K H1 v) :
    Er Z (tLam T (TTold92 Z.K) fun E => tCall (sp_read Z.K rd) [] E (tCons te tNil)) σ H (· = .i 0) := fun H1 g j Q q => by
  refine ⟨hz.tabs H1 j, fun H2 e2 t2 => ?_⟩
  have j2 := hz.ext H1 H2 j e2 t2
  have g2 : Gr Z H1 H2 := extN_gr e2
  show tCall _ [] _ (tCons te tNil) σ H2 _
  refine ha H2 (g.trans g2) j2 _ fun t v H3 g3 j3 p r => ?_
  refine ⟨v, rfl, .inl ⟨fun H4 s => hs t v H4 p (r.mono (Gr.same s)) (Z.jsame s j3), fun H' d s hd => ⟨rfl, d, .int 0, rfl, hd, ?_⟩⟩⟩
  exact q _ _ H' ((g2.trans g3).trans (Gr.same s)) (Z.jsame s j3) rfl rfl
structure LamAt (base : Heap) (K : PySem.W.Frag) (mg : Str → Option Value) : Prop where
  tb : ∀ x ∈ lamNames, TabB base mg (He.cT K (x, none)).1 (He.cT K (x, none)).2
  hu : ∀ p ∈ lamT K, ∀ q ∈ lamT K, p.1 = q.1 → p.2 = q.2
section
variable {X : Cx}
/-- told(lambda: body), in the def x -/
theorem pe_told {x : Str} {k : Nat} {params : Arguments} {body : Expr} {scope : Scope} {t : XK → TE} {p lpos pos : Pos} (T : Tx X.K X.mg) (LA : LamAt X.base X.K X.mg) (hx : x ∈ lamNames) (hcode : X.env.code = .ref (He.cT X.K (x, none)).1) (hq : X.env.qual = x ++ (".<locals>." : Str))
    (hg : Gl X "_law_told") (hr : Room (k + 2) X.A) (L : LamS X.env.scope scope) (hdef : defaultsOf params X.env = ([], [])) (hbind : ∀ (q : Str) (cl : List (Str × Addr)) (pm cv ctv : Value), bindArgs (PySem.W.kla_fn "<lambda>" q params body scope cl pm cv ctv) ⟨[], []⟩ = pure [])
    (hbody : ∀ (A : Around) (outer : List Env) (s : Shared) (H : Hp) (E : XK) (f c' : Addr), Room k (A.deeper (lamEnv X scope s.heap.objs.size f c')) → PE (lamCx X A outer s H E scope f c') body (t E)) :
    PE X (.Call (.Name "_law_told" p) [.Lambda params body scope lpos] [] pos) (tLam (lamT X.K) (TTold92 X.K) t) := by
  obtain ⟨f, fd, F, g⟩ := T.d__law_told
  obtain ⟨oc, od, dV, kV, doc, pm, an, cdv, ct, osl, rfl, lk, hcd, hD, hK⟩ := F.ex
  have hb := F.bindsN (ps := ["_law_call"]) (fun _ _ _ _ _ _ us hl => match us, hl with | [_], _ => rfl)
  have hq2 : ((He.cT X.K (x, none)).2, X.env.qual ++ ("<lambda>" : Str)) ∈ lamT X.K := List.mem_map.mpr ⟨x, hx, by rw [hq]⟩
  exact pe_lamcall hg g F.kp lk hcd hb sc_told rfl (.inl rfl) (told92 T) (LA.tb x hx) hcode hq2 (fun q hq' e => LA.hu q hq' _ hq2 e) hr L hdef hbind hbody
end
end Fy
/-! Pl -/
/-! whole texts and their lines, plain -/
namespace Fy
open PySem
theorem nl_eq : ("\n" : Str) = mk [10] := by decide +kernel
theorem sp_eq : (" " : Str) = mk [32] := by decide +kernel
theorem em_eq : ("" : Str) = mk [] := by decide +kernel
def whole (zs : List Str) : Str := Txt.join "" (zs.map fun z => z ++ ("\n" : Str))
theorem map_mk (zs : List Str) : zs = (zs.map TL.tl).map mk := by
  induction zs with
  | nil => rfl
  | cons z zs ih =>
    rw [List.map_cons, List.map_cons, ← ih]
theorem tl_whole (zs : List Str) : TL.tl (whole zs) = (zs.map fun z => TL.tl z ++ [10]).flatten := by
  unfold whole
  have e : (zs.map fun z => z ++ ("\n" : Str)) = (zs.map fun z => TL.tl z ++ [10]).map mk := by
    rw [List.map_map]
    refine List.map_congr_left fun z _ => ?_
    exact TL.ext_tl (by rw [TL.tl_append, nl_eq]; rfl)
  rw [e, em_eq, SX.join_S]
  generalize (zs.map fun z => TL.tl z ++ [10]) = ls
  show TL.joinL [] ls = _
  induction ls with
  | nil => rfl
  | cons a r ih =>
    cases r with
    | nil => simp [TL.joinL]
    | cons b r =>
      show a ++ ([] ++ TL.joinL [] (b :: r)) = _
      rw [ih]
      simp
theorem joinL_whole (ls : List (List Nat)) : (ls.map fun l => l ++ [10]).flatten = TL.joinL [10] (ls ++ [[]]) := by
  induction ls with
  | nil => rfl
  | cons a r ih =>
    cases r with
    | nil => simp [TL.joinL]
    | cons b r =>
      rw [List.map_cons, List.flatten_cons, ih]
      show _ = a ++ ([10] ++ TL.joinL [10] (b :: (r ++ [[]])))
      simp
/-- the lines of a whole text -/
theorem split_whole {zs : List Str} (h : ∀ z ∈ zs, 10 ∉ TL.tl z) : Txt.split (whole zs) "\n" = zs ++ [("" : Str)] := by
  have e : whole zs = Txt.join "\n" (zs ++ [("" : Str)]) := by
    refine TL.ext_tl ?_
    rw [tl_whole, TL.join_eq, TL.tl_join, nl_eq]
    have := joinL_whole (zs.map TL.tl)
    rw [List.map_map] at this
    rw [List.map_append]
    exact this
  rw [e]
  refine TL.split_join (s := 10) (S := []) (by rw [nl_eq]) (by decide +kernel) (by simp) fun p hp => ?_
  rcases List.mem_append.mp hp with hp | hp
  · exact h p hp
  · rw [List.mem_singleton.mp hp]
    decide +kernel
/-- .. of a text without its last end of line -/
theorem split_join_nl {zs : List Str} (hne : zs ≠ []) (h : ∀ z ∈ zs, 10 ∉ TL.tl z) : Txt.split (Txt.join "\n" zs) "\n" = zs :=
  TL.split_join (s := 10) (S := []) (by rw [nl_eq]) (by decide +kernel) hne h
theorem split_words {ws : List Str} (hne : ws ≠ []) (h : ∀ z ∈ ws, 32 ∉ TL.tl z) : Txt.split (Txt.join " " ws) " " = ws :=
  TL.split_join (s := 32) (S := []) (by rw [sp_eq]) (by decide +kernel) hne h
/-! the pieces of a text are small -/
theorem spl_small (c : Nat) : ∀ (l acc : List Nat), TL.spl [c] 0 acc l ≠ [] ∧ (TL.spl [c] 0 acc l).length ≤ l.length + 1 ∧ ∀ p ∈ TL.spl [c] 0 acc l, p.length ≤ acc.length + l.length
  | [], acc => ⟨by simp [TL.spl], by simp [TL.spl], fun p hp => by simp [TL.spl] at hp; rw [hp]; simp⟩
  | d :: r, acc => by
    by_cases h : TL.pre [c] (d :: r) = true
    · have e : TL.spl [c] 0 acc (d :: r) = acc :: TL.spl [c] 0 [] r := TL.spl_hit h
      obtain ⟨h1, h2, h3⟩ := spl_small c r []
      rw [e]
      refine ⟨by simp, by simp; omega, fun p hp => ?_⟩
      rcases List.mem_cons.mp hp with rfl | hp
      · omega
      · have := h3 p hp
        simp at this ⊢
        omega
    · have e : TL.spl [c] 0 acc (d :: r) = TL.spl [c] 0 (acc ++ [d]) r := by
        show (if TL.pre [c] (d :: r) = true then _ else _) = _
        rw [if_neg h]
      obtain ⟨h1, h2, h3⟩ := spl_small c r (acc ++ [d])
      rw [e]
      refine ⟨h1, by simp; omega, fun p hp => ?_⟩
      have := h3 p hp
      simp at this ⊢
      omega
theorem split_small (z : Str) : Txt.split z " " ≠ [] ∧ (Txt.split z " ").length ≤ z.length + 1 ∧ ∀ w ∈ Txt.split z " ", w.length ≤ z.length := by
  have e : Txt.split z " " = (TL.spl [32] 0 [] (TL.tl z)).map mk := by
    have := SX.split_S (a := TL.tl z) (b := [32]) (by simp) (by decide)
    rw [sp_eq, ← this]
  obtain ⟨h1, h2, h3⟩ := spl_small 32 (TL.tl z) []
  rw [e]
  have hl : z.length = (TL.tl z).length := TL.len_tl z
  refine ⟨by simpa using h1, by rw [List.length_map, hl]; exact h2, fun w hw => ?_⟩
  obtain ⟨p, hp, rfl⟩ := List.mem_map.mp hw
  rw [mk_len, hl]
  have := h3 p hp
  simpa using this
theorem splitOk {z : Str} {ps : List Str} (h : Txt.split z "\n" = ps) (hz : z.length ≤ 1000000) (hne : ps ≠ []) (hl : ps.length ≤ 1000) (hp : ∀ p ∈ ps, p.length ≤ 600) : SplitOk z := by
  refine ⟨hz, by rw [h]; exact hne, by rw [h]; exact hl, fun row hr => ?_⟩
  rw [h] at hr
  have h1 := hp row hr
  obtain ⟨a, b, c⟩ := split_small row
  exact ⟨by omega, by omega, a, fun w hw => by have := c w hw; omega⟩
/-- lengths -/
theorem sum_le {zs : List Str} {b : Nat} (h : ∀ z ∈ zs, z.length ≤ b) : (zs.map (·.length)).sum ≤ zs.length * b := by
  induction zs with
  | nil => simp
  | cons z zs ih =>
    have h1 := h z (by simp)
    have h2 := ih fun y hy => h y (by simp [hy])
    rw [List.map_cons, List.sum_cons, List.length_cons, Nat.succ_mul]
    omega
theorem len_whole (zs : List Str) : (whole zs).length = (zs.map (·.length)).sum + zs.length := by
  rw [TL.len_tl, tl_whole]
  induction zs with
  | nil => rfl
  | cons z zs ih =>
    rw [List.map_cons, List.flatten_cons, List.length_append, ih, List.map_cons, List.sum_cons, List.length_cons, List.length_append, ← TL.len_tl]
    simp
    omega
/-- what reading makes of the lines -/
def readTL (ps : List Str) : Option Int := readM (fun zs n (s : Option Nat × List (Int × Int × Int)) => takeT zs n s.1 s.2) (fun s => !s.2.isEmpty) (fun s => wrongs s.2) (none, []) ps.dropLast (ps.getLastD "")
def readRL (ps : List Str) : Option Int := readM (fun zs _ (s : Bool) => takeR zs s) (fun s => s) (fun _ => []) false ps.dropLast (ps.getLastD "")
theorem readT_eq {z : Str} {ps : List Str} (h : Txt.split z "\n" = ps) : readT z = readTL ps := by
  unfold readT readTL
  rw [h]
theorem readR_eq {z : Str} {ps : List Str} (h : Txt.split z "\n" = ps) : readR z = readRL ps := by
  unfold readR readRL
  rw [h]
end Fy
/-! Pt -/
/-! tables, plain: what their lines' words are, and how they are taken -/
namespace Fy
open PySem
structure GoodF (n : Nat) (ws : List Str) : Prop where
  ex : ∃ ds : List Str, ws = ("first" : Str) :: ds ∧ ds.length = n ∧ ds.all isTW = true
structure GoodR (n : Nat) (a b : Int) (ws : List Str) : Prop where
  ex : ∃ (sa sb : Str) (da db : List Str), ws = ("place" : Str) :: sa :: (da ++ sb :: db) ∧ da.length = n ∧ db.length = n ∧ da.all isTW = true ∧ db.all isTW = true ∧ isNum sa = true ∧ isNum sb = true ∧ numOf sa = a ∧ numOf sb = b
theorem GoodF.len {n : Nat} {ws : List Str} (h : GoodF n ws) : ws.length = n + 1 := by
  obtain ⟨ds, rfl, h1, _⟩ := h.ex
  simp [h1]
theorem GoodR.len {n : Nat} {a b : Int} {ws : List Str} (h : GoodR n a b ws) : ws.length = 2 * n + 3 := by
  obtain ⟨sa, sb, da, db, rfl, h1, h2, _⟩ := h.ex
  simp
  omega
theorem GoodF.take {n : Nat} {ws : List Str} (h : GoodF n ws) (h1 : 1 ≤ n) (h3 : n ≤ 3) (line : Int) (rows : List (Int × Int × Int)) : takeT ws line none rows = some (some n, rows) := by
  have hl := h.len
  obtain ⟨ds, rfl, e1, e2⟩ := h.ex
  show (if _ then _ else _) = _
  rw [if_pos ⟨rfl, by omega, by omega, e2⟩, hl]
  rfl
theorem GoodR.take {n : Nat} {a b : Int} {ws : List Str} (h : GoodR n a b ws) (line : Int) (rows : List (Int × Int × Int)) (hr : rows.length ≠ 60) : takeT ws line (some n) rows = some (some n, rows ++ [(line, a, b)]) := by
  have hl := h.len
  obtain ⟨sa, sb, da, db, rfl, e1, e2, e3, e4, e5, e6, e7, e8⟩ := h.ex
  have d1 : ((("place" : Str) :: sa :: (da ++ sb :: db)).drop 1).take (n + 1) = sa :: da := by
    show (sa :: (da ++ sb :: db)).take (n + 1) = _
    rw [List.take_succ_cons, ← e1, List.take_left]
  have d2 : (("place" : Str) :: sa :: (da ++ sb :: db)).drop (n + 2) = sb :: db := by
    show (da ++ sb :: db).drop n = _
    rw [← e1, List.drop_left]
  have n2 : nth (("place" : Str) :: sa :: (da ++ sb :: db)) (n + 2) = sb := by
    unfold nth
    show (da ++ sb :: db).getD n "" = sb
    rw [← e1]
    simp
  show (if _ then _ else _) = _
  rw [if_pos ⟨rfl, by omega, hr, by rw [d1]; simp [pieceOk, e3, e5], by rw [d2]; simp [pieceOk, e4, e6]⟩, n2, e8]
  show some (some n, rows ++ [(line, numOf sa, b)]) = _
  rw [e7]
theorem runM_some {S : Type} {step : List Str → Int → S → Option S} {ws : List Str} {r : List (List Str)} {n : Int} {s s' : S} (h : step ws n s = some s') : runM step (ws :: r) n s = runM step r (n + 1) s' := by
  simp only [runM, h]
abbrev stepT : List Str → Int → (Option Nat × List (Int × Int × Int)) → Option (Option Nat × List (Int × Int × Int)) := fun zs n s => takeT zs n s.1 s.2
/-- the rows that are taken, told by their lines -/
def told (line : Int) : List (Int × Int) → List (Int × Int × Int)
  | [] => []
  | x :: r => (line, x.1, x.2) :: told (line + 1) r
theorem told_len (line : Int) (l : List (Int × Int)) : (told line l).length = l.length := by
  induction l generalizing line with
  | nil => rfl
  | cons x r ih => simp [told, ih]
theorem run_rows {n : Nat} : ∀ {abs : List (Int × Int)} {wss : List (List Str)} (line : Int) (rows : List (Int × Int × Int)) (more : List (List Str)), Paired (fun x ws => GoodR n x.1 x.2 ws) abs wss → rows.length + abs.length ≤ 60 →
    runM stepT (wss ++ more) line (some n, rows) = runM stepT more (line + (abs.length : Nat)) (some n, rows ++ told line abs)
  | _, _, line, rows, more, .nil, _ => by simp [told]
  | x :: abs, ws :: wss, line, rows, more, .cons h p, hl => by
    have e : stepT ws line (some n, rows) = some (some n, rows ++ [(line, x.1, x.2)]) := h.take line rows (by simp at hl; omega)
    rw [List.cons_append, runM_some e, run_rows (line + 1) _ more p (by simp at hl ⊢; omega)]
    have e2 : line + 1 + (abs.length : Nat) = line + ((x :: abs).length : Nat) := by simp; omega
    rw [e2]
    simp [told]
theorem run_first {n : Nat} {ws : List Str} (h : GoodF n ws) (h1 : 1 ≤ n) (h3 : n ≤ 3) (more : List (List Str)) : runM stepT (ws :: more) 1 (none, []) = runM stepT more 2 (some n, []) := by
  have e : stepT ws 1 (none, []) = some (some n, []) := h.take h1 h3 1 []
  rw [runM_some e]
  rfl
theorem run_bad {ws : List Str} {line : Int} {s : Option Nat × List (Int × Int × Int)} (h : stepT ws line s = none) (more : List (List Str)) : runM stepT (ws :: more) line s = .error line := by
  simp only [runM, h]
/-- where a table's places lead: the wrong lines -/
theorem wrongs_none {many : Nat} {line : Int} {abs : List (Int × Int)} (hl : abs.length = many) (h : ∀ x ∈ abs, x.1 < many ∧ x.2 < many) : wrongs (told line abs) = [] := by
  unfold wrongs
  rw [told_len, hl]
  have key : ∀ (l : List (Int × Int)) (line : Int), (∀ x ∈ l, x.1 < many ∧ x.2 < many) → (told line l).filter (fun x => decide ((many : Int) ≤ x.2.1) || decide ((many : Int) ≤ x.2.2)) = [] := by
    intro l
    induction l with
    | nil => intro _ _; rfl
    | cons x r ih =>
      intro line h
      have hx := h x (by simp)
      show ((line, x.1, x.2) :: told (line + 1) r).filter _ = []
      rw [List.filter_cons_of_neg (by simp; omega)]
      exact ih _ fun y hy => h y (by simp [hy])
  rw [key abs line h]
  rfl
/-- the first wrong one behind good ones -/
theorem wrongs_head {many : Nat} {line : Int} {abs more : List (Int × Int)} {x : Int × Int} (hl : (abs ++ x :: more).length = many) (h : ∀ y ∈ abs, y.1 < many ∧ y.2 < many) (hx : (many : Int) ≤ x.1 ∨ (many : Int) ≤ x.2) : (wrongs (told line (abs ++ x :: more))).head? = some (line + (abs.length : Nat)) := by
  unfold wrongs
  rw [told_len, hl]
  have key : ∀ (l : List (Int × Int)) (line : Int), (∀ y ∈ l, y.1 < many ∧ y.2 < many) → (((told line (l ++ x :: more)).filter (fun x => decide ((many : Int) ≤ x.2.1) || decide ((many : Int) ≤ x.2.2))).map (·.1)).head? = some (line + (l.length : Nat)) := by
    intro l
    induction l with
    | nil =>
      intro line _
      show ((((line, x.1, x.2) :: told (line + 1) more).filter _).map _).head? = _
      rw [List.filter_cons_of_pos (by simpa using hx)]
      simp
    | cons y r ih =>
      intro line h
      have hy := h y (by simp)
      show ((((line, y.1, y.2) :: told (line + 1) (r ++ x :: more)).filter _).map _).head? = _
      rw [List.filter_cons_of_neg (by simp; omega), ih _ fun z hz => h z (by simp [hz])]
      simp
      omega
  exact key abs line h
end Fy
/-! P60 -/
namespace Fy
open PySem
def F60 : Str := "first 01 -"
def R60 : Str := "place 59 0 - 0 - 1"
def B60 : Str := "place 0 0 - 0 - 1"
theorem split_of {z : Str} (ws : List Str) (hne : ws ≠ []) (h : ∀ y ∈ ws, 32 ∉ TL.tl y) (e : TL.tl z = TL.joinL [32] (ws.map TL.tl)) : Txt.split z " " = ws := by
  have e2 : z = Txt.join " " ws := TL.ext_tl (by rw [TL.join_eq, TL.tl_join, sp_eq]; exact e)
  rw [e2]
  exact split_words hne h
theorem sF60 : Txt.split F60 " " = [("first" : Str), "01", "-"] := split_of _ (by simp) (by decide +kernel) (by decide +kernel)
theorem sR60 : Txt.split R60 " " = [("place" : Str), "59", "0", "-", "0", "-", "1"] := split_of _ (by simp) (by decide +kernel) (by decide +kernel)
theorem sB60 : Txt.split B60 " " = [("place" : Str), "0", "0", "-", "0", "-", "1"] := split_of _ (by simp) (by decide +kernel) (by decide +kernel)
theorem numOf59 : numOf "59" = 59 := by decide +kernel
theorem numOf0 : numOf "0" = 0 := by decide +kernel
theorem gF60 : GoodF 2 [("first" : Str), "01", "-"] := ⟨[("01" : Str), "-"], rfl, rfl, by decide +kernel⟩
theorem gR60 : GoodR 2 59 0 [("place" : Str), "59", "0", "-", "0", "-", "1"] := ⟨("59" : Str), ("0" : Str), [("0" : Str), "-"], [("-" : Str), "1"], rfl, rfl, rfl, by decide +kernel, by decide +kernel, by decide +kernel, by decide +kernel, numOf59, numOf0⟩
theorem paired_rep {α β : Type} {R : α → β → Prop} {a : α} {b : β} (h : R a b) : ∀ n, Paired R (List.replicate n a) (List.replicate n b)
  | 0 => .nil
  | n + 1 => by
    rw [List.replicate_succ, List.replicate_succ]
    exact .cons h (paired_rep h n)
theorem p60 : Paired (fun (x : Int × Int) ws => GoodR 2 x.1 x.2 ws) (List.replicate 60 (59, 0)) (List.replicate 60 [("place" : Str), "59", "0", "-", "0", "-", "1"]) := paired_rep (a := ((59, 0) : Int × Int)) gR60 60
theorem sixty_ok : readTL ((F60 :: List.replicate 60 R60) ++ [("" : Str)]) = none := by
  unfold readTL readM
  rw [List.dropLast_concat]
  have e1 : ((F60 :: List.replicate 60 R60).map fun z => Txt.split z " ") = [("first" : Str), "01", "-"] :: (List.replicate 60 [("place" : Str), "59", "0", "-", "0", "-", "1"] ++ []) := by
    rw [List.map_cons, List.map_replicate, sF60, sR60, List.append_nil]
  rw [e1, run_first gF60 (by decide) (by decide), run_rows (n := 2) (abs := List.replicate 60 (59, 0)) 2 [] [] p60 (by simp)]
  have e2 : (((F60 :: List.replicate 60 R60) ++ [("" : Str)]).getLastD "") = "" := by simp
  rw [e2]
  show (if _ then _ else _) = _
  have hw : wrongs ([] ++ told 2 (List.replicate 60 (59, 0))) = [] := wrongs_none (many := 60) (by simp) (by decide)
  rw [if_neg (by decide +kernel)]
  show (wrongs ([] ++ told 2 (List.replicate 60 (59, 0)))).head? = none
  rw [hw]
  rfl
theorem sixty_more : readTL ((F60 :: List.replicate 60 R60 ++ [B60]) ++ [("" : Str)]) = some 62 := by
  unfold readTL readM
  rw [List.dropLast_concat]
  have e1 : ((F60 :: List.replicate 60 R60 ++ [B60]).map fun z => Txt.split z " ") = [("first" : Str), "01", "-"] :: (List.replicate 60 [("place" : Str), "59", "0", "-", "0", "-", "1"] ++ [[("place" : Str), "0", "0", "-", "0", "-", "1"]]) := by
    rw [List.map_append, List.map_cons, List.map_replicate, sF60, sR60]
    show _ :: _ ++ [Txt.split B60 " "] = _
    rw [sB60]
    rfl
  rw [e1, run_first gF60 (by decide) (by decide), run_rows (n := 2) (abs := List.replicate 60 (59, 0)) 2 [] _ p60 (by simp)]
  have eb : stepT [("place" : Str), "0", "0", "-", "0", "-", "1"] (2 + ((List.replicate 60 ((59, 0) : Int × Int)).length : Nat)) (some 2, [] ++ told 2 (List.replicate 60 (59, 0))) = none := tkS fun z => z.2.2.1 (by simp [told_len])
  rw [run_bad eb]
  rfl
end Fy
/-! L1 -/
namespace Fy
open PySem PySem.Spec PyProof.Rows L2 LamX
section
variable {Z : Ez} {te ta tb : TE} {σ : L2.St} {H : Hp}
theorem er_rep {as : List PT} {k : Int} (ha : Er Z ta σ H (· = .l as)) (hb : Er Z tb σ H (· = .i k)) (h0 : 0 ≤ k) (h1 : k < 2 ^ 40) (hl : as.length * k.toNat ≤ sizeLine) : Er Z (tOp rRep ta tb) σ H (· = .l (List.replicate k.toNat as).flatten) :=
  er_op ha hb fun _ _ x y H1 _ j e1 e2 rx ry Q q => by
    subst e1 e2
    obtain ⟨a, xs, rfl, na, h2, r1⟩ := rx
    have rep : ∀ n : Nat, RepL Z H1 (List.replicate n as).flatten (List.replicate n xs).flatten := fun n => by
      induction n with
      | zero => exact rfl
      | succ n ih =>
        rw [List.replicate_succ, List.replicate_succ, List.flatten_cons, List.flatten_cons]
        exact r1.app ih
    exact ⟨a, k, xs, rfl, ry, h2, by omega, by omega, by rw [r1.length]; exact hl, fun p hp => q _ _ _ (Gr.new hp) (Z.jnew j hp) rfl ⟨p, _, rfl, Z.fresh j hp, upd_same, (rep _).mono (Gr.new hp)⟩⟩
theorem er_neTold {a b : Option Int} (ha : Er Z ta σ H (· = toldP a)) (hb : Er Z tb σ H (· = toldP b)) : Er Z (tOp rNe ta tb) σ H (· = .b (!decide (a = b))) :=
  er_op ha hb fun _ _ x y H1 _ j e1 e2 rx ry Q q => by
    subst e1 e2
    cases a with
    | none =>
      cases b with
      | none =>
        rw [show x = .str "read" from rx, show y = .str "read" from ry]
        exact ⟨rfl, q _ _ H1 Gr.refl j rfl (by show V.bl _ = V.bl _; simp)⟩
      | some m =>
        rw [show x = .str "read" from rx, show y = .int m from ry]
        exact ⟨rfl, q _ _ H1 Gr.refl j rfl (by show V.bl _ = V.bl _; simp)⟩
    | some n =>
      cases b with
      | none =>
        rw [show x = .int n from rx, show y = .str "read" from ry]
        exact ⟨rfl, q _ _ H1 Gr.refl j rfl (by show V.bl _ = V.bl _; simp)⟩
      | some m =>
        rw [show x = .int n from rx, show y = .int m from ry]
        exact ⟨rfl, q _ _ H1 Gr.refl j rfl (by show V.bl _ = V.bl _; simp)⟩
theorem er_eqTold {a b : Option Int} (ha : Er Z ta σ H (· = toldP a)) (hb : Er Z tb σ H (· = toldP b)) : Er Z (tOp rEq ta tb) σ H (· = .b (decide (a = b))) :=
  er_op ha hb fun _ _ x y H1 _ j e1 e2 rx ry Q q => by
    subst e1 e2
    cases a with
    | none =>
      cases b with
      | none =>
        rw [show x = .str "read" from rx, show y = .str "read" from ry]
        exact ⟨rfl, q _ _ H1 Gr.refl j rfl (by show V.bl _ = V.bl _; simp)⟩
      | some m =>
        rw [show x = .str "read" from rx, show y = .int m from ry]
        exact ⟨rfl, q _ _ H1 Gr.refl j rfl (by show V.bl _ = V.bl _; simp)⟩
    | some n =>
      cases b with
      | none =>
        rw [show x = .int n from rx, show y = .str "read" from ry]
        exact ⟨rfl, q _ _ H1 Gr.refl j rfl (by show V.bl _ = V.bl _; simp)⟩
      | some m =>
        rw [show x = .int n from rx, show y = .int m from ry]
        exact ⟨rfl, q _ _ H1 Gr.refl j rfl (by show V.bl _ = V.bl _; simp)⟩
end
section
variable {P : Program} {w : World} {K : PySem.W.Frag} {mg : Str → Option Value} {base : Heap}
/-! whole -/
def pre_whole : Ez → List PT → (PT → Prop) → Prop := fun Z ts P => ∃ zs : List Str, ts = [.l (zs.map PT.s)] ∧ zs.length ≤ 1000 ∧ (∀ z ∈ zs, z.length ≤ 1000) ∧ P (.s (whole zs))
theorem sc__law_whole : FnScope ["_law_sheet", "_law_line"] ["_law_sheet"] (defScope s__law_whole) := ⟨rfl, rfl, rfl, by decide +kernel, rfl, by decide +kernel, by decide +kernel⟩
theorem ok__law_whole (T : Tx K mg) : Has P w K mg base CX0 1 "_law_whole" ["_law_sheet"] (spR K pre_whole) := by
  obtain ⟨f, fd, F, g⟩ := T.d__law_whole
  refine ⟨f, fd, g, F.kp, F.bindsN (ps := ["_law_sheet"]) (fun _ _ _ _ _ _ us hl => match us, hl with | [_], _ => rfl), ?_⟩
  refine F.ok sc__law_whole (fun vs H Q E h => ?_) (fun cdv A outer s H vs Q E hr h => ?_)
  · obtain ⟨Z, ts, P', _, _, rs, ⟨zs, rfl, _⟩, _⟩ := h
    exact rs.length
  · obtain ⟨Z, ts, P', rfl, j, rs, ⟨zs, rfl, hl, hz, hP⟩, k⟩ := h
    obtain ⟨x, _, rfl, rx, rfl⟩ := rs
    refine ⟨_, (pss_one (ps_ret (pe_join pe_str (pe_lc (own := [("_law_line", 1)]) (g := gName 1) (tt := tYes) rfl sc__law_whole.nd (pi_listK (K := Z.K) (pv 0)) (blkOk_by (N := ["_law_sheet", "_law_line"]) (sc := defScope s__law_whole) (by decide +kernel)) (fun _ _ _ _ _ => pg_name (i := 1) sc__law_whole.nd rfl (Or.inl rfl)) (fun _ _ _ _ _ => pts_nil) (fun _ _ _ _ _ => (pe_op op_add_str (pv 1) pe_str)))))), ?_⟩
    have hlen : (zs.map fun z => z ++ ("\n" : Str)).length ≤ 1000 := by rw [List.length_map]; exact hl
    refine z_ret (Er.imp (er_join (sep := "") (ys := fun _ => True) (zs := zs.map fun z => z ++ ("\n" : Str)) er_s (Er.imp (er_lcf (f := fun t => .s (t.str ++ ("\n" : Str))) (ei_listc (er_var rx ?_)) ?_ wipe1 ?_) ?_) ?_) ?_) j k
    · rfl
    · rw [List.length_map]
      exact Nat.le_trans hl (by decide)
    · intro D o t y H1 ht hD g1 r1
      obtain ⟨z, hz1, rfl⟩ := List.mem_map.mp ht
      refine er_catS (er_var r1 ?_) er_s ?_
      · rfl
      · have := hz z hz1
        have h1 : ("\n" : Str).length = 1 := by decide +kernel
        rw [h1]
        exact Nat.le_trans (by omega : z.length + 1 ≤ 1001) (by decide)
    · intro t e
      rw [e, List.map_map, List.map_map]
      rfl
    · have h1 := sum_le (zs := zs.map fun z => z ++ ("\n" : Str)) (b := 1001) fun z hz' => by
        obtain ⟨y, hy, rfl⟩ := List.mem_map.mp hz'
        have h2 : (y ++ ("\n" : Str)).length = y.length + 1 := by rw [TL.len_tl, TL.tl_append, List.length_append, ← TL.len_tl, nl_eq]; rfl
        have := hz y hy
        omega
      have h0 : ("" : Str).length = 0 := by decide +kernel
      rw [h0]
      have h3 : (zs.map fun z => z ++ ("\n" : Str)).length * 1001 ≤ 1000 * 1001 := Nat.mul_le_mul_right _ hlen
      omega
    · intro t e
      rw [e]
      exact hP
/-! sixty_right -/
def pre_sixty (K : PySem.W.Frag) : Ez → List PT → (PT → Prop) → Prop := fun Z ts P => LawZ (lamT K) Z ∧ ts = [] ∧ P (.b true)
theorem sc__law_sixty_right : FnScope ["_law_sheet", "_law_more"] [] (defScope s__law_sixty_right) := ⟨rfl, rfl, rfl, by decide +kernel, rfl, by decide +kernel, by decide +kernel⟩
theorem small60 : ∀ z ∈ (F60 :: List.replicate 60 R60 ++ [B60]), z.length ≤ 100 ∧ 10 ∉ TL.tl z := by
  intro z hz
  have hz : z = F60 ∨ z = R60 ∨ z = B60 := by
    rcases List.mem_append.mp hz with h | h
    · rcases List.mem_cons.mp h with h | h
      · exact .inl h
      · exact .inr (.inl (List.eq_of_mem_replicate h))
    · exact .inr (.inr (List.mem_singleton.mp h))
  rcases hz with rfl | rfl | rfl
  · decide +kernel
  · decide +kernel
  · decide +kernel
theorem whole_ok {zs : List Str} (hl : zs.length ≤ 900) (hz : ∀ z ∈ zs, z.length ≤ 600 ∧ 10 ∉ TL.tl z) : SplitOk (whole zs) ∧ readT (whole zs) = readTL (zs ++ [("" : Str)]) ∧ readR (whole zs) = readRL (zs ++ [("" : Str)]) := by
  have e := split_whole fun z h => (hz z h).2
  refine ⟨splitOk e ?_ (by simp) (by rw [List.length_append]; simp; omega) fun p hp => ?_, readT_eq e, readR_eq e⟩
  · rw [len_whole]
    have := sum_le (zs := zs) (b := 600) fun z h => (hz z h).1
    have h2 : zs.length * 600 ≤ 900 * 600 := Nat.mul_le_mul_right _ hl
    omega
  · rcases List.mem_append.mp hp with h | h
    · exact (hz p h).1
    · rw [List.mem_singleton.mp h]
      decide +kernel
theorem ok__law_sixty_right (T : Tx K mg) (PA : PartsAt w K mg) (LA : LamAt base K mg) : Has P w K mg base CX0 20 "_law_sixty_right" [] (spR K (pre_sixty K)) := by
  obtain ⟨f, fd, F, g⟩ := T.d__law_sixty_right
  have ef := T.x_ga "_law_sixty_right" (by simp) f g
  subst ef
  refine ⟨_, fd, g, F.kp, F.bindsN (ps := []) (fun _ _ _ _ _ _ us hl => match us, hl with | [], _ => rfl), ?_⟩
  refine okC F sc__law_sixty_right (fun vs H Q E h => ?_) (fun A outer s H vs Q E hr h => ?_)
  · obtain ⟨Z, ts, P', _, _, rs, ⟨_, rfl, _⟩, _⟩ := h
    exact rs.length
  · obtain ⟨Z, ts, P', rfl, j, rs, ⟨hz, rfl, hP⟩, k⟩ := h
    have evs : vs = [] := rs
    subst evs
    refine ⟨_, (pss_cons (ps_set (i := 0) sc__law_sixty_right.nd rfl (Or.inr rfl) (pe_op op_cat (pe_lst (pa_cons pe_str pa_nil)) (pe_op op_rep (pe_lst (pa_cons pe_str pa_nil)) pe_int)))
      (pss_cons (ps_if (pt_cmpR op_ne (pe_told (x := "_law_sixty_right") (k := 17) T LA (by simp [lamNames]) rfl rfl (by rfl) (hr.mono (by decide)) (lamS_by (sc := defScope s__law_sixty_right) (by decide +kernel)) (by rfl) (fun _ _ _ _ _ => rfl) (fun A outer s H E f c' hr => (pe_has (ok_read_table T PA) (hr.mono (by decide)) (passes_call (takes_of rfl rfl rfl rfl) (fun _ _ _ _ h => h)) (pa_cons (pe_has (ok__law_whole T) (hr.mono (by decide)) pass0 (pa_cons (pv 0) pa_nil)) pa_nil)))) pe_str (nomark _)) (pss_one (ps_ret pe_bl)) pss_nil)
      (pss_cons (ps_set (i := 1) sc__law_sixty_right.nd rfl (Or.inr rfl) (pe_has (ok__law_whole T) (hr.mono (by decide)) pass0 (pa_cons (pe_op op_cat (pv 0) (pe_lst (pa_cons pe_str pa_nil))) pa_nil)))
      (pss_one (ps_ret (pe_cmpR op_eq (pe_told (x := "_law_sixty_right") (k := 17) T LA (by simp [lamNames]) rfl rfl (by rfl) (hr.mono (by decide)) (lamS_by (sc := defScope s__law_sixty_right) (by decide +kernel)) (by rfl) (fun _ _ _ _ _ => rfl) (fun A outer s H E f c' hr => (pe_has (ok_read_table T PA) (hr.mono (by decide)) (passes_call (takes_of rfl rfl rfl rfl) (fun _ _ _ _ h => h)) (pa_cons (pv 1) pa_nil)))) pe_int (nomark _))))))), ?_⟩
    have s1 := whole_ok (zs := F60 :: List.replicate 60 R60) (by simp) fun z h => ⟨Nat.le_trans (small60 z (List.mem_append_left _ h)).1 (by decide), (small60 z (List.mem_append_left _ h)).2⟩
    have s2 := whole_ok (zs := F60 :: List.replicate 60 R60 ++ [B60]) (by simp) fun z h => ⟨Nat.le_trans (small60 z h).1 (by decide), (small60 z h).2⟩
    refine zq_asg (er_catc (as := [.s F60]) (bs := (List.replicate 60 [PT.s R60]).flatten) (er_lstc (ea_c er_s ea_nil)) (Er.imp (er_rep (er_lstc (ea_c er_s ea_nil)) er_i (by decide) (by decide) (by decide)) fun t e => e) (by decide)) j fun t v H1 g1 j1 e r => ?_
    have es : [PT.s F60] ++ (List.replicate 60 [PT.s R60]).flatten = (F60 :: List.replicate 60 R60).map PT.s := by simp
    rw [es] at e
    subst e
    have rd1 : ∀ {σ : L2.St} {H2 : Hp}, σ[0]? = some (some v) → Gr Z H1 H2 → Er Z (tVar 0) σ H2 (· = .l ((F60 :: List.replicate 60 R60).map PT.s)) := fun h g => er_var (r.mono g) h
    refine zq_when (b := false) (Eb.imp (eb_test (er_neTold (a := none) (b := none) (Er.imp (er_told hz (z := whole (F60 :: List.replicate 60 R60)) (er_call rfl (ea_1 (rd1 ?_ Gr.refl)) ?_) s1.1) ?_) (er_c fun _ => rfl))) ?_) j1 (fun z => (by cases z)) fun _ H2 g2 j2 => ?_
    · rfl
    · rintro ts ⟨t, rfl, rfl⟩
      exact ⟨_, rfl, by simp, fun z h => Nat.le_trans (small60 z (List.mem_append_left _ h)).1 (by decide), rfl⟩
    · intro t e
      rw [e, s1.2.1, sixty_ok]
    · intro b e
      rw [e]
      rfl
    · refine zq_asg (er_call (S := (· = .s (whole (F60 :: List.replicate 60 R60 ++ [B60])))) rfl (ea_1 (er_catc (as := (F60 :: List.replicate 60 R60).map PT.s) (bs := [.s B60]) (rd1 ?_ g2) (er_lstc (ea_c er_s ea_nil)) (by decide))) ?_) j2 fun t v3 H3 g3 j3 e r3 => ?_
      · rfl
      · rintro ts ⟨t, rfl, rfl⟩
        exact ⟨F60 :: List.replicate 60 R60 ++ [B60], by simp, by simp, fun z h => Nat.le_trans (small60 z h).1 (by decide), rfl⟩
      · subst e
        refine z_ret (er_eqTold (a := some 62) (b := some 62) (Er.imp (er_told hz (z := whole (F60 :: List.replicate 60 R60 ++ [B60])) (er_var r3 ?_) s2.1) ?_) (er_c fun _ => rfl)) j3 fun t v4 H4 g4 j4 e r4 => ?_
        · rfl
        · intro t e
          rw [e, s2.2.1, sixty_more]
        · subst e
          exact k _ v4 H4 (((g1.trans g2).trans g3).trans g4) j4 hP r4
end
end Fy
/-! L2x -/
namespace Fy
open PySem PySem.Spec PyProof.Rows L2 LamX
def PotAt (H : Hp) (p : Addr) : Prop := ∃ b m : Int, H p = some (.lst [.int b, .int m]) ∧ 0 ≤ b ∧ 0 ≤ m ∧ m < 2 ^ 32
structure HasPot (Z : Ez) (p : Addr) : Prop where
  m : Z.M p
  at_ : ∀ H, Z.J H → PotAt H p
  put : ∀ H (b m : Int), Z.J H → 0 ≤ b → 0 ≤ m → m < 2 ^ 32 → Z.J (upd H p (.lst [.int b, .int m]))
theorem HasPot.acc {Z : Ez} {p D : Addr} {o : HO} (h : HasPot Z p) (hD : D ≠ p) : HasPot (Z.acc D o) p where
  m := .inr h.m
  at_ := fun H j => h.at_ H j.1
  put := fun H b m j h1 h2 h3 => ⟨h.put H b m j.1 h1 h2 h3, by rw [upd_ne hD]; exact j.2⟩
section
variable {P : Program} {w : World} {K : PySem.W.Frag} {mg : Str → Option Value} {base : Heap}
def pre_draw : Ez → List PT → (PT → Prop) → Prop := fun Z ts P => ∃ p sides, HasPot Z p ∧ ts = [.r p, .i sides] ∧ 0 < sides ∧ sides ≤ 1000 ∧ ∀ d, 0 ≤ d → d < sides → P (.i d)
theorem sc__law_draw : FnScope ["_law_pot_here", "_law_sides", "_law_digit"] ["_law_pot_here", "_law_sides"] (defScope s__law_draw) := ⟨rfl, rfl, rfl, by decide +kernel, rfl, by decide +kernel, by decide +kernel⟩
theorem ok__law_draw (T : Tx K mg) : Has P w K mg base CX0 1 "_law_draw" ["_law_pot_here", "_law_sides"] (spR K pre_draw) := by
  obtain ⟨f, fd, F, g⟩ := T.d__law_draw
  refine ⟨f, fd, g, F.kp, F.bindsN (ps := ["_law_pot_here", "_law_sides"]) (fun _ _ _ _ _ _ us hl => match us, hl with | [_, _], _ => rfl), ?_⟩
  refine F.ok sc__law_draw (fun vs H Q E h => ?_) (fun cdv A outer s H vs Q E hr h => ?_)
  · obtain ⟨Z, ts, P', _, _, rs, ⟨p, n, _, rfl, _⟩, _⟩ := h
    exact rs.length
  · obtain ⟨Z, ts, P', rfl, j, rs, ⟨p, n, hpot, rfl, hn0, hn1, hP⟩, k⟩ := h
    obtain ⟨x, _, rfl, rx, y, _, rfl, ry, rfl⟩ := rs
    have ex : x = .ref p := rx
    have ey : y = .int n := ry
    subst ex ey
    obtain ⟨b, m, hp, hb, hm, hm2⟩ := hpot.at_ H j
    refine ⟨_, (pss_cons (ps_if (pt_cmpR op_gt (pe_ix (r := rIxL Z.K) ix_list (pv 0) pe_int (fun _ _ => rfl)) pe_int (nomark _)) (pss_cons (ps_asg (pe_callB call_divmod (by rfl) T.n_divmod b_divmod (pa_cons (pe_ix (r := rIxL Z.K) ix_list (pv 0) pe_int (fun _ _ => rfl)) (pa_cons (pv 1) pa_nil))) (pg_tup rfl (pgs_cons (pg_sub (pv 0) pe_int set_list) (pgs_cons (pg_name (i := 2) sc__law_draw.nd rfl (Or.inl rfl)) pgs_nil))))
      (pss_one (ps_ret (pv 2)))) pss_nil)
      (pss_cons (ps_asg (pe_op op_mod (pe_callTy call_int1 (by rfl) T.n_int b_int (pa_cons (pe_op op_add (pe_op op_mul (pe_ix (r := rIxL Z.K) ix_list (pv 0) pe_int (fun _ _ => rfl)) pe_int) pe_int) pa_nil)) pe_int) (pg_sub (pv 0) pe_int set_list))
      (pss_one (ps_ret (pe_op op_mod (pe_callTy call_int1 (by rfl) T.n_int b_int (pa_cons (pe_op op_fdiv (pe_op op_mod (pe_callTy call_int1 (by rfl) T.n_int b_int (pa_cons (pe_op op_mul (pe_ix (r := rIxL Z.K) ix_list (pv 0) pe_int (fun _ _ => rfl)) (pe_ix (r := rIxL Z.K) ix_list (pv 0) pe_int (fun _ _ => rfl))) pa_nil)) pe_int) pe_int) pa_nil)) (pv 1)))))), ?_⟩
    refine ⟨_, rfl, p, _, 0, _, rfl, rfl, SqL.of hp, at0, _, _, rfl, rfl, _, rfl, ?_⟩
    by_cases hb0 : 0 < b
    · rw [decide_eq_true hb0]
      refine iteT ?_
      refine ⟨_, rfl, p, _, 0, _, rfl, rfl, SqL.of hp, at0, _, rfl, _, _, rfl, ⟨hn0, by omega⟩, fun q hq => ?_⟩
      have npq : p ≠ q := ne_of_none hp hq
      refine ⟨q, _, rfl, SqT.of upd_same, rfl, _, _, rfl, ?_⟩
      refine ⟨_, rfl, p, _, 0, 0, rfl, rfl, by rw [upd_ne npq]; exact hp, rfl, _, _, rfl, rfl, ?_⟩
      refine ⟨_, rfl, ?_⟩
      have hd := Int.ediv_nonneg hb (Int.le_of_lt hn0)
      refine k _ _ _ ((Gr.new hq).trans (Gr.mut hpot.m)) (hpot.put _ _ _ (Z.jnew j hq) hd hm hm2) (hP _ (Int.emod_nonneg _ (by omega)) (Int.emod_lt_of_pos _ hn0)) rfl
    · rw [decide_eq_false hb0]
      refine iteF ?_
      have at1 : ∀ {c d : V}, atI [c, d] 1 = some d := atI_nat (j := 1) rfl
      have mulOk : ∀ {i k : Int}, 0 ≤ i → i < 2 ^ 32 → CMul i k := fun h1 h2 => .inl ⟨by omega, by omega⟩
      refine ⟨_, rfl, p, _, 1, _, rfl, rfl, SqL.of hp, at1, _, _, rfl, rfl, mulOk hm hm2, _, _, rfl, rfl, .inl ⟨_, rfl, _, _, rfl, rfl, (show (0 : Int) < 2147483587 by decide), ?_⟩⟩
      refine ⟨_, rfl, p, _, 1, 1, rfl, rfl, hp, rfl, ?_⟩
      have hM0 : 0 ≤ (m * 48271 + 5039) % 2147483587 := Int.emod_nonneg _ (by decide)
      have hM1 : (m * 48271 + 5039) % 2147483587 < 2147483587 := Int.emod_lt_of_pos _ (by decide)
      have hp2 : upd H p (.lst ([V.int b, V.int m].set 1 (V.int ((m * 48271 + 5039) % 2147483587)))) p = some (.lst [.int b, .int ((m * 48271 + 5039) % 2147483587)]) := upd_same
      refine ⟨_, rfl, p, _, 1, _, rfl, rfl, SqL.of hp2, at1, _, rfl, p, _, 1, _, rfl, rfl, SqL.of hp2, at1, _, _, rfl, rfl, mulOk hM0 (by omega), .inl ⟨_, rfl, _, _, rfl, rfl, (show (0 : Int) < 2147483549 by decide), _, _, rfl, rfl, ⟨(show (0 : Int) < 17 by decide), (show (17 : Int) < 1073741824 by decide)⟩, .inl ⟨_, rfl, _, rfl, _, _, rfl, rfl, hn0, ?_⟩⟩⟩
      exact k _ _ _ (Gr.mut hpot.m) (hpot.put _ _ _ j hb hM0 (by omega)) (hP _ (Int.emod_nonneg _ (by omega)) (Int.emod_lt_of_pos _ hn0)) rfl
/-! pick -/
def pre_pick : Ez → List PT → (PT → Prop) → Prop := fun Z ts P => ∃ p as, HasPot Z p ∧ ts = [.r p, .l as] ∧ as ≠ [] ∧ as.length ≤ 1000 ∧ ∀ t ∈ as, P t
theorem sc__law_pick : FnScope ["_law_pot_here", "_law_some"] ["_law_pot_here", "_law_some"] (defScope s__law_pick) := ⟨rfl, rfl, rfl, by decide +kernel, rfl, by decide +kernel, by decide +kernel⟩
theorem er_draw {Z : Ez} {ta tb : TE} {σ : L2.St} {H : Hp} {E : XK} {p : Addr} {n : Int} (hpot : HasPot Z p) (ha : Er Z ta σ H (· = .r p)) (hb : Er Z tb σ H (· = .i n)) (h0 : 0 < n) (h1 : n ≤ 1000) :
    Er Z (tCall (spR Z.K pre_draw) [] E (tCons ta (tCons tb tNil))) σ H (fun t => ∃ d : Int, t = .i d ∧ 0 ≤ d ∧ d < n) :=
  er_call rfl (ea_2 ha hb) fun ts ⟨t, u, e, e1, e2⟩ => by
    subst e1 e2
    exact ⟨p, n, hpot, e, h0, h1, fun d h2 h3 => ⟨d, rfl, h2, h3⟩⟩
/-- an item, the place not told ahead -/
theorem er_ixAny {Z : Ez} {ta tb : TE} {σ : L2.St} {H : Hp} {as : List PT} (ha : Er Z ta σ H (· = .l as)) (hb : Er Z tb σ H (fun t => ∃ d : Int, t = .i d ∧ 0 ≤ d ∧ d < as.length)) : Er Z (tOp (rIxL Z.K) ta tb) σ H (fun t => t ∈ as) :=
  er_op ha hb fun _ _ x y H1 _ j e1 ⟨d, e2, h0, h1⟩ rx ry Q q => by
    subst e1 e2
    obtain ⟨a, xs, rfl, na, h2, r1⟩ := rx
    obtain ⟨k, rfl⟩ := Int.eq_ofNat_of_zero_le h0
    have hk : k < as.length := by omega
    obtain ⟨v, hv, rv⟩ := r1.get (i := k) (t := as[k]) (by simp [hk])
    exact ⟨a, xs, k, v, rfl, ry, SqL.of h2, by unfold atI; rw [r1.length, Evl.ixN_nat hk]; exact hv, q _ v H1 Gr.refl j (List.getElem_mem hk) rv⟩
theorem ok__law_pick (T : Tx K mg) : Has P w K mg base CX0 2 "_law_pick" ["_law_pot_here", "_law_some"] (spR K pre_pick) := by
  obtain ⟨f, fd, F, g⟩ := T.d__law_pick
  refine ⟨f, fd, g, F.kp, F.bindsN (ps := ["_law_pot_here", "_law_some"]) (fun _ _ _ _ _ _ us hl => match us, hl with | [_, _], _ => rfl), ?_⟩
  refine F.ok sc__law_pick (fun vs H Q E h => ?_) (fun cdv A outer s H vs Q E hr h => ?_)
  · obtain ⟨Z, ts, P', _, _, rs, ⟨p, n, _, rfl, _⟩, _⟩ := h
    exact rs.length
  · obtain ⟨Z, ts, P', rfl, j, rs, ⟨p, as, hpot, rfl, hne, hl, hP⟩, k⟩ := h
    obtain ⟨x, _, rfl, rx, y, _, rfl, ry, rfl⟩ := rs
    refine ⟨_, (pss_one (ps_ret (pe_ix (r := rIxL Z.K) ix_list (pv 1) (pe_has (ok__law_draw T) (hr.mono (by decide)) pass0 (pa_cons (pv 0) (pa_cons (pe_callB (r := rLenSq Z.K) call_lenK (by rfl) T.n_len boot_len (pa_cons (pv 1) pa_nil)) pa_nil))) (fun _ _ => rfl)))), ?_⟩
    have h0 : 0 < as.length := List.length_pos_iff.mpr hne
    refine z_ret (er_ixAny (er_var ry ?_) (er_draw hpot (er_var rx ?_) (er_lenL (er_var ry ?_)) (by omega) (by omega))) j fun t v H1 g1 j1 m r => k t v H1 g1 j1 (hP t m) r
    · rfl
    · rfl
    · rfl
theorem er_pick {Z : Ez} {ta tb : TE} {σ : L2.St} {H : Hp} {E : XK} {p : Addr} {as : List PT} (hpot : HasPot Z p) (ha : Er Z ta σ H (· = .r p)) (hb : Er Z tb σ H (· = .l as)) (h0 : as ≠ []) (h1 : as.length ≤ 1000) :
    Er Z (tCall (spR Z.K pre_pick) [] E (tCons ta (tCons tb tNil))) σ H (fun t => t ∈ as) :=
  er_call rfl (ea_2 ha hb) fun ts ⟨t, u, e, e1, e2⟩ => by
    subst e1 e2
    exact ⟨p, as, hpot, e, h0, h1, fun t h => h⟩
/-! dash -/
def dash (z : Str) : Str := if z = "" then "-" else z
def pre_dash : Ez → List PT → (PT → Prop) → Prop := fun Z ts P => ∃ z, ts = [.s z] ∧ P (.s (dash z))
theorem sc__law_dash : FnScope ["_law_note"] ["_law_note"] (defScope s__law_dash) := ⟨rfl, rfl, rfl, by decide +kernel, rfl, by decide +kernel, by decide +kernel⟩
theorem ok__law_dash (T : Tx K mg) : Has P w K mg base CX0 1 "_law_dash" ["_law_note"] (spR K pre_dash) := by
  obtain ⟨f, fd, F, g⟩ := T.d__law_dash
  refine ⟨f, fd, g, F.kp, F.bindsN (ps := ["_law_note"]) (fun _ _ _ _ _ _ us hl => match us, hl with | [_], _ => rfl), ?_⟩
  refine F.ok sc__law_dash (fun vs H Q E h => ?_) (fun cdv A outer s H vs Q E hr h => ?_)
  · obtain ⟨Z, ts, P', _, _, rs, ⟨z, rfl, _⟩, _⟩ := h
    exact rs.length
  · obtain ⟨Z, ts, P', rfl, j, rs, ⟨z, rfl, hP⟩, k⟩ := h
    obtain ⟨x, _, rfl, rx, rfl⟩ := rs
    refine ⟨_, (pss_one (ps_ret (pe_ifExp (pt_cmpR op_ne (pv 0) pe_str (nomark _)) (pv 0) pe_str))), ?_⟩
    refine z_ret (er_if (P := (· = .s (dash z))) (eb_test (er_neS (er_var rx ?_) er_s)) (fun c => Er.imp (er_var rx ?_) fun t e => ?_) (fun c => Er.imp er_s fun t e => ?_)) j fun t v H1 g1 j1 e r => k t v H1 g1 j1 (by rw [e]; exact hP) r
    · rfl
    · rfl
    · rw [e]
      unfold dash
      rw [if_neg (by simpa using c)]
    · rw [e]
      unfold dash
      rw [if_pos (by simpa using c)]
theorem er_dash {Z : Ez} {ta : TE} {σ : L2.St} {H : Hp} {E : XK} {z : Str} (ha : Er Z ta σ H (· = .s z)) : Er Z (tCall (spR Z.K pre_dash) [] E (tCons ta tNil)) σ H (· = .s (dash z)) :=
  er_call rfl (ea_1 ha) fun ts ⟨t, e, e1⟩ => by
    subst e1
    exact ⟨z, e, rfl⟩
end
end Fy
/-! Lo -/
/-! loops over trees -/
namespace Fy
open PySem PySem.Spec PyProof.Rows L2 LamX
theorem z_for0 {Z0 Z : Ez} (eK : Z0.K = Z.K) (eM : ∀ a, Z0.M a ↔ Z.M a) (eJ : ∀ H, Z0.J H → Z.J H) {wi : TI} {g : TG} {tb : TS} {σ : L2.St} {H : Hp} {dn : Ends} {P : List PT → Prop} (I : List PT → Nat → L2.St → Hp → Prop) (hi : Ei Z0 wi σ H P) (j : Z0.J H)
    (h0 : ∀ ts H1, Gr Z0 H H1 → Z0.J H1 → P ts → I ts 0 σ H1)
    (hs : ∀ ts i t x σ' H', P ts → ts[i]? = some t → Gr Z H H' → Z.J H' → Rep Z H' t x → I ts i σ' H' → ∀ N : L2.St → Hp → Prop, (∀ σ3 H3, Gr Z H' H3 → Z.J H3 → I ts (i + 1) σ3 H3 → N σ3 H3) → g x σ' H' fun σ'' H'' => tb { dn with nx := N, ct := N, bk := dn.nx } σ'' H'')
    (hk : ∀ ts σ' H', P ts → Gr Z H H' → Z.J H' → I ts ts.length σ' H' → dn.nx σ' H') : tFor wi g tb dn σ H := by
  refine hi H Gr.refl j _ fun J ts vs H1 g10 j10 p rs0 S0 => ?_
  have cg : ∀ {a b}, Gr Z0 a b → Gr Z a b := fun g x o h n t => g x o h (fun z => n ((eM x).mp z)) t
  have gc : ∀ {a b}, Gr Z a b → Gr Z0 a b := fun g x o h n t => g x o h (fun z => n ((eM x).mpr z)) t
  have g1 : Gr Z H H1 := cg g10
  have j1 : Z.J H1 := eJ _ j10
  have rs : RepL Z H1 ts vs := RepL.conv (Z := Z0) (Z' := Z) eK.symm (fun a m => (eM a).mpr m) rs0
  have S : SteadyG (Gr Z) J vs H1 := ⟨fun i H g l => S0.go i H (gc g) l, fun i H x H' g l y => S0.yld i H x H' (gc g) l y, fun H g => S0.stop H (gc g)⟩
  have hl : vs.length = ts.length := rs.length
  refine ⟨fun i m σ' H' => m = ts.length - i ∧ i ≤ ts.length ∧ Gr Z H1 H' ∧ Z.J H' ∧ I ts i σ' H', ⟨ts.length, by omega, by omega, Gr.refl, j1, h0 ts H1 g10 j10 p⟩, ?_⟩
  rintro i m σ' H' ⟨rfl, hi', g', j', inv⟩
  by_cases hlt : i < ts.length
  · refine .inr ⟨S.go i H' g' (by omega), fun σ3 H3 => i + 1 ≤ ts.length ∧ Gr Z H1 H3 ∧ Z.J H3 ∧ I ts (i + 1) σ3 H3, fun σ3 H3 h => ⟨ts.length - (i + 1), by omega, rfl, h⟩, fun x H2 y => ?_⟩
    obtain ⟨e, hx⟩ := S.yld i H' x H2 g' (by omega) y
    subst e
    obtain ⟨t, ht, rt⟩ := rs.get' hx
    exact hs ts i t x σ' H2 p ht (g1.trans g') j' (rt.mono g') inv _ fun σ3 H3 g3 j3 i3 => ⟨by omega, g'.trans g3, j3, i3⟩
  · have e : i = ts.length := by omega
    subst e
    exact .inl ⟨by rw [← hl]; exact S.stop H' g', hk ts σ' H' p (g1.trans g') j' inv⟩
theorem z_for {Z : Ez} {wi : TI} {g : TG} {tb : TS} {σ : L2.St} {H : Hp} {dn : Ends} {P : List PT → Prop} (I : List PT → Nat → L2.St → Hp → Prop) (hi : Ei Z wi σ H P) (j : Z.J H)
    (h0 : ∀ ts H1, Gr Z H H1 → Z.J H1 → P ts → I ts 0 σ H1)
    (hs : ∀ ts i t x σ' H', P ts → ts[i]? = some t → Gr Z H H' → Z.J H' → Rep Z H' t x → I ts i σ' H' → ∀ N : L2.St → Hp → Prop, (∀ σ3 H3, Gr Z H' H3 → Z.J H3 → I ts (i + 1) σ3 H3 → N σ3 H3) → g x σ' H' fun σ'' H'' => tb { dn with nx := N, ct := N, bk := dn.nx } σ'' H'')
    (hk : ∀ ts σ' H', P ts → Gr Z H H' → Z.J H' → I ts ts.length σ' H' → dn.nx σ' H') : tFor wi g tb dn σ H := z_for0 (Z0 := Z) rfl (fun _ => Iff.rfl) (fun _ h => h) I hi j h0 hs hk
/-! a list under the hand: something is there, what is not told -/
def Ez.accE (Z : Ez) (D : Addr) : Ez where
  K := Z.K
  M := fun a => a = D ∨ Z.M a
  J := fun H => Z.J H ∧ ∃ ys, H D = some (.lst ys)
  jm := fun {H H'} h k => ⟨Z.jm h.1 fun a u e m => k a u e (m.elim (fun m => .inl (.inr m)) .inr), h.2.elim fun ys e => ⟨ys, k D _ e (.inl (.inl rfl))⟩⟩
  jd := fun {H a} h m => by
    rcases m with rfl | m
    · obtain ⟨ys, e⟩ := h.2
      exact ⟨_, e⟩
    · exact Z.jd h.1 m
theorem accE_gr {Z : Ez} {D : Addr} {o : HO} {H H' : Hp} (g : Gr (Z.acc D o) H H') : Gr (Z.accE D) H H' := g
theorem gr_accE {Z : Ez} {D : Addr} {o : HO} {H H' : Hp} (g : Gr (Z.accE D) H H') : Gr (Z.acc D o) H H' := g
theorem rep_accE {Z : Ez} {D : Addr} {o : HO} {H : Hp} {t : PT} {v : V} (h : Rep (Z.acc D o) H t v) : Rep (Z.accE D) H t v := Rep.conv (Z := Z.acc D o) (Z' := Z.accE D) rfl (fun _ m => m) h
theorem accE_rep {Z : Ez} {D : Addr} {o : HO} {H : Hp} {t : PT} {v : V} (h : Rep (Z.accE D) H t v) : Rep (Z.acc D o) H t v := Rep.conv (Z := Z.accE D) (Z' := Z.acc D o) rfl (fun _ m => m) h
theorem repL_accE {Z : Ez} {D : Addr} {o : HO} {H : Hp} {t : List PT} {v : List V} (h : RepL (Z.acc D o) H t v) : RepL (Z.accE D) H t v := RepL.conv (Z := Z.acc D o) (Z' := Z.accE D) rfl (fun _ m => m) h
theorem accE_repL {Z : Ez} {D : Addr} {o : HO} {H : Hp} {t : List PT} {v : List V} (h : RepL (Z.accE D) H t v) : RepL (Z.acc D o) H t v := RepL.conv (Z := Z.accE D) (Z' := Z.acc D o) rfl (fun _ m => m) h
theorem accE_j {Z : Ez} {D : Addr} {ys : List V} {H : Hp} (j : (Z.acc D (.lst ys)).J H) : (Z.accE D).J H := ⟨j.1, ys, j.2⟩
theorem Gr.unaccE {Z : Ez} {D : Addr} {H1 H H' : Hp} (hD : Fresh H1 D) (g : Gr Z H1 H) (g2 : Gr (Z.accE D) H H') : Gr Z H1 H' := Gr.unacc (o := .lst []) hD g g2
theorem repL_unaccE {Z : Ez} {D : Addr} {H : Hp} {t : List PT} {v : List V} (h : RepL (Z.accE D) H t v) : RepL Z H t v := RepL.unacc (accE_repL (o := .lst []) h)
theorem Gr.putaccE {Z : Ez} {D : Addr} {u : HO} {H : Hp} : Gr (Z.accE D) H (upd H D u) := Gr.mut (.inl rfl)
/-- xs.append(e): the list at D -/
theorem z_append {Z : Ez} {te : TE} {σ : L2.St} {H : Hp} {R : PT → Prop} {D : Addr} {d : Nat} {ys : List V} {us : List PT} {dn : Ends} (hd : σ[d]? = some (some (.ref D))) (j : (Z.accE D).J H) (nM : ¬ Z.M D) (hy : H D = some (.lst ys)) (hu : RepL (Z.accE D) H us ys) (hl : ys.length ≤ 10000)
    (he : ∀ o, (Z.acc D o).J H → Er (Z.acc D o) te σ H R)
    (k : ∀ u v H2, Gr (Z.accE D) H H2 → (Z.accE D).J H2 → R u → H2 D = some (.lst (ys ++ [v])) → RepL (Z.accE D) H2 (us ++ [u]) (ys ++ [v]) → dn.nx σ H2) :
    tDrop (tBM Z.K "list" rAppend (tVar d) (tCons te tNil)) dn σ H := by
  have jj : (Z.acc D (.lst ys)).J H := ⟨j.1, hy⟩
  refine ⟨_, hd, Or.inl ⟨rfl, _, SqL.of hy⟩, ?_⟩
  refine he _ jj H Gr.refl jj _ fun t v H2 g2 j2 p r => ?_
  refine ⟨D, ys, v, rfl, rfl, j2.2, Nat.lt_of_le_of_lt hl (by decide), ?_⟩
  have g3 : Gr (Z.acc D (.lst ys)) H (upd H2 D (.lst (ys ++ [v]))) := g2.trans Gr.putacc
  refine k t v _ g3 ⟨Z.jn nM (.inr ⟨_, j2.2⟩) j2.1, _, upd_same⟩ p upd_same ?_
  exact RepL.app (repL_accE ((accE_repL hu).mono g3)) (RepL.one (rep_accE (r.mono Gr.putacc)))
/-- a comprehension, the target a name; what stays true at each turn told too -/
theorem er_lcJ {Z : Ez} {wi : TI} {j : Nat} {te : TE} {vs : List Nat} {σ : L2.St} {H : Hp} {P : List PT → Prop} {R : PT → PT → Prop} (hi : Ei Z wi σ H P) (hl : ∀ ts, P ts → ts.length ≤ sizeLine) (hw : ∀ x, wipe ((wipe σ vs).set j (some x)) vs = wipe σ vs)
    (he : ∀ ts D o t x H1, P ts → t ∈ ts → Fresh H D → Gr Z H H1 → (Z.acc D o).J H1 → Rep (Z.acc D o) H1 t x → Er (Z.acc D o) te ((wipe σ vs).set j (some x)) H1 (R t)) :
    Er Z (tLc wi (gName j) tYes te vs) σ H (fun t => ∃ ts us, P ts ∧ t = .l us ∧ Paired R ts us) :=
  (er_lcF (f := fun _ => true) hi hl fun ts D o t x H1 Kt p m hD g j r k => k _ (hw x) (fun H2 g2 j2 Q q => q true H2 Gr.refl j2 rfl) fun _ => he ts D o t x H1 p m hD g j r).imp fun t ⟨ts, us, p, e, h⟩ => ⟨ts, us, p, e, by rwa [filter_yes] at h⟩
theorem HasPot.fresh {Z : Ez} {p D : Addr} {o : HO} {H : Hp} (h : HasPot Z p) (j : Z.J H) (hD : Fresh H D) : HasPot (Z.acc D o) p := h.acc fun e => by
  obtain ⟨b, m, hp, _⟩ := h.at_ H j
  rw [← e] at hp
  obtain ⟨ps, q⟩ := hD _ hp
  cases q
theorem zq_asgG {Z : Ez} {te : TE} {g : TG} {tz : TS} {D : Ends} {σ : L2.St} {H : Hp} {P : PT → Prop} (h : Er Z te σ H P) (j : Z.J H) (k : ∀ t v H1, Gr Z H H1 → Z.J H1 → P t → Rep Z H1 t v → g v σ H1 (tz D)) : tSeq (tAsg te g) tz D σ H := h.run j k
theorem zq_for {Z : Ez} {wi : TI} {g : TG} {tb tz : TS} {σ : L2.St} {H : Hp} {dn : Ends} {P : List PT → Prop} (I : List PT → Nat → L2.St → Hp → Prop) (hi : Ei Z wi σ H P) (j : Z.J H)
    (h0 : ∀ ts H1, Gr Z H H1 → Z.J H1 → P ts → I ts 0 σ H1)
    (hs : ∀ ts i t x σ' H', P ts → ts[i]? = some t → Gr Z H H' → Z.J H' → Rep Z H' t x → I ts i σ' H' → ∀ N : L2.St → Hp → Prop, (∀ σ3 H3, Gr Z H' H3 → Z.J H3 → I ts (i + 1) σ3 H3 → N σ3 H3) → g x σ' H' fun σ'' H'' => tb { dn with nx := N, ct := N, bk := tz dn } σ'' H'')
    (hk : ∀ ts σ' H', P ts → Gr Z H H' → Z.J H' → I ts ts.length σ' H' → tz dn σ' H') : tSeq (tFor wi g tb) tz dn σ H :=
  z_for (dn := { dn with nx := tz dn }) I hi j h0 hs hk
/-- a loop that appends to the list at D -/
theorem zq_forD {Z : Ez} {Dl : Addr} {us0 : List V} {wi : TI} {g : TG} {tb tz : TS} {σ : L2.St} {H : Hp} {dn : Ends} {P : List PT → Prop} (I : List PT → Nat → L2.St → Hp → Prop) (hi : Ei (Z.acc Dl (.lst us0)) wi σ H P) (j : (Z.acc Dl (.lst us0)).J H)
    (h0 : ∀ ts H1, Gr (Z.accE Dl) H H1 → (Z.acc Dl (.lst us0)).J H1 → P ts → I ts 0 σ H1)
    (hs : ∀ ts i t x σ' H', P ts → ts[i]? = some t → Gr (Z.accE Dl) H H' → (Z.accE Dl).J H' → Rep (Z.accE Dl) H' t x → I ts i σ' H' → ∀ N : L2.St → Hp → Prop, (∀ σ3 H3, Gr (Z.accE Dl) H' H3 → (Z.accE Dl).J H3 → I ts (i + 1) σ3 H3 → N σ3 H3) → g x σ' H' fun σ'' H'' => tb { dn with nx := N, ct := N, bk := tz dn } σ'' H'')
    (hk : ∀ ts σ' H', P ts → Gr (Z.accE Dl) H H' → (Z.accE Dl).J H' → I ts ts.length σ' H' → tz dn σ' H') : tSeq (tFor wi g tb) tz dn σ H :=
  z_for0 (Z0 := Z.acc Dl (.lst us0)) (Z := Z.accE Dl) (dn := { dn with nx := tz dn }) rfl (fun _ => Iff.rfl) (fun _ h => accE_j h) I hi j h0 hs hk
/-- x = [..], the list still in hand -/
theorem zq_newL {Z : Ez} {ta : TA} {tz : TS} {D : Ends} {σ : L2.St} {H : Hp} {i : Nat} {Ps : List PT → Prop} (h : Ea Z ta σ H Ps) (hl : ∀ ts, Ps ts → ts.length ≤ sizeLine) (j : Z.J H)
    (k : ∀ ts vs H1 p, Gr Z H H1 → Z.J H1 → Ps ts → RepL Z H1 ts vs → H1 p = none → tz D (σ.set i (some (.ref p))) (upd H1 p (.lst vs))) : tSeq (tAsg (tLst ta) (gName i)) tz D σ H :=
  h H Gr.refl j _ fun ts vs H1 g j1 p rs => ⟨by rw [rs.length]; exact hl ts p, fun q hq => k ts vs H1 q g j1 p rs hq⟩
end Fy
/-! L3 -/
namespace Fy
open PySem PySem.Spec PyProof.Rows L2 LamX
/-- a row: two places, their texts -/
abbrev Row : Type := (Int × List Str) × (Int × List Str)
def wayP (w : Int × List Str) : PT := .u [.i w.1, .u (w.2.map PT.s)]
def rowP (r : Row) : PT := .l [wayP r.1, wayP r.2]
def tabP (f : List Str) (rows : List Row) : PT := .u [.u (f.map PT.s), .l (rows.map rowP)]
def notes : List Str := ["", "0", "1", "01", "110"]
structure WayOk (n many : Nat) (w : Int × List Str) : Prop where
  lo : 0 ≤ w.1
  hi : w.1 < many
  len : w.2.length = n
  nt : ∀ z ∈ w.2, z ∈ notes
structure TabOk (f : List Str) (rows : List Row) : Prop where
  n1 : 1 ≤ f.length
  n3 : f.length ≤ 3
  nt : ∀ z ∈ f, z ∈ notes
  r1 : 1 ≤ rows.length
  r6 : rows.length ≤ 6
  ok : ∀ r ∈ rows, WayOk f.length rows.length r.1 ∧ WayOk f.length rows.length r.2
section
variable {P : Program} {w : World} {K : PySem.W.Frag} {mg : Str → Option Value} {base : Heap}
def pre_table : Ez → List PT → (PT → Prop) → Prop := fun Z ts P => ∃ p, HasPot Z p ∧ ts = [.r p, .i 6] ∧ ∀ f rows, TabOk f rows → P (tabP f rows)
theorem sc__law_table : FnScope ["_law_pot_here", "_law_most", "_law_many", "_law_wide", "_law_notes", "_law_rows", "_law_turn", "_law_way", "_law_sign"] ["_law_pot_here", "_law_most"] (defScope s__law_table) := ⟨rfl, rfl, rfl, by decide +kernel, rfl, by decide +kernel, by decide +kernel⟩
theorem paired_all {α β : Type} {R : α → β → Prop} {Q : β → Prop} (h : ∀ a b, R a b → Q b) : ∀ {l : List α} {us : List β}, Paired R l us → ∀ u ∈ us, Q u
  | _, _, .nil, u, hu => absurd hu (by simp)
  | _, _, .cons r p, u, hu => by
    rcases List.mem_cons.mp hu with rfl | hu
    · exact h _ _ r
    · exact paired_all h p u hu
theorem notes_of : ∀ (us : List PT), (∀ u ∈ us, u ∈ notes.map PT.s) → ∃ zs : List Str, us = zs.map PT.s ∧ ∀ z ∈ zs, z ∈ notes
  | [], _ => ⟨[], rfl, fun _ h => absurd h (by simp)⟩
  | u :: us, h => by
    obtain ⟨z, hz, rfl⟩ := List.mem_map.mp (h u (by simp))
    obtain ⟨zs, rfl, h2⟩ := notes_of us fun v hv => h v (by simp [hv])
    refine ⟨z :: zs, rfl, fun y hy => ?_⟩
    rcases List.mem_cons.mp hy with rfl | hy
    · exact hz
    · exact h2 y hy
/-- tuple([pick(pot, notes) for way in range(wide)]) -/
theorem er_texts {Z : Ez} {σ : L2.St} {H : Hp} {E : XK} {p : Addr} {wide : Nat} {ip iw inn j : Nat} {vp vw vn : V} (j0 : Z.J H) (hpot : HasPot Z p) (hw : wide ≤ 3) (rp : Rep Z H (.r p) vp) (rw' : Rep Z H (.i wide) vw) (rn : Rep Z H (.l (notes.map PT.s)) vn)
    (hp : σ[ip]? = some (some vp)) (hwd : σ[iw]? = some (some vw)) (hn : σ[inn]? = some (some vn)) (h1 : j ≠ ip) (h3 : j ≠ inn) :
    Er Z (tCB (rTupOf Z.K) (tCons (tLc (iRng1 (tCons (tVar iw) tNil)) (gName j) tYes (tCall (spR Z.K pre_pick) [] E (tCons (tVar ip) (tCons (tVar inn) tNil))) [j]) tNil)) σ H (fun t => ∃ zs : List Str, t = .u (zs.map PT.s) ∧ zs.length = wide ∧ ∀ z ∈ zs, z ∈ notes) := by
  refine Er.imp (er_tuple (A := fun as => ∃ zs : List Str, as = zs.map PT.s ∧ zs.length = wide ∧ ∀ z ∈ zs, z ∈ notes) (Er.imp (er_lc (R := fun _ u => u ∈ notes.map PT.s) (ei_range1 (A := fun n => n = wide) (Er.imp (er_var rw' hwd) fun t e => ⟨_, e, rfl⟩) (fun n e => by omega)) (fun ts ⟨n, e, e2⟩ => by rw [e2, e]; simp; exact Nat.le_trans hw (by decide)) wipe1 ?_) ?_)) ?_
  · rintro ts D o t x H1 _ ht hD g r
    have hp2 : HasPot (Z.acc D o) p := hpot.fresh j0 hD
    exact er_pick hp2 (er_var (t := .r p) (v := vp) ((rp.acc hD).mono g.acc) (by rw [var1n h1]; exact hp)) (er_var ((rn.acc hD).mono g.acc) (by rw [var1n h3]; exact hn)) (by decide) (by decide)
  · rintro t ⟨ts, us, ⟨n, rfl, rfl⟩, rfl, hpd⟩
    obtain ⟨zs, rfl, h2⟩ := notes_of us (paired_all (Q := fun u => u ∈ notes.map PT.s) (fun _ _ h => h) hpd)
    refine ⟨_, rfl, zs, rfl, ?_, h2⟩
    have := Paired.length hpd
    simp at this
    omega
  · rintro t ⟨as, rfl, zs, rfl, h1, h2⟩
    exact ⟨zs, rfl, h1, h2⟩
theorem HasPot.accE {Z : Ez} {p D : Addr} (h : HasPot Z p) (hD : D ≠ p) : HasPot (Z.accE D) p where
  m := .inr h.m
  at_ := fun H j => h.at_ H j.1
  put := fun H b m j h1 h2 h3 => ⟨h.put H b m j.1 h1 h2 h3, by rw [upd_ne hD]; exact j.2⟩
theorem HasPot.ne {Z : Ez} {p D : Addr} {H : Hp} (h : HasPot Z p) (j : Z.J H) (hD : H D = none) : D ≠ p := fun e => by
  obtain ⟨b, m, hp, _⟩ := h.at_ H j
  rw [← e, hD] at hp
  cases hp
/-- the two ways of a row -/
theorem er_row {Z : Ez} {σ : L2.St} {H : Hp} {E E' : XK} {p : Addr} {wide many : Nat} {ip im iw inn j jj : Nat} {vp vm vw vn : V} (j0 : Z.J H) (hpot : HasPot Z p) (hm0 : 1 ≤ many) (hm1 : many ≤ 100) (hw : wide ≤ 3) (rp : Rep Z H (.r p) vp) (rm : Rep Z H (.i many) vm) (rw' : Rep Z H (.i wide) vw) (rn : Rep Z H (.l (notes.map PT.s)) vn)
    (hp : σ[ip]? = some (some vp)) (hmm : σ[im]? = some (some vm)) (hwd : σ[iw]? = some (some vw)) (hn : σ[inn]? = some (some vn)) (h1 : j ≠ ip) (h2 : j ≠ iw) (h3 : j ≠ inn) (h5 : jj ≠ ip) (h6 : jj ≠ im) (h7 : jj ≠ iw) (h8 : jj ≠ inn) :
    Er Z (tLc (iStr (tC (.str "01"))) (gName jj) tYes (tTup (tCons (tCall (spR Z.K pre_draw) [] E (tCons (tVar ip) (tCons (tVar im) tNil))) (tCons (tCB (rTupOf Z.K) (tCons (tLc (iRng1 (tCons (tVar iw) tNil)) (gName j) tYes (tCall (spR Z.K pre_pick) [] E' (tCons (tVar ip) (tCons (tVar inn) tNil))) [j]) tNil)) tNil))) [jj]) σ H
      (fun t => ∃ r : Row, t = rowP r ∧ WayOk wide many r.1 ∧ WayOk wide many r.2) := by
  refine Er.imp (er_lcJ (R := fun _ u => ∃ x, u = wayP x ∧ WayOk wide many x) (ei_str er_s) (fun ts e => by rw [show ts = _ from e]; decide +kernel) wipe1 ?_) ?_
  · rintro ts D o t x H1 e ht hD g j1 r
    have hp2 : HasPot (Z.acc D o) p := hpot.fresh j0 hD
    have up : ∀ {t v}, Rep Z H t v → Rep (Z.acc D o) H1 t v := fun r => (r.acc hD).mono g.acc
    refine Er.imp (er_tup (ea_2 (er_draw hp2 (er_var (t := .r p) (up rp) ?_) (er_var (up rm) ?_) (by omega) (by omega)) (er_texts j1 hp2 hw (up rp) (up rw') (up rn) ?_ ?_ ?_ h1 h3)) ?_) ?_
    · rw [var1n h5]; exact hp
    · rw [var1n h6]; exact hmm
    · rw [var1n h5]; exact hp
    · rw [var1n h7]; exact hwd
    · rw [var1n h8]; exact hn
    · rintro ts ⟨t, u, rfl, _⟩
      exact (show 2 ≤ sizeLine by decide)
    · rintro t ⟨ts, rfl, t1, u1, rfl, ⟨d, rfl, d0, d1⟩, zs, rfl, hl, hz⟩
      exact ⟨(d, zs), rfl, d0, d1, hl, hz⟩
  · rintro t ⟨ts, us, e, rfl, hpd⟩
    have e2 : ts = [.s ⟨#[48]⟩, .s ⟨#[49]⟩] := by
      rw [e]
      have : (("01" : Str)).cps.toList = [48, 49] := by decide +kernel
      unfold signsP
      rw [this]
      rfl
    subst e2
    cases hpd with
    | cons a hpd =>
    cases hpd with
    | cons b hpd =>
    cases hpd
    obtain ⟨x, rfl, hx⟩ := a
    obtain ⟨y, rfl, hy⟩ := b
    exact ⟨(x, y), rfl, hx, hy⟩
theorem ok__law_table (T : Tx K mg) : Has P w K mg base CX0 3 "_law_table" ["_law_pot_here", "_law_most"] (spR K pre_table) := by
  obtain ⟨f, fd, F, g⟩ := T.d__law_table
  refine ⟨f, fd, g, F.kp, F.bindsN (ps := ["_law_pot_here", "_law_most"]) (fun _ _ _ _ _ _ us hl => match us, hl with | [_, _], _ => rfl), ?_⟩
  refine F.ok sc__law_table (fun vs H Q E h => ?_) (fun cdv A outer s H vs Q E hr h => ?_)
  · obtain ⟨Z, ts, P', _, _, rs, ⟨p, _, rfl, _⟩, _⟩ := h
    exact rs.length
  · obtain ⟨Z, ts, P', rfl, j, rs, ⟨p, hpot, rfl, hP⟩, k⟩ := h
    obtain ⟨vp, _, rfl, rp, vm, _, rfl, rm, rfl⟩ := rs
    refine ⟨_, PSs.nox (pss_cons (ps_asg (pe_tup (pa_cons (pe_op op_add pe_int (pe_has (ok__law_draw T) (hr.mono (by decide)) pass0 (pa_cons (pv 0) (pa_cons (pv 1) pa_nil)))) (pa_cons (pe_op op_add pe_int (pe_has (ok__law_draw T) (hr.mono (by decide)) pass0 (pa_cons (pv 0) (pa_cons pe_int pa_nil)))) pa_nil))) (pg_tup rfl (pgs_cons (pg_name (i := 2) sc__law_table.nd rfl (Or.inr rfl)) (pgs_cons (pg_name (i := 3) sc__law_table.nd rfl (Or.inr rfl)) pgs_nil))))
      (pss_cons (ps_set (i := 4) sc__law_table.nd rfl (Or.inr rfl) (pe_lst (pa_cons pe_str (pa_cons pe_str (pa_cons pe_str (pa_cons pe_str (pa_cons pe_str pa_nil)))))))
      (pss_cons (ps_set (i := 5) sc__law_table.nd rfl (Or.inl rfl) (pe_lst pa_nil))
      (pss_cons (ps_for PassesOwn.never rfl (pi_range1 rfl T.n_range (pa_cons (pv 2) pa_nil)) (pg_name (i := 6) sc__law_table.nd rfl (Or.inl rfl)) (pss_one (ps_expr (pe_bm PySem.F.plainAttrs_list PySem.F.slot_list_append PySem.F.type_list_append mt_append (pv 5) (pa_cons (pe_lc (own := [("_law_sign", 8)]) (g := gName 8) (tt := tYes) rfl sc__law_table.nd (pi_str pe_str) (blkOk_by (N := ["_law_pot_here", "_law_most", "_law_many", "_law_wide", "_law_notes", "_law_rows", "_law_turn", "_law_way", "_law_sign"]) (sc := defScope s__law_table) (by decide +kernel)) (fun _ _ _ _ _ => pg_name (i := 8) sc__law_table.nd rfl (Or.inl rfl)) (fun _ _ _ _ _ => pts_nil) (fun _ _ _ _ _ => (pe_tup (pa_cons (pe_has (ok__law_draw T) (hr.mono (by decide)) pass0 (pa_cons (pv 0) (pa_cons (pv 2) pa_nil))) (pa_cons (pe_callTy (r := rTupOf Z.K) call_tupK (by rfl) T.n_tuple b_tuple (pa_cons (pe_lc (own := [("_law_way", 7)]) (g := gName 7) (tt := tYes) rfl sc__law_table.nd (pi_range1 rfl T.n_range (pa_cons (pv 3) pa_nil)) (blkOk_by (N := ["_law_pot_here", "_law_most", "_law_many", "_law_wide", "_law_notes", "_law_rows", "_law_turn", "_law_way", "_law_sign"])  (by kernel_rfl)) (fun _ _ _ _ _ => pg_name (i := 7) sc__law_table.nd rfl (Or.inl rfl)) (fun _ _ _ _ _ => pts_nil) (fun _ _ _ _ _ => (pe_has (ok__law_pick T) (hr.mono (by decide)) pass0 (pa_cons (pv 0) (pa_cons (pv 4) pa_nil))))) pa_nil)) pa_nil))))) pa_nil)))))
      (pss_one (ps_ret (pe_tup (pa_cons (pe_callTy (r := rTupOf Z.K) call_tupK (by rfl) T.n_tuple b_tuple (pa_cons (pe_lc (own := [("_law_way", 7)]) (g := gName 7) (tt := tYes) rfl sc__law_table.nd (pi_range1 rfl T.n_range (pa_cons (pv 3) pa_nil)) (blkOk_by (N := ["_law_pot_here", "_law_most", "_law_many", "_law_wide", "_law_notes", "_law_rows", "_law_turn", "_law_way", "_law_sign"]) (sc := defScope s__law_table) (by decide +kernel)) (fun _ _ _ _ _ => pg_name (i := 7) sc__law_table.nd rfl (Or.inl rfl)) (fun _ _ _ _ _ => pts_nil) (fun _ _ _ _ _ => (pe_has (ok__law_pick T) (hr.mono (by decide)) pass0 (pa_cons (pv 0) (pa_cons (pv 4) pa_nil))))) pa_nil)) (pa_cons (pv 5) pa_nil))))))))), ?_⟩
    refine zq_asgG (er_tup (ea_2 (er_I0P (S := fun t => ∃ n : Nat, t = .i n ∧ 1 ≤ n ∧ n ≤ 6) (A := fun a => a = 1) (B := fun b => 0 ≤ b ∧ b < 6) (Er.imp er_i fun t e => ⟨1, e, rfl⟩) (er_draw hpot (er_var rp ?_) (er_var rm ?_) (by decide) (by decide)) ?_)
      (er_I0P (S := fun t => ∃ n : Nat, t = .i n ∧ 1 ≤ n ∧ n ≤ 3) (A := fun a => a = 1) (B := fun b => 0 ≤ b ∧ b < 3) (Er.imp er_i fun t e => ⟨1, e, rfl⟩) (er_draw hpot (er_var rp ?_) er_i (by decide) (by decide)) ?_)) ?_) j ?_
    · rfl
    · rfl
    · rintro a b H1 rfl ⟨h0, h1⟩
      exact ⟨_, ⟨(1 + b).toNat, rfl, by omega, by omega⟩, by show V.int (1 + b) = V.int _; congr 1; omega⟩
    · rfl
    · rintro a b H1 rfl ⟨h0, h1⟩
      exact ⟨_, ⟨(1 + b).toNat, rfl, by omega, by omega⟩, by show V.int (1 + b) = V.int _; congr 1; omega⟩
    · rintro ts ⟨t, u, rfl, _⟩
      exact (show 2 ≤ sizeLine by decide)
    rintro t vt H1 g1 j1 ⟨ts, rfl, t1, u1, rfl, ⟨many, rfl, hm0, hm1⟩, wide, rfl, hw0, hw1⟩ rt
    refine g_pair rt fun vma vwi rma rwi => ?_
    refine zq_asg (er_lstc (us := notes.map PT.s) (ea_c er_s (ea_c er_s (ea_c er_s (ea_c er_s (ea_c er_s ea_nil)))))) j1 fun t2 vn H2 g2 j2 e rn => ?_
    subst e
    refine ⟨Nat.zero_le _, fun D hD => ?_⟩
    have hpD : HasPot (Z.accE D) p := hpot.accE (hpot.ne j2 hD)
    have up : ∀ {t v}, Rep Z H2 t v → Rep (Z.accE D) (upd H2 D (.lst [])) t v := fun r => rep_accE (o := .lst []) ((r.acc (Fresh.of hD)).mono (Gr.acc (Gr.new hD)))
    have jD : (Z.accE D).J (upd H2 D (.lst [])) := ⟨Z.jnew j2 hD, [], upd_same⟩
    have rp2 := up ((rp.mono g1).mono g2)
    have rma2 := up (rma.mono g2)
    have rwi2 := up (rwi.mono g2)
    have rn2 := up rn
    have nD : ¬ Z.M D := Z.fresh j2 hD
    have eH : (upd H2 D (.lst [])) D = some (.lst []) := upd_same
    have gD : Gr (Z.accE D) (upd H2 D (.lst [])) (upd H2 D (.lst [])) := Gr.refl
    have g02 : Gr Z H (upd H2 D (.lst [])) := (g1.trans g2).trans (Gr.new hD)
    show tSeq _ _ _ _ _
    have jA : (Z.acc D (.lst [])).J (upd H2 D (.lst [])) := ⟨Z.jnew j2 hD, upd_same⟩
    refine zq_forD (Z := Z) (Dl := D) (us0 := []) (P := fun ts => ts.length = many) (fun ts i σ' H' => ∃ o, σ' = [some vp, some vm, some vma, some vwi, some vn, some (.ref D), o, none, none] ∧ ∃ ys rows, H' D = some (.lst ys) ∧ RepL (Z.accE D) H' (List.map rowP rows) ys ∧ rows.length = i ∧ ∀ r ∈ rows, WayOk wide many r.1 ∧ WayOk wide many r.2)
      (fun H3 g3 j3 Q q => ei_range1 (Z := Z.acc D (.lst [])) (A := fun n => n = many) (Er.imp (er_var (accE_rep rma2) ?_) fun t e => ⟨_, e, rfl⟩) (fun n e => by omega) H3 g3 j3 Q fun J ts vs H4 g4 j4 ⟨n, e1, e2⟩ rs S => q J ts vs H4 g4 j4 (by rw [e2, e1]; simp) rs S) jA
      (fun ts H3 g3 j3 e => ⟨none, rfl, [], [], j3.2, rfl, rfl, fun r h => absurd h (by simp)⟩) (fun ts i t x σ' H' e ht g3 j3 rx ⟨o, es, ys, rows, hy, hu, hl, hok⟩ N hN => ?_) (fun ts σ' H' e g3 j3 ⟨o, es, ys, rows, hy, hu, hl, hok⟩ => ?_)
    · rfl
    · subst es
      have hi : i < ts.length := (List.getElem?_eq_some_iff.mp ht).1
      refine z_append (Z := Z) (R := fun t => ∃ r : Row, t = rowP r ∧ WayOk wide many r.1 ∧ WayOk wide many r.2) (d := 5) rfl j3 nD hy hu (by rw [hu.length, List.length_map]; omega) (fun o' jo => ?_) ?_
      · have up2 : ∀ {t v}, Rep (Z.accE D) (upd H2 D (.lst [])) t v → Rep (Z.acc D o') H' t v := fun r => accE_rep (r.mono g3)
        exact er_row jo (hpot.acc (hpot.ne j2 hD)) hm0 (by omega) hw1 (up2 rp2) (up2 rma2) (up2 rwi2) (up2 rn2) rfl rfl rfl rfl (by decide) (by decide) (by decide) (by decide) (by decide) (by decide) (by decide)
      · rintro u v H4 g4 j4 ⟨r, rfl, hr1, hr2⟩ hy4 hu4
        refine hN _ H4 g4 j4 ⟨some x, rfl, ys ++ [v], rows ++ [r], hy4, by rw [List.map_append]; exact hu4, by simp; omega, fun r' hr' => ?_⟩
        rcases List.mem_append.mp hr' with h | h
        · exact hok r' h
        · rw [List.mem_singleton.mp h]
          exact ⟨hr1, hr2⟩
    · subst es
      have gf : Gr Z H2 H' := Gr.unaccE (Fresh.of hD) (Gr.new hD) g3
      have g0 : Gr Z H H' := (g1.trans g2).trans gf
      have rl : Rep Z H' (.l (rows.map rowP)) (.ref D) := ⟨D, ys, rfl, nD, hy, repL_unaccE hu⟩
      have rp3 := (((rp.mono g1).mono g2).mono gf)
      refine z_ret (er_tup (ea_2 (er_texts (wide := wide) j3.1 hpot hw1 rp3 ((rwi.mono g2).mono gf) (rn.mono gf) ?_ ?_ ?_ (by decide) (by decide)) (er_var rl ?_)) ?_) j3.1 fun t v H4 g4 j4 ⟨ts4, et, t1, t2, ets, ⟨zs, e1, hzl, hzn⟩, e2⟩ r4 => k t v H4 (g0.trans g4) j4 ?_ r4
      · rfl
      · rfl
      · rfl
      · rfl
      · rintro ts ⟨t, u, rfl, _⟩
        exact (show 2 ≤ sizeLine by decide)
      · subst et ets e1 e2
        refine hP zs rows ⟨by omega, by omega, hzn, by omega, by omega, fun r hr' => ?_⟩
        have := hok r hr'
        rw [hzl, hl, e]
        exact this
end
end Fy
/-! L4 -/
namespace Fy
open PySem PySem.Spec PyProof.Rows L2 LamX
def numS (i : Int) : Str := Str.ofString (toString i)
def wayWords (w : Int × List Str) : List Str := numS w.1 :: w.2.map dash
def firstWords (f : List Str) : List Str := ("first" : Str) :: f.map dash
def rowWords (r : Row) : List Str := ("place" : Str) :: (wayWords r.1 ++ wayWords r.2)
def lines (f : List Str) (rows : List Row) : List Str := Txt.join " " (firstWords f) :: rows.map fun r => Txt.join " " (rowWords r)
theorem note_small : ∀ z ∈ notes, z.length ≤ 3 ∧ (dash z).length ≤ 3 := by decide +kernel
theorem num_small {i : Int} {many : Nat} (h0 : 0 ≤ i) (h1 : i < many) (hm : many ≤ 100) : (numS i).length ≤ 3 := by
  obtain ⟨n, rfl⟩ := Int.eq_ofNat_of_zero_le h0
  unfold numS
  rw [TL.len_tl, TL.tl_num]
  exact TL.numL_len (k := 3) (by decide) (by omega)
theorem way_small {n many : Nat} {x : Int × List Str} (h : WayOk n many x) (hm : many ≤ 100) : ∀ z ∈ wayWords x, z.length ≤ 3 := by
  intro z hz
  rcases List.mem_cons.mp hz with rfl | hz
  · exact num_small h.lo h.hi hm
  · obtain ⟨y, hy, rfl⟩ := List.mem_map.mp hz
    exact (note_small y (h.nt y hy)).2
theorem row_small {n many : Nat} {r : Row} (h1 : WayOk n many r.1) (h2 : WayOk n many r.2) (hm : many ≤ 100) : ∀ z ∈ rowWords r, z.length ≤ 5 := by
  intro z hz
  rcases List.mem_cons.mp hz with rfl | hz
  · decide +kernel
  · rcases List.mem_append.mp hz with hz | hz
    · exact Nat.le_trans (way_small h1 hm z hz) (by decide)
    · exact Nat.le_trans (way_small h2 hm z hz) (by decide)
theorem first_small {f : List Str} (h : ∀ z ∈ f, z ∈ notes) : ∀ z ∈ firstWords f, z.length ≤ 5 := by
  intro z hz
  rcases List.mem_cons.mp hz with rfl | hz
  · decide +kernel
  · obtain ⟨y, hy, rfl⟩ := List.mem_map.mp hz
    exact Nat.le_trans (note_small y (h y hy)).2 (by decide)
theorem join_bound {ws : List Str} {b c : Nat} (h : ∀ z ∈ ws, z.length ≤ b) (hc : ws.length ≤ c) (hb : c * b + c ≤ 16777216) : (ws.map (·.length)).sum + ws.length * (" " : Str).length ≤ 16777216 := by
  have h1 := sum_le h
  have h2 : ws.length * b ≤ c * b := Nat.mul_le_mul_right _ hc
  have h3 : (" " : Str).length = 1 := by decide +kernel
  rw [h3]
  omega
section
variable {P : Program} {w : World} {K : PySem.W.Frag} {mg : Str → Option Value} {base : Heap}
def pre_lines : Ez → List PT → (PT → Prop) → Prop := fun Z ts P => ∃ f rows, ts = [tabP f rows] ∧ TabOk f rows ∧ P (.l ((lines f rows).map PT.s))
theorem sc__law_table_lines : FnScope ["_law_table_here", "_law_found", "_law_note", "_law_row", "_law_words", "_law_goal", "_law_notes"] ["_law_table_here"] (defScope s__law_table_lines) := ⟨rfl, rfl, rfl, by decide +kernel, rfl, by decide +kernel, by decide +kernel⟩
/-- [dash(note) for note in notes] -/
theorem er_dashes {Z : Ez} {te : TE} {σ : L2.St} {H : Hp} {E : XK} {zs : List Str} {j : Nat} (h : Er Z te σ H (· = .u (zs.map PT.s))) (hl : zs.length ≤ 1000) (hj : j < σ.length) :
    Er Z (tLc (iTup Z.K te) (gName j) tYes (tCall (spR Z.K pre_dash) [] E (tCons (tVar j) tNil)) [j]) σ H (· = .l ((zs.map dash).map PT.s)) := by
  refine Er.imp (er_lcf (f := fun t => .s (dash t.str)) (ei_tupc h) (by rw [List.length_map]; exact Nat.le_trans hl (by decide)) wipe1 ?_) ?_
  · intro D o t x H1 ht hD g r
    obtain ⟨z, hz, rfl⟩ := List.mem_map.mp ht
    exact er_dash (er_var r (var1 hj))
  · intro t e
    rw [e, List.map_map, List.map_map]
    rfl
theorem ok__law_table_lines (T : Tx K mg) : Has P w K mg base CX0 2 "_law_table_lines" ["_law_table_here"] (spR K pre_lines) := by
  obtain ⟨f, fd, F, g⟩ := T.d__law_table_lines
  refine ⟨f, fd, g, F.kp, F.bindsN (ps := ["_law_table_here"]) (fun _ _ _ _ _ _ us hl => match us, hl with | [_], _ => rfl), ?_⟩
  refine F.ok sc__law_table_lines (fun vs H Q E h => ?_) (fun cdv A outer s H vs Q E hr h => ?_)
  · obtain ⟨Z, ts, P', _, _, rs, ⟨f, rows, rfl, _⟩, _⟩ := h
    exact rs.length
  · obtain ⟨Z, ts, P', rfl, j, rs, ⟨fs, rows, rfl, hT, hP⟩, k⟩ := h
    obtain ⟨vt, _, rfl, rt, rfl⟩ := rs
    refine ⟨_, PSs.nox (pss_cons (ps_set (i := 1) sc__law_table_lines.nd rfl (Or.inl rfl) (pe_lst (pa_cons (pe_join pe_str (pe_op op_cat (pe_lst (pa_cons pe_str pa_nil)) (pe_lc (own := [("_law_note", 2)]) (g := gName 2) (tt := tYes) rfl sc__law_table_lines.nd (pi_tupK (K := Z.K) (pe_ix (r := rIxT Z.K) ix_tup (pv 0) pe_int (fun _ _ => rfl))) (blkOk_by (N := ["_law_table_here", "_law_found", "_law_note", "_law_row", "_law_words", "_law_goal", "_law_notes"]) (sc := defScope s__law_table_lines) (by decide +kernel)) (fun _ _ _ _ _ => pg_name (i := 2) sc__law_table_lines.nd rfl (Or.inl rfl)) (fun _ _ _ _ _ => pts_nil) (fun _ _ _ _ _ => (pe_has (ok__law_dash T) (hr.mono (by decide)) pass0 (pa_cons (pv 2) pa_nil)))))) pa_nil)))
      (pss_cons (ps_for PassesOwn.never rfl (pi_listK (K := Z.K) (pe_ix (r := rIxT Z.K) ix_tup (pv 0) pe_int (fun _ _ => rfl))) (pg_name (i := 3) sc__law_table_lines.nd rfl (Or.inl rfl)) (pss_cons (ps_set (i := 4) sc__law_table_lines.nd rfl (Or.inl rfl) (pe_lst (pa_cons pe_str pa_nil)))
      (pss_cons (ps_for PassesOwn.never rfl (pi_listK (K := Z.K) (pv 3)) (pg_tup rfl (pgs_cons (pg_name (i := 5) sc__law_table_lines.nd rfl (Or.inl rfl)) (pgs_cons (pg_name (i := 6) sc__law_table_lines.nd rfl (Or.inl rfl)) pgs_nil))) (pss_one (ps_set (i := 4) sc__law_table_lines.nd rfl (Or.inl rfl) (pe_op op_cat (pe_op op_cat (pv 4) (pe_lst (pa_cons (pe_callTy call_str_int (by rfl) T.n_str b_str (pa_cons (pv 5) pa_nil)) pa_nil))) (pe_lc (own := [("_law_note", 2)]) (g := gName 2) (tt := tYes) rfl sc__law_table_lines.nd (pi_tupK (K := Z.K) (pv 6)) (blkOk_by (N := ["_law_table_here", "_law_found", "_law_note", "_law_row", "_law_words", "_law_goal", "_law_notes"]) (sc := defScope s__law_table_lines) (by decide +kernel)) (fun _ _ _ _ _ => pg_name (i := 2) sc__law_table_lines.nd rfl (Or.inl rfl)) (fun _ _ _ _ _ => pts_nil) (fun _ _ _ _ _ => (pe_has (ok__law_dash T) (hr.mono (by decide)) pass0 (pa_cons (pv 2) pa_nil))))))))
      (pss_one (ps_expr (pe_bm PySem.F.plainAttrs_list PySem.F.slot_list_append PySem.F.type_list_append mt_append (pv 1) (pa_cons (pe_join pe_str (pv 4)) pa_nil)))))))
      (pss_one (ps_ret (pv 1))))), ?_⟩
    have n3 := hT.n3
    refine zq_newL (ea_1 (er_join (sep := " ") (ys := fun _ => True) (zs := firstWords fs) er_s (Er.imp (er_catc (er_lstc (ea_c (t := .s "first") er_s ea_nil)) (er_dashes (zs := fs) (er_ixT (k := 0) (er_var rt ?_) er_i (ixN0 (show 0 < 2 by decide)) rfl) (by omega) ?_) (by simp; exact Nat.le_trans (by omega : 1 + fs.length ≤ 4) (by decide))) ?_) (join_bound (b := 5) (c := 4) (first_small hT.nt) (by simp [firstWords]; omega) (by decide)))) ?_ j ?_
    · rfl
    · exact (show 2 < 7 by decide)
    · intro t e
      exact e
    · rintro ts ⟨t, rfl, _⟩
      exact (show 1 ≤ sizeLine by decide)
    rintro ts vs H1 D g1 j1 ⟨t, rfl, rfl⟩ rs hD
    obtain ⟨v0, _, rfl, r0, rfl⟩ := rs
    have e0 : v0 = .str (Txt.join " " (firstWords fs)) := r0
    subst e0
    have nD : ¬ Z.M D := Z.fresh j1 hD
    have up : ∀ {t v}, Rep Z H1 t v → Rep (Z.accE D) (upd H1 D (.lst [.str (Txt.join " " (firstWords fs))])) t v := fun r => rep_accE (o := .lst []) ((r.acc (Fresh.of hD)).mono (Gr.acc (Gr.new hD)))
    have rt2 := up (rt.mono g1)
    have jA : (Z.acc D (.lst [.str (Txt.join " " (firstWords fs))])).J (upd H1 D (.lst [.str (Txt.join " " (firstWords fs))])) := ⟨Z.jnew j1 hD, upd_same⟩
    refine zq_forD (Z := Z) (Dl := D) (us0 := [.str (Txt.join " " (firstWords fs))]) (P := (· = rows.map rowP)) (fun ts i σ' H' => ∃ o2 o3 o4 o5 o6, σ' = [some vt, some (.ref D), o2, o3, o4, o5, o6] ∧ ∃ ys, H' D = some (.lst ys) ∧ RepL (Z.accE D) H' (((lines fs rows).take (i + 1)).map PT.s) ys)
      (ei_listc (er_ixT (k := 1) (er_var (accE_rep rt2) ?_) er_i (Evl.ixN_nat (j := 1) (show 1 < 2 by decide)) rfl)) jA
      (fun ts H3 g3 j3 e => ⟨none, none, none, none, none, rfl, _, j3.2, _, _, rfl, rfl, rfl⟩) (fun ts i t x σ' H' e ht g3 j3 rx ⟨o2, o3, o4, o5, o6, es, ys, hy, hu⟩ N hN => ?_) (fun ts σ' H' e g3 j3 ⟨o2, o3, o4, o5, o6, es, ys, hy, hu⟩ => ?_)
    · rfl
    · subst es e
      have hi : i < rows.length := by
        have := (List.getElem?_eq_some_iff.mp ht).1
        simpa using this
      obtain rfl : t = rowP rows[i] := by
        rw [List.getElem?_map, List.getElem?_eq_getElem hi] at ht
        exact (Option.some.inj ht).symm
      have hrow := hT.ok rows[i] (List.getElem_mem hi)
      have r6 := hT.r6
      have jP : (Z.acc D (.lst ys)).J H' := ⟨j3.1, hy⟩
      have rx1 : Rep (Z.acc D (.lst ys)) H' (rowP rows[i]) x := accE_rep rx
      show tSeq _ _ _ _ _
      refine zq_asg (Z := Z.acc D (.lst ys)) (er_lstc (ea_c (t := .s "place") er_s ea_nil)) jP fun t4 v4 H4 g4 j4 e4 r4 => ?_
      subst e4
      refine zq_for (Z := Z.acc D (.lst ys)) (P := (· = [wayP rows[i].1, wayP rows[i].2])) (fun ts' i' σ3 H3 => ∃ vw p5 p6, σ3 = [some vt, some (.ref D), o2, some x, some vw, p5, p6] ∧ Rep (Z.acc D (.lst ys)) H3 (.l ((("place" : Str) :: (([rows[i].1, rows[i].2].take i').map wayWords).flatten).map PT.s)) vw)
        (ei_listc (er_var (rx1.mono g4) ?_)) j4 (fun ts' H5 g5 j5 e5 => ⟨v4, o5, o6, rfl, r4.mono g5⟩) (fun ts' i' t' x' σ3 H3 e5 ht' g5 j5 rx' ⟨vw, p5, p6, es3, rw3⟩ N3 hN3 => ?_) (fun ts' σ3 H3 e5 g5 j5 ⟨vw, p5, p6, es3, rw3⟩ => ?_)
      · rfl
      · subst es3 e5
        have hi' : i' < 2 := (List.getElem?_eq_some_iff.mp ht').1
        obtain ⟨wy, ew, hwy, hwk⟩ : ∃ wy, t' = wayP wy ∧ ([rows[i].1, rows[i].2].take (i' + 1)) = [rows[i].1, rows[i].2].take i' ++ [wy] ∧ WayOk fs.length rows.length wy := by
          rcases (by omega : i' = 0 ∨ i' = 1) with rfl | rfl
          · exact ⟨_, (Option.some.inj ht').symm, rfl, hrow.1⟩
          · exact ⟨_, (Option.some.inj ht').symm, rfl, hrow.2⟩
        subst ew
        refine g_pair (Z := Z.acc D (.lst ys)) rx' fun v7 v8 r7 r8 => ?_
        have hb : ((("place" : Str) :: (([rows[i].1, rows[i].2].take i').map wayWords).flatten).map PT.s).length ≤ 12 := by
          rcases (by omega : i' = 0 ∨ i' = 1) with rfl | rfl
          · simp
          · simp [wayWords, hrow.1.len]
            omega
        have hk : wy.1.natAbs.log2 < 1920 := by
          have h1 := hwk.lo
          have h2 := hwk.hi
          have h3 : wy.1.natAbs < 2 ^ 10 := by omega
          exact Nat.lt_of_le_of_lt (Nat.log2_le_self _) (by omega)
        refine (er_catc (er_catc (er_var rw3 ?_) (er_lstc (ea_c (t := .s (numS wy.1)) (er_str (er_var r7 ?_) hk) ea_nil) (show 1 ≤ sizeLine by decide)) ?_) (er_dashes (zs := wy.2) (er_var r8 ?_) (by rw [hwk.len]; omega) ?_) ?_).run j5 fun t9 v9 H6 g6 j6 e9 r9 => ?_
        · rfl
        · rfl
        · exact Nat.le_trans (by rw [List.length_singleton]; omega : _ ≤ 13) (by decide)
        · rfl
        · exact (show 2 < 7 by decide)
        · rw [List.length_append, List.length_singleton, List.length_map (as := wy.2.map dash), List.length_map (as := wy.2), hwk.len]
          exact Nat.le_trans (by omega : _ ≤ 16) (by decide)
        · subst e9
          refine hN3 _ H6 g6 j6 ⟨v9, some v7, some v8, rfl, ?_⟩
          rw [hwy]
          have : ((("place" : Str) :: ((([rows[i].1, rows[i].2].take i') ++ [wy]).map wayWords).flatten).map PT.s) = (("place" : Str) :: (([rows[i].1, rows[i].2].take i').map wayWords).flatten).map PT.s ++ [PT.s (numS wy.1)] ++ (wy.2.map dash).map PT.s := by simp [wayWords]
          rw [this]
          exact r9
      · subst es3 e5
        have ew : (("place" : Str) :: (([rows[i].1, rows[i].2].take [wayP rows[i].1, wayP rows[i].2].length).map wayWords).flatten) = rowWords rows[i] := by simp [rowWords]
        rw [ew] at rw3
        have hg : Gr (Z.accE D) H' H3 := g4.trans g5
        have hy3 : H3 D = some (.lst ys) := j5.2
        have hu3 : RepL (Z.accE D) H3 (((lines fs rows).take (i + 1)).map PT.s) ys := repL_accE ((accE_repL (o := .lst ys) hu).mono (g4.trans g5))
        refine z_append (Z := Z) (R := (· = .s (Txt.join " " (rowWords rows[i])))) (d := 1) rfl ⟨j5.1, ys, j5.2⟩ nD hy3 hu3 (by rw [hu3.length, List.length_map, List.length_take]; simp [lines]; omega) (fun o' jo => ?_) ?_
        · refine er_join (ys := fun _ => True) er_s (er_var rw3.reacc ?_) (join_bound (b := 5) (c := 12) (row_small hrow.1 hrow.2 (by omega)) (by simp [rowWords, wayWords, hrow.1.len, hrow.2.len]; omega) (by decide))
          rfl
        · rintro u v H4' g4' j4' rfl hy4 hu4
          refine hN _ H4' (hg.trans g4') j4' ⟨o2, some x, some vw, p5, p6, rfl, _, hy4, ?_⟩
          have el : ((lines fs rows).take (i + 1 + 1)).map PT.s = ((lines fs rows).take (i + 1)).map PT.s ++ [PT.s (Txt.join " " (rowWords rows[i]))] := by
            rw [List.take_add_one (i := i + 1)]
            have : (lines fs rows)[i + 1]? = some (Txt.join " " (rowWords rows[i])) := by simp [lines, hi]
            rw [this]
            simp
          rw [el]
          exact hu4
    · subst es e
      have gf : Gr Z H1 H' := Gr.unaccE (Fresh.of hD) (Gr.new hD) g3
      have rl : Rep Z H' (.l ((lines fs rows).map PT.s)) (.ref D) := ⟨D, ys, rfl, nD, hy, by
        have := repL_unaccE hu
        rw [List.length_map, List.take_of_length_le (by simp [lines])] at this
        exact this⟩
      refine z_ret (er_var rl ?_) j3.1 fun t v H4 g4 j4 e r4 => k t v H4 ((g1.trans gf).trans g4) j4 (by rw [e]; exact hP) r4
      rfl
end
end Fy
/-! L5 -/
namespace Fy
open PySem PySem.Spec PyProof.Rows L2 LamX
theorem cutP_last (xs : List PT) : cutP xs none (some (-1)) = xs.dropLast := by
  unfold cutP
  rw [HT.sIx_none, Nat.sub_zero, List.drop_zero]
  have e : HT.sIx xs.length xs.length (some (-1)) = xs.length - 1 := by
    show (if (-1 : Int) < 0 then ((-1 : Int) + (xs.length : Int)).toNat else min (-1 : Int).toNat xs.length) = _
    rw [if_pos (by decide)]
    have : ((-1 : Int) + (xs.length : Int)).toNat = xs.length - 1 := by omega
    exact this
  rw [e, List.dropLast_eq_take]
theorem er_neg {Z : Ez} {te : TE} {σ : L2.St} {H : Hp} {i : Int} (h : Er Z te σ H (· = .i i)) : Er Z (tUn (rU fun i => .int (-i)) te) σ H (· = .i (-i)) :=
  fun H1 g j Q q => h H1 g j _ fun t v H2 g2 j2 p r => by
    subst p
    exact ⟨i, r, q _ _ H2 g2 j2 rfl rfl⟩
def w0 (W : List Str) : Str := W.headD ""
def oddW (W : List Str) (first : Bool) : List (List Str) :=
  ([W ++ [("-" : Str), "-", "-"], Txt.upper (w0 W) :: W.drop 1, ("" : Str) :: W, W ++ [("" : Str)], W.take 1] ++ [W.dropLast ++ [("2" : Str)], W.dropLast ++ [("0-" : Str)], W.dropLast ++ [("" : Str)], [("first" : Str), "-", "-", "-", "-"]]) ++
  (if first then [] else [W.dropLast, w0 W :: ("00" : Str) :: W.drop 2, w0 W :: ("-" : Str) :: W.drop 2, w0 W :: ("x" : Str) :: W.drop 2] ++ [w0 W :: ("+0" : Str) :: W.drop 2, w0 W :: ("0_0" : Str) :: W.drop 2])
/-- a line as its words -/
structure LineOk (W : List Str) : Prop where
  ne : W ≠ []
  sp : ∀ z ∈ W, 32 ∉ TL.tl z
  len : W.length ≤ 20
  sz : ∀ z ∈ W, z.length ≤ 10
  up : (Txt.upper (w0 W)).length ≤ 10
abbrev strsP (W : List Str) : PT := .l (W.map PT.s)
section
variable {P : Program} {w : World} {K : PySem.W.Frag} {mg : Str → Option Value} {base : Heap}
def pre_oddl : Ez → List PT → (PT → Prop) → Prop := fun Z ts P => ∃ p W first, HasPot Z p ∧ ts = [.r p, .s (Txt.join " " W), .b first] ∧ LineOk W ∧ ∀ o ∈ oddW W first, P (.s (Txt.join " " o))
theorem sc__law_odd_line : FnScope ["_law_pot_here", "_law_line", "_law_is_first", "_law_words", "_law_odd"] ["_law_pot_here", "_law_line", "_law_is_first"] (defScope s__law_odd_line) := ⟨rfl, rfl, rfl, by decide +kernel, rfl, by decide +kernel, by decide +kernel⟩
/-- small words -/
def Sm (n : Nat) (o : List Str) : Prop := o.length ≤ n ∧ ∀ z ∈ o, z.length ≤ 10
theorem Sm.nil : Sm 0 [] := ⟨Nat.le_refl _, fun _ h => absurd h (by simp)⟩
theorem Sm.app {a b : Nat} {x y : List Str} (h1 : Sm a x) (h2 : Sm b y) : Sm (a + b) (x ++ y) := ⟨by rw [List.length_append]; exact Nat.add_le_add h1.1 h2.1, fun z hz => (List.mem_append.mp hz).elim (h1.2 z) (h2.2 z)⟩
theorem Sm.cons {a : Nat} {z : Str} {x : List Str} (h1 : z.length ≤ 10) (h2 : Sm a x) : Sm (a + 1) (z :: x) := ⟨by rw [List.length_cons]; exact Nat.add_le_add_right h2.1 1, fun y hy => (List.mem_cons.mp hy).elim (fun e => by rw [e]; exact h1) (h2.2 y)⟩
theorem Sm.mono {a b : Nat} {x : List Str} (h : Sm a x) (hab : a ≤ b) : Sm b x := ⟨Nat.le_trans h.1 hab, h.2⟩
theorem all_app {α : Type} {p : α → Prop} {a b : List α} (h1 : ∀ x ∈ a, p x) (h2 : ∀ x ∈ b, p x) : ∀ x ∈ a ++ b, p x := fun x h => (List.mem_append.mp h).elim (h1 x) (h2 x)
theorem all_cons {α : Type} {p : α → Prop} {a : α} {b : List α} (h1 : p a) (h2 : ∀ x ∈ b, p x) : ∀ x ∈ a :: b, p x := fun x h => (List.mem_cons.mp h).elim (fun e => by rw [e]; exact h1) (h2 x)
theorem all_nil {α : Type} {p : α → Prop} : ∀ x ∈ ([] : List α), p x := fun _ h => absurd h (by simp)
theorem all_oddW {W : List Str} {first : Bool} {p : List Str → Prop} (h1 : p (W ++ [("-" : Str), "-", "-"])) (h2 : p (Txt.upper (w0 W) :: W.drop 1)) (h3 : p (("" : Str) :: W)) (h4 : p (W ++ [("" : Str)])) (h5 : p (W.take 1)) (h6 : p (W.dropLast ++ [("2" : Str)])) (h7 : p (W.dropLast ++ [("0-" : Str)])) (h8 : p (W.dropLast ++ [("" : Str)]))
    (h9 : p [("first" : Str), "-", "-", "-", "-"]) (hr : first = false → p W.dropLast ∧ p (w0 W :: ("00" : Str) :: W.drop 2) ∧ p (w0 W :: ("-" : Str) :: W.drop 2) ∧ p (w0 W :: ("x" : Str) :: W.drop 2) ∧ p (w0 W :: ("+0" : Str) :: W.drop 2) ∧ p (w0 W :: ("0_0" : Str) :: W.drop 2)) : ∀ o ∈ oddW W first, p o := by
  refine all_app (all_app (all_cons h1 (all_cons h2 (all_cons h3 (all_cons h4 (all_cons h5 all_nil))))) (all_cons h6 (all_cons h7 (all_cons h8 (all_cons h9 all_nil))))) ?_
  cases first with
  | true => exact all_nil
  | false =>
    obtain ⟨r1, r2, r3, r4, r5, r6⟩ := hr rfl
    exact all_app (all_cons r1 (all_cons r2 (all_cons r3 (all_cons r4 all_nil)))) (all_cons r5 (all_cons r6 all_nil))
theorem mem_oddW {W : List Str} (h : LineOk W) {first : Bool} : ∀ o ∈ oddW W first, Sm 30 o := by
  have sW : Sm 20 W := ⟨h.len, h.sz⟩
  have sd : ∀ k, Sm 20 (W.drop k) := fun k => ⟨by rw [List.length_drop]; have := h.len; omega, fun z hz => h.sz z (List.mem_of_mem_drop hz)⟩
  have sl : Sm 20 W.dropLast := ⟨by rw [List.length_dropLast]; have := h.len; omega, fun z hz => h.sz z (List.dropLast_subset W hz)⟩
  have st : Sm 20 (W.take 1) := ⟨by rw [List.length_take]; have := h.len; omega, fun z hz => h.sz z (List.mem_of_mem_take hz)⟩
  have h0 : (w0 W).length ≤ 10 := by
    cases W with
    | nil => exact absurd rfl h.ne
    | cons a b => exact h.sz a (by simp)
  have c1 : ∀ z ∈ ([("-" : Str), "", "2", "0-", "first", "00", "x", "+0", "0_0"] : List Str), z.length ≤ 10 := by decide +kernel
  have sg : ∀ z ∈ ([("-" : Str), "", "2", "0-", "first", "00", "x", "+0", "0_0"] : List Str), Sm 1 [z] := fun z hz => Sm.cons (c1 z hz) Sm.nil
  have s3 : Sm 3 [("-" : Str), "-", "-"] := Sm.cons (c1 _ (by simp)) (Sm.cons (c1 _ (by simp)) (Sm.cons (c1 _ (by simp)) Sm.nil))
  have two : ∀ z ∈ ([("-" : Str), "", "2", "0-", "first", "00", "x", "+0", "0_0"] : List Str), Sm 30 (w0 W :: z :: W.drop 2) := fun z hz => (Sm.cons h0 (Sm.cons (c1 z hz) (sd 2))).mono (by decide)
  exact all_oddW ((sW.app s3).mono (by decide)) ((Sm.cons h.up (sd 1)).mono (by decide)) ((Sm.cons (c1 _ (by simp)) sW).mono (by decide)) ((sW.app (sg _ (by simp))).mono (by decide)) (st.mono (by decide)) ((sl.app (sg _ (by simp))).mono (by decide)) ((sl.app (sg _ (by simp))).mono (by decide)) ((sl.app (sg _ (by simp))).mono (by decide))
    ((Sm.cons (c1 _ (by simp)) (Sm.cons (c1 _ (by simp)) s3)).mono (by decide)) fun _ => ⟨sl.mono (by decide), two _ (by simp), two _ (by simp), two _ (by simp), two _ (by simp), two _ (by simp)⟩
theorem len_join {ws : List Str} {n : Nat} (h : Sm n ws) : (Txt.join " " ws).length ≤ n * 11 := by
  rw [TL.len_tl, TL.join_eq, TL.tl_join, sp_eq]
  have key : ∀ l : List Str, (∀ z ∈ l, z.length ≤ 10) → (TL.joinL (TL.tl (mk [32])) (l.map TL.tl)).length ≤ l.length * 11 := by
    intro l
    induction l with
    | nil => intro _; simp [TL.joinL]
    | cons a r ih =>
      intro h
      have ha := h a (by simp)
      rw [TL.len_tl] at ha
      cases r with
      | nil =>
        show (TL.tl a).length ≤ 1 * 11
        omega
      | cons b r =>
        have hb : (TL.joinL (TL.tl (mk [32])) ((b :: r).map TL.tl)).length ≤ (r.length + 1) * 11 := ih fun z hz => h z (by simp [hz])
        show (TL.tl a ++ ([32] ++ TL.joinL (TL.tl (mk [32])) ((b :: r).map TL.tl))).length ≤ (r.length + 1 + 1) * 11
        rw [List.length_append, List.length_append]
        have : ([32] : List Nat).length = 1 := rfl
        omega
  have h1 := key ws h.2
  have h2 : ws.length * 11 ≤ n * 11 := Nat.mul_le_mul_right _ h.1
  omega
theorem er_lW1 {Z : Ez} {te : TE} {σ : L2.St} {H : Hp} {z : Str} (h : Er Z te σ H (· = .s z)) : Er Z (tLst (tCons te tNil)) σ H (· = strsP [z]) := er_lstc (ea_c h ea_nil) (show 1 ≤ sizeLine by decide)
theorem er_lW2 {Z : Ez} {ta tb : TE} {σ : L2.St} {H : Hp} {y z : Str} (h : Er Z ta σ H (· = .s y)) (h2 : Er Z tb σ H (· = .s z)) : Er Z (tLst (tCons ta (tCons tb tNil))) σ H (· = strsP [y, z]) := er_lstc (ea_c h (ea_c h2 ea_nil)) (show 2 ≤ sizeLine by decide)
theorem er_catW {Z : Ez} {ta tb : TE} {σ : L2.St} {H : Hp} {A B : List Str} (ha : Er Z ta σ H (· = strsP A)) (hb : Er Z tb σ H (· = strsP B)) (hA : A.length ≤ 100) (hB : B.length ≤ 100) : Er Z (tOp rCat ta tb) σ H (· = strsP (A ++ B)) :=
  Er.imp (er_catc ha hb (by rw [List.length_map, List.length_map]; exact Nat.le_trans (by omega : A.length + B.length ≤ 200) (by decide))) fun t e => by rw [e, ← List.map_append]
theorem er_joinP {Z : Ez} {ta tb : TE} {σ : L2.St} {H : Hp} {sep : Str} {A : List Str → Prop} (ha : Er Z ta σ H (· = .s sep)) (hb : Er Z tb σ H (fun t => ∃ o, t = strsP o ∧ A o)) (hl : ∀ o, A o → (o.map (·.length)).sum + o.length * sep.length ≤ 16777216) :
    Er Z (tM1 (fun x xs H Q => ∃ a p, ∃ ys : List Str, x = .str a ∧ xs = [.ref p] ∧ (SqL Z.K H p (ys.map V.str) ∨ SqT Z.K H p (ys.map V.str)) ∧ (ys.map (·.length)).sum + ys.length * a.length ≤ 16777216 ∧ Q (.str (Txt.join a ys)) H) ta tb) σ H (fun t => ∃ o, t = .s (Txt.join sep o) ∧ A o) :=
  er_m1 (b := sep) ha hb fun u y H1 g j ⟨o, e, p⟩ ry Q q => by
    subst e
    obtain ⟨a, xs, rfl, na, h1, r1⟩ := ry
    rw [r1.strs'] at h1
    exact ⟨sep, a, o, rfl, rfl, .inl (SqL.of h1), hl o p, q _ _ H1 Gr.refl j ⟨o, rfl, p⟩ rfl⟩
theorem ok__law_odd_line (T : Tx K mg) : Has P w K mg base CX0 3 "_law_odd_line" ["_law_pot_here", "_law_line", "_law_is_first"] (spR K pre_oddl) := by
  obtain ⟨f, fd, F, g⟩ := T.d__law_odd_line
  refine ⟨f, fd, g, F.kp, F.bindsN (ps := ["_law_pot_here", "_law_line", "_law_is_first"]) (fun _ _ _ _ _ _ us hl => match us, hl with | [_, _, _], _ => rfl), ?_⟩
  refine F.ok sc__law_odd_line (fun vs H Q E h => ?_) (fun cdv A outer s H vs Q E hr h => ?_)
  · obtain ⟨Z, ts, P', _, _, rs, ⟨p, W, fs, _, rfl, _⟩, _⟩ := h
    exact rs.length
  · obtain ⟨Z, ts, P', rfl, j, rs, ⟨p, W, first, hpot, rfl, hW, hP⟩, k⟩ := h
    obtain ⟨vp, _, rfl, rp, vl, _, rfl, rl, vf, _, rfl, rfi, rfl⟩ := rs
    refine ⟨_, (pss_cons (ps_set (i := 3) sc__law_odd_line.nd rfl (Or.inl rfl) (pe_split (pv 1) pe_str))
      (pss_cons (ps_set (i := 4) sc__law_odd_line.nd rfl (Or.inl rfl) (pe_lst (pa_cons (pe_op op_cat (pv 3) (pe_op op_rep (pe_lst (pa_cons pe_str pa_nil)) pe_int)) (pa_cons (pe_op op_cat (pe_lst (pa_cons (pe_upper (pe_ix (r := rIxL Z.K) ix_list (pv 3) pe_int (fun _ _ => rfl))) pa_nil)) (pe_slice (r := rSlL Z.K) sl_list (pv 3) (po_some pe_int) po_none)) (pa_cons (pe_op op_cat (pe_lst (pa_cons pe_str pa_nil)) (pv 3)) (pa_cons (pe_op op_cat (pv 3) (pe_lst (pa_cons pe_str pa_nil))) (pa_cons (pe_slice (r := rSlL Z.K) sl_list (pv 3) po_none (po_some pe_int)) pa_nil)))))))
      (pss_cons (ps_set (i := 4) sc__law_odd_line.nd rfl (Or.inl rfl) (pe_op op_cat (pv 4) (pe_lst (pa_cons (pe_op op_cat (pe_slice (r := rSlL Z.K) sl_list (pv 3) po_none (po_some (pe_un un_neg pe_int))) (pe_lst (pa_cons pe_str pa_nil))) (pa_cons (pe_op op_cat (pe_slice (r := rSlL Z.K) sl_list (pv 3) po_none (po_some (pe_un un_neg pe_int))) (pe_lst (pa_cons pe_str pa_nil))) (pa_cons (pe_op op_cat (pe_slice (r := rSlL Z.K) sl_list (pv 3) po_none (po_some (pe_un un_neg pe_int))) (pe_lst (pa_cons pe_str pa_nil))) (pa_cons (pe_lst (pa_cons pe_str (pa_cons pe_str (pa_cons pe_str (pa_cons pe_str (pa_cons pe_str pa_nil)))))) pa_nil)))))))
      (pss_cons (ps_if (pt_not (pt_val (pv 2))) (pss_cons (ps_set (i := 4) sc__law_odd_line.nd rfl (Or.inl rfl) (pe_op op_cat (pv 4) (pe_lst (pa_cons (pe_slice (r := rSlL Z.K) sl_list (pv 3) po_none (po_some (pe_un un_neg pe_int))) (pa_cons (pe_op op_cat (pe_lst (pa_cons (pe_ix (r := rIxL Z.K) ix_list (pv 3) pe_int (fun _ _ => rfl)) (pa_cons pe_str pa_nil))) (pe_slice (r := rSlL Z.K) sl_list (pv 3) (po_some pe_int) po_none)) (pa_cons (pe_op op_cat (pe_lst (pa_cons (pe_ix (r := rIxL Z.K) ix_list (pv 3) pe_int (fun _ _ => rfl)) (pa_cons pe_str pa_nil))) (pe_slice (r := rSlL Z.K) sl_list (pv 3) (po_some pe_int) po_none)) (pa_cons (pe_op op_cat (pe_lst (pa_cons (pe_ix (r := rIxL Z.K) ix_list (pv 3) pe_int (fun _ _ => rfl)) (pa_cons pe_str pa_nil))) (pe_slice (r := rSlL Z.K) sl_list (pv 3) (po_some pe_int) po_none)) pa_nil)))))))
      (pss_one (ps_set (i := 4) sc__law_odd_line.nd rfl (Or.inl rfl) (pe_op op_cat (pv 4) (pe_lst (pa_cons (pe_op op_cat (pe_lst (pa_cons (pe_ix (r := rIxL Z.K) ix_list (pv 3) pe_int (fun _ _ => rfl)) (pa_cons pe_str pa_nil))) (pe_slice (r := rSlL Z.K) sl_list (pv 3) (po_some pe_int) po_none)) (pa_cons (pe_op op_cat (pe_lst (pa_cons (pe_ix (r := rIxL Z.K) ix_list (pv 3) pe_int (fun _ _ => rfl)) (pa_cons pe_str pa_nil))) (pe_slice (r := rSlL Z.K) sl_list (pv 3) (po_some pe_int) po_none)) pa_nil))))))) pss_nil)
      (pss_one (ps_ret (pe_join pe_str (pe_has (ok__law_pick T) (hr.mono (by decide)) pass0 (pa_cons (pv 0) (pa_cons (pv 4) pa_nil)))))))))), ?_⟩
    have es := split_words hW.ne hW.sp
    have hlen := hW.len
    have hjl : (Txt.join " " W).length + 2 ≤ sizeLine := by
      have := len_join (n := 20) ⟨hW.len, hW.sz⟩
      exact Nat.le_trans (by omega : _ ≤ 222) (by decide)
    have splt : ∀ {n : Nat} {as : List PT}, as.length ≤ n → n ≤ 1000 → as.length ≤ sizeLine := fun h1 h2 => Nat.le_trans (Nat.le_trans h1 h2) (by decide)
    refine zq_asg (Er.imp (er_split (er_var rl ?_) er_s (by decide +kernel) hjl) fun t e => (by rw [es] at e; exact e : t = strsP W)) j fun t vw H1 g1 j1 e rw1 => ?_
    · rfl
    subst e
    have hw0 : (W.map PT.s)[0]? = some (.s (w0 W)) := by
      cases W with
      | nil => exact absurd rfl hW.ne
      | cons a b => rfl
    have hp0 : 0 < (W.map PT.s).length := by rw [List.length_map]; exact List.length_pos_iff.mpr hW.ne
    have sz : ∀ (l : List PT), l.length ≤ 100 → l.length ≤ sizeLine := fun l h => Nat.le_trans h (by decide)
    -- the pieces
    have vW : ∀ {σ : L2.St} {H2 : Hp}, Gr Z H1 H2 → σ[3]? = some (some vw) → Er Z (tVar 3) σ H2 (· = strsP W) := fun g h => er_var (rw1.mono g) h
    have pD : ∀ {σ : L2.St} {H2 : Hp} {k : Nat}, Gr Z H1 H2 → σ[3]? = some (some vw) → Er Z (tSl (rSlL Z.K) (tVar 3) (tPart (tC (.int (k : Int)))) tNoPart) σ H2 (· = strsP (W.drop k)) := fun {σ H2 k} g h => Er.imp (er_slL (vW g h) (eo_some er_i) eo_none) fun t e => by rw [e, cutP_from]; simp
    have pL : ∀ {σ : L2.St} {H2 : Hp}, Gr Z H1 H2 → σ[3]? = some (some vw) → Er Z (tSl (rSlL Z.K) (tVar 3) tNoPart (tPart (tUn (rU fun i => .int (-i)) (tC (.int 1))))) σ H2 (· = strsP W.dropLast) := fun {σ H2} g h => Er.imp (er_slL (vW g h) eo_none (eo_some (er_neg er_i))) fun t e => by rw [e, cutP_last]; simp
    have pT : ∀ {σ : L2.St} {H2 : Hp}, Gr Z H1 H2 → σ[3]? = some (some vw) → Er Z (tSl (rSlL Z.K) (tVar 3) tNoPart (tPart (tC (.int 1)))) σ H2 (· = strsP (W.take 1)) := fun {σ H2} g h => Er.imp (er_slL (vW g h) eo_none (eo_some er_i)) fun t e => by rw [e, show (1 : Int) = ((1 : Nat) : Int) from rfl, cutP_to]; simp
    have p0 : ∀ {σ : L2.St} {H2 : Hp}, Gr Z H1 H2 → σ[3]? = some (some vw) → Er Z (tOp (rIxL Z.K) (tVar 3) (tC (.int 0))) σ H2 (· = .s (w0 W)) := fun g h => er_ixL (vW g h) er_i (ixN0 hp0) hw0
    have hl2 : ∀ k, (W.drop k).length ≤ 100 := fun k => by rw [List.length_drop]; omega
    have hl3 : W.dropLast.length ≤ 100 := by rw [List.length_dropLast]; omega
    have hl1 : W.length ≤ 100 := by omega
    have r3 : (List.replicate (3 : Int).toNat [PT.s "-"]).flatten = [("-" : Str), "-", "-"].map PT.s := rfl
    have q3 : ∀ {σ : L2.St} {H2 : Hp}, Er Z (tOp rRep (tLst (tCons (tC (.str "-")) tNil)) (tC (.int 3))) σ H2 (· = strsP [("-" : Str), "-", "-"]) := Er.imp (er_rep (er_lW1 er_s) er_i (by decide) (by decide) (by decide)) fun t e => by rw [e]; rfl
    have tw : ∀ {σ : L2.St} {H2 : Hp} {z : Str}, Gr Z H1 H2 → σ[3]? = some (some vw) → Er Z (tOp rCat (tLst (tCons (tOp (rIxL Z.K) (tVar 3) (tC (.int 0))) (tCons (tC (.str z)) tNil))) (tSl (rSlL Z.K) (tVar 3) (tPart (tC (.int 2))) tNoPart)) σ H2 (· = strsP (w0 W :: z :: W.drop 2)) := fun g h =>
      er_catW (A := [w0 W, _]) (er_lW2 (p0 g h) er_s) (pD (k := 2) g h) (by simp) (hl2 2)
    refine zq_asg (er_lstc (us := ([W ++ [("-" : Str), "-", "-"], Txt.upper (w0 W) :: W.drop 1, ("" : Str) :: W, W ++ [("" : Str)], W.take 1] : List (List Str)).map strsP)
      (ea_c (er_catW (vW Gr.refl ?_) q3 hl1 (by simp)) (ea_c (er_catW (A := [_]) (er_lW1 (er_upper (p0 Gr.refl ?_) ?_)) (pD (k := 1) Gr.refl ?_) (by simp) (hl2 1)) (ea_c (er_catW (A := [_]) (er_lW1 er_s) (vW Gr.refl ?_) (by simp) hl1) (ea_c (er_catW (vW Gr.refl ?_) (er_lW1 er_s) hl1 (by simp)) (ea_c (pT Gr.refl ?_) ea_nil))))) (show 5 ≤ sizeLine by decide)) j1 fun t v2 H2 g2 j2 e r2 => ?_
    · rfl
    · rfl
    · have h0 : (w0 W).length ≤ 10 := by
        cases W with
        | nil => exact absurd rfl hW.ne
        | cons a b => exact hW.sz a (by simp)
      omega
    · rfl
    · rfl
    · rfl
    · rfl
    subst e
    refine zq_asg (er_catc (er_var r2 ?_) (er_lstc (us := ([W.dropLast ++ [("2" : Str)], W.dropLast ++ [("0-" : Str)], W.dropLast ++ [("" : Str)], [("first" : Str), "-", "-", "-", "-"]] : List (List Str)).map strsP)
      (ea_c (er_catW (pL g2 ?_) (er_lW1 er_s) hl3 (by simp)) (ea_c (er_catW (pL g2 ?_) (er_lW1 er_s) hl3 (by simp)) (ea_c (er_catW (pL g2 ?_) (er_lW1 er_s) hl3 (by simp)) (ea_c (er_lstc (ea_c er_s (ea_c er_s (ea_c er_s (ea_c er_s (ea_c er_s ea_nil)))))) ea_nil)))) (show 4 ≤ sizeLine by decide)) (show 5 + 4 ≤ sizeLine by decide)) j2 fun t v3 H3 g3 j3 e r3' => ?_
    · rfl
    · rfl
    · rfl
    · rfl
    rw [← List.map_append] at e
    subst e
    have g13 := g2.trans g3
    have fin : ∀ {σ : L2.St} {H9 : Hp} {v9 : V}, Gr Z H1 H9 → Z.J H9 → σ[0]? = some (some vp) → σ[4]? = some (some v9) → Rep Z H9 (.l ((oddW W first).map strsP)) v9 → tRet (tM1 (fun x xs H Q => ∃ a p, ∃ ys : List Str, x = .str a ∧ xs = [.ref p] ∧ (SqL Z.K H p (ys.map V.str) ∨ SqT Z.K H p (ys.map V.str)) ∧ (ys.map (·.length)).sum + ys.length * a.length ≤ 16777216 ∧ Q (.str (Txt.join a ys)) H) (tC (.str " ")) (tCall (spR Z.K pre_pick) [] E0 (tCons (tVar 0) (tCons (tVar 4) tNil)))) { nx := fun _ H' => Q .non H', rt := Q } σ H9 := fun {σ H9 v9} g9 j9 h0 h4 r9 => by
      refine z_ret (er_joinP (A := fun o => o ∈ oddW W first) er_s (Er.imp (er_pick hpot (er_var (t := .r p) ((rp.mono g1).mono g9) h0) (er_var r9 h4) ?_ ?_) ?_) ?_) j9 fun t v H4 g4 j4 ⟨o, e, ho⟩ r4 => k t v H4 ((g1.trans g9).trans g4) j4 (by rw [e]; exact hP o ho) r4
      · simp [oddW]
      · rw [List.length_map]
        cases first
        · exact (show 15 ≤ 1000 by decide)
        · exact (show 9 ≤ 1000 by decide)
      · intro t ht
        obtain ⟨o, ho, rfl⟩ := List.mem_map.mp ht
        exact ⟨o, rfl, ho⟩
      · intro o ho
        have := mem_oddW hW o ho
        exact join_bound (b := 10) (c := 30) this.2 this.1 (by decide)
    cases first with
    | true =>
      refine zq_when (b := false) (Eb.imp (eb_not (eb_B (c := true) (er_var (((rfi.mono g1).mono g2).mono g3) ?_))) fun b e => by rw [e]; rfl) j3 (fun z => (by cases z)) fun _ H4 g4 j4 => ?_
      · rfl
      · refine fin (g13.trans g4) j4 ?_ ?_ (r3'.mono g4)
        · rfl
        · rfl
    | false =>
      refine zq_when (b := true) (Eb.imp (eb_not (eb_B (c := false) (er_var (((rfi.mono g1).mono g2).mono g3) ?_))) fun b e => by rw [e]; rfl) j3 (fun _ H4 g4 j4 => ?_) fun z => (by cases z)
      · rfl
      · have g14 := g13.trans g4
        refine zq_asg (er_catc (er_var (r3'.mono g4) ?_) (er_lstc (us := ([W.dropLast, w0 W :: ("00" : Str) :: W.drop 2, w0 W :: ("-" : Str) :: W.drop 2, w0 W :: ("x" : Str) :: W.drop 2] : List (List Str)).map strsP)
          (ea_c (pL g14 ?_) (ea_c (tw g14 ?_) (ea_c (tw g14 ?_) (ea_c (tw g14 ?_) ea_nil)))) (show 4 ≤ sizeLine by decide)) (show 9 + 4 ≤ sizeLine by decide)) j4 fun t v5 H5 g5 j5 e r5 => ?_
        · rfl
        · rfl
        · rfl
        · rfl
        · rfl
        subst e
        have g15 := g14.trans g5
        refine z_asg (er_catc (er_var r5 ?_) (er_lstc (us := ([w0 W :: ("+0" : Str) :: W.drop 2, w0 W :: ("0_0" : Str) :: W.drop 2] : List (List Str)).map strsP)
          (ea_c (tw g15 ?_) (ea_c (tw g15 ?_) ea_nil)) (show 2 ≤ sizeLine by decide)) (show 13 + 2 ≤ sizeLine by decide)) j5 fun t v6 H6 g6 j6 e r6 => ?_
        · rfl
        · rfl
        · rfl
        subst e
        have e9 : PT.l ((([W ++ [("-" : Str), "-", "-"], Txt.upper (w0 W) :: W.drop 1, ("" : Str) :: W, W ++ [("" : Str)], W.take 1] ++ [W.dropLast ++ [("2" : Str)], W.dropLast ++ [("0-" : Str)], W.dropLast ++ [("" : Str)], [("first" : Str), "-", "-", "-", "-"]] : List (List Str)).map strsP ++ ([W.dropLast, w0 W :: ("00" : Str) :: W.drop 2, w0 W :: ("-" : Str) :: W.drop 2, w0 W :: ("x" : Str) :: W.drop 2] : List (List Str)).map strsP) ++ ([w0 W :: ("+0" : Str) :: W.drop 2, w0 W :: ("0_0" : Str) :: W.drop 2] : List (List Str)).map strsP) = PT.l ((oddW W false).map strsP) := by
          simp [oddW]
        rw [e9] at r6
        refine fin (g15.trans g6) j6 ?_ ?_ r6
        · rfl
        · rfl
end
end Fy
/-! L6 -/
namespace Fy
open PySem PySem.Spec PyProof.Rows L2 LamX
def farW (W : List Str) (at_ : Nat) (n : Int) : List Str := W.take at_ ++ [numS n] ++ W.drop (at_ + 1)
section
variable {P : Program} {w : World} {K : PySem.W.Frag} {mg : Str → Option Value} {base : Heap}
def pre_far : Ez → List PT → (PT → Prop) → Prop := fun Z ts P => ∃ (p : Addr) (W : List Str) (place : Nat), HasPot Z p ∧ ts = [.r p, .s (Txt.join " " W), .i place] ∧ LineOk W ∧ place ≤ 90 ∧ ∀ at_ n : Nat, (at_ = 1 ∨ at_ = 1 + (W.length - 1) / 2) → (n = place ∨ n = place + 1) → P (.s (Txt.join " " (farW W at_ n)))
theorem sc__law_far_place : FnScope ["_law_pot_here", "_law_line", "_law_place", "_law_words", "_law_at"] ["_law_pot_here", "_law_line", "_law_place"] (defScope s__law_far_place) := ⟨rfl, rfl, rfl, by decide +kernel, rfl, by decide +kernel, by decide +kernel⟩
theorem er_strP {Z : Ez} {te : TE} {σ : L2.St} {H : Hp} {A : Int → Prop} (h : Er Z te σ H (fun t => ∃ n, t = .i n ∧ A n)) (hi : ∀ n, A n → n.natAbs.log2 < 1920) : Er Z (tCB (fun xs H Q => ∃ i, xs = [.int i] ∧ i.natAbs.log2 < 1920 ∧ Q (.str (toString i)) H) (tCons te tNil)) σ H (fun t => ∃ n, t = .s (numS n) ∧ A n) :=
  er_cb (ea_1 h) fun ts vs H1 _ j ⟨t, e, n, p, an⟩ rs Q q => by
    subst e p
    obtain ⟨x, xs, rfl, rx, rfl⟩ := rs
    exact ⟨n, by rw [show x = _ from rx], hi n an, q _ _ H1 Gr.refl j ⟨n, rfl, an⟩ rfl⟩
theorem far_small {W : List Str} (hW : LineOk W) {a n : Nat} (hn : n ≤ 99) : Sm 41 (farW W a n) := by
  have s1 : Sm 20 (W.take a) := ⟨by rw [List.length_take]; have := hW.len; omega, fun z hz => hW.sz z (List.mem_of_mem_take hz)⟩
  have s2 : Sm 20 (W.drop (a + 1)) := ⟨by rw [List.length_drop]; have := hW.len; omega, fun z hz => hW.sz z (List.mem_of_mem_drop hz)⟩
  have s3 : Sm 1 [numS n] := Sm.cons (Nat.le_trans (num_small (i := n) (many := 100) (by omega) (by omega) (by decide)) (by decide)) Sm.nil
  exact (s1.app s3).app s2
theorem ok__law_far_place (T : Tx K mg) : Has P w K mg base CX0 3 "_law_far_place" ["_law_pot_here", "_law_line", "_law_place"] (spR K pre_far) := by
  obtain ⟨f, fd, F, g⟩ := T.d__law_far_place
  refine ⟨f, fd, g, F.kp, F.bindsN (ps := ["_law_pot_here", "_law_line", "_law_place"]) (fun _ _ _ _ _ _ us hl => match us, hl with | [_, _, _], _ => rfl), ?_⟩
  refine F.ok sc__law_far_place (fun vs H Q E h => ?_) (fun cdv A outer s H vs Q E hr h => ?_)
  · obtain ⟨Z, ts, P', _, _, rs, ⟨p, W, fs, _, rfl, _⟩, _⟩ := h
    exact rs.length
  · obtain ⟨Z, ts, P', rfl, j, rs, ⟨p, W, place, hpot, rfl, hW, hpl, hP⟩, k⟩ := h
    obtain ⟨vp, _, rfl, rp, vl, _, rfl, rl, vf, _, rfl, rfi, rfl⟩ := rs
    refine ⟨_, (pss_cons (ps_set (i := 3) sc__law_far_place.nd rfl (Or.inl rfl) (pe_split (pv 1) pe_str))
      (pss_cons (ps_set (i := 4) sc__law_far_place.nd rfl (Or.inl rfl) (pe_has (ok__law_pick T) (hr.mono (by decide)) pass0 (pa_cons (pv 0) (pa_cons (pe_lst (pa_cons pe_int (pa_cons (pe_op op_add pe_int (pe_op op_fdiv (pe_op op_sub (pe_callB (r := rLenSq Z.K) call_lenK (by rfl) T.n_len boot_len (pa_cons (pv 3) pa_nil)) pe_int) pe_int)) pa_nil))) pa_nil))))
      (pss_one (ps_ret (pe_join pe_str (pe_op op_cat (pe_op op_cat (pe_slice (r := rSlL Z.K) sl_list (pv 3) po_none (po_some (pv 4))) (pe_lst (pa_cons (pe_callTy call_str_int (by rfl) T.n_str b_str (pa_cons (pe_op op_add (pv 2) (pe_has (ok__law_draw T) (hr.mono (by decide)) pass0 (pa_cons (pv 0) (pa_cons pe_int pa_nil)))) pa_nil)) pa_nil))) (pe_slice (r := rSlL Z.K) sl_list (pv 3) (po_some (pe_op op_add (pv 4) pe_int)) po_none))))))), ?_⟩
    have es := split_words hW.ne hW.sp
    have hlen := hW.len
    have hjl : (Txt.join " " W).length + 2 ≤ sizeLine := by
      have := len_join (n := 20) ⟨hW.len, hW.sz⟩
      exact Nat.le_trans (by omega : _ ≤ 222) (by decide)
    refine zq_asg (Er.imp (er_split (er_var rl ?_) er_s (by decide +kernel) hjl) fun t e => (by rw [es] at e; exact e : t = strsP W)) j fun t vw H1 g1 j1 e rw1 => ?_
    · rfl
    subst e
    have hW0 : 0 < W.length := List.length_pos_iff.mpr hW.ne
    refine zq_asg (Er.imp (er_pick hpot (er_var (t := .r p) (rp.mono g1) ?_) (er_lstc (us := [.i 1, .i ((1 + (W.length - 1) / 2 : Nat) : Int)]) (ea_c er_i (ea_c (er_I0 er_i (er_I (t := .i (((W.length : Int) - 1) / 2)) (er_I0 (t := .i ((W.length : Int) - 1)) (Er.imp (er_lenL (er_var rw1 ?_)) fun t e => by rw [e, List.length_map]) er_i fun _ => rfl) er_i ⟨by decide, by decide⟩ fun _ => rfl) fun _ => ?_) ea_nil)) (show 2 ≤ sizeLine by decide)) (by simp) (show 2 ≤ 1000 by decide)) (fun t ht => (?_ : ∃ a : Nat, t = .i a ∧ (a = 1 ∨ a = 1 + (W.length - 1) / 2)))) j1 fun t va H2 g2 j2 ⟨a, e, ha⟩ ra => ?_
    · rfl
    · rfl
    · show V.int _ = V.int _
      congr 1
      omega
    · simp only [List.mem_cons, List.not_mem_nil, or_false] at ht
      rcases ht with rfl | rfl
      · exact ⟨1, rfl, .inl rfl⟩
      · exact ⟨_, rfl, .inr rfl⟩
    subst e
    have ha20 : a ≤ 20 := by omega
    refine z_ret (er_joinP (A := fun o => ∃ n : Nat, o = farW W a n ∧ (n = place ∨ n = place + 1)) er_s (Er.imp (er_cat (A := fun l => ∃ n : Nat, l = (W.take a ++ [numS n]).map PT.s ∧ (n = place ∨ n = place + 1)) (B := fun l => l = (W.drop (a + 1)).map PT.s)
      (Er.imp (er_cat (A := fun l => l = (W.take a).map PT.s) (B := fun l => ∃ n : Nat, l = [.s (numS n)] ∧ (n = place ∨ n = place + 1)) (Er.imp (er_slL (er_var (rw1.mono g2) ?_) eo_none (eo_some (er_var ra ?_))) fun t e => ⟨_, e, by rw [cutP_to, List.map_take]⟩)
        (Er.imp (er_lst (ea_1 (er_strP (A := fun n => n = (place : Int) ∨ n = (place : Int) + 1) (er_I0P (S := fun t => ∃ n : Int, t = .i n ∧ (n = (place : Int) ∨ n = (place : Int) + 1)) (A := fun x => x = (place : Int)) (B := fun x => 0 ≤ x ∧ x < 2) (Er.imp (er_var ((rfi.mono g1).mono g2) ?_) fun t e => ⟨_, e, rfl⟩) (er_draw hpot (er_var (t := .r p) ((rp.mono g1).mono g2) ?_) er_i (by decide) (by decide)) ?_) ?_)) ?_) ?_) ?_) ?_)
      (Er.imp (er_slL (er_var (rw1.mono g2) ?_) (eo_some (er_I0 (t := .i ((a + 1 : Nat) : Int)) (er_var ra ?_) er_i fun _ => ?_)) eo_none) fun t e => ⟨_, e, by rw [cutP_from, List.map_drop]⟩) ?_) ?_) ?_) j2 fun t v H4 g4 j4 ⟨o, e, n, eo, hn⟩ r4 => k t v H4 ((g1.trans g2).trans g4) j4 (by rw [e, eo]; exact hP a n ha hn) r4
    · rfl
    · rfl
    · rfl
    · rfl
    · rintro x y H9 rfl ⟨h0, h1⟩
      exact ⟨.i (place + y), ⟨_, rfl, by omega⟩, rfl⟩
    · intro n hn
      have h3 : n.natAbs < 2 ^ 10 := by omega
      exact Nat.lt_of_le_of_lt (Nat.log2_le_self _) (by omega)
    · rintro ts ⟨t, rfl, _⟩
      exact (show 1 ≤ sizeLine by decide)
    · rintro t ⟨ts, rfl, t1, rfl, n, rfl, hn⟩
      refine ⟨_, rfl, n.toNat, ?_, by omega⟩
      have : ((n.toNat : Nat) : Int) = n := by omega
      rw [this]
    · rintro x y rfl ⟨n, rfl, _⟩
      rw [List.length_map, List.length_take, List.length_singleton]
      exact Nat.le_trans (by omega : _ ≤ 30) (by decide)
    · rintro t ⟨x, y, rfl, rfl, n, rfl, hn⟩
      exact ⟨_, rfl, n, by simp, hn⟩
    · rfl
    · rfl
    · show V.int _ = V.int _
      congr 1
    · rintro x y ⟨n, rfl, _⟩ rfl
      rw [List.length_map, List.length_map, List.length_append, List.length_take, List.length_drop, List.length_singleton]
      exact Nat.le_trans (by omega : _ ≤ 60) (by decide)
    · rintro t ⟨x, y, rfl, ⟨n, rfl, hn⟩, rfl⟩
      exact ⟨farW W a n, by simp [farW], n, rfl, hn⟩
    · rintro o ⟨n, rfl, hn⟩
      have := far_small hW (a := a) (n := n) (by omega)
      exact join_bound (b := 10) (c := 41) this.2 this.1 (by decide)
end
end Fy
/-! Pt2 -/
/-! tables, plain: what reading makes of the law's sheets -/
namespace Fy
open PySem
theorem dash_notes : ∀ z ∈ notes, isTW (dash z) = true ∧ 32 ∉ TL.tl (dash z) ∧ 10 ∉ TL.tl (dash z) := by decide +kernel
theorem nums_ok : ∀ n < 100, isNum (numS ((n : Nat) : Int)) = true ∧ numOf (numS ((n : Nat) : Int)) = (n : Int) ∧ 32 ∉ TL.tl (numS ((n : Nat) : Int)) ∧ 10 ∉ TL.tl (numS ((n : Nat) : Int)) := by decide +kernel
theorem num_ok {i : Int} (h0 : 0 ≤ i) (h1 : i < 100) : isNum (numS i) = true ∧ numOf (numS i) = i ∧ 32 ∉ TL.tl (numS i) ∧ 10 ∉ TL.tl (numS i) := by
  obtain ⟨n, rfl⟩ := Int.eq_ofNat_of_zero_le h0
  exact nums_ok n (by omega)
/-- a way whose place need not be one of the table's -/
structure WayW (n : Nat) (x : Int × List Str) : Prop where
  lo : 0 ≤ x.1
  hi : x.1 < 100
  len : x.2.length = n
  nt : ∀ z ∈ x.2, z ∈ notes
theorem WayOk.w {n many : Nat} {x : Int × List Str} (h : WayOk n many x) (hm : many ≤ 100) : WayW n x := ⟨h.lo, by have := h.hi; omega, h.len, h.nt⟩
theorem all_dash {l : List Str} (h : ∀ z ∈ l, z ∈ notes) : (l.map dash).all isTW = true := by
  rw [List.all_map, List.all_eq_true]
  intro z hz
  exact (dash_notes z (h z hz)).1
theorem goodF {f : List Str} (h : ∀ z ∈ f, z ∈ notes) : GoodF f.length (firstWords f) := ⟨f.map dash, rfl, by simp, all_dash h⟩
theorem goodR {n : Nat} {r : Row} (h1 : WayW n r.1) (h2 : WayW n r.2) : GoodR n r.1.1 r.2.1 (rowWords r) :=
  ⟨numS r.1.1, numS r.2.1, r.1.2.map dash, r.2.2.map dash, by simp [rowWords, wayWords], by simp [h1.len], by simp [h2.len], all_dash h1.nt, all_dash h2.nt, (num_ok h1.lo h1.hi).1, (num_ok h2.lo h2.hi).1, (num_ok h1.lo h1.hi).2.1, (num_ok h2.lo h2.hi).2.1⟩
/-- words without blanks and ends of line -/
def Cl (z : Str) : Prop := 32 ∉ TL.tl z ∧ 10 ∉ TL.tl z
theorem cl_way {n : Nat} {x : Int × List Str} (h : WayW n x) : ∀ z ∈ wayWords x, Cl z ∧ z.length ≤ 10 := by
  intro z hz
  rcases List.mem_cons.mp hz with rfl | hz
  · exact ⟨(num_ok h.lo h.hi).2.2, Nat.le_trans (num_small (many := 100) h.lo h.hi (by decide)) (by decide)⟩
  · obtain ⟨y, hy, rfl⟩ := List.mem_map.mp hz
    exact ⟨(dash_notes y (h.nt y hy)).2, Nat.le_trans (note_small y (h.nt y hy)).2 (by decide)⟩
theorem cl_place : Cl "place" ∧ Cl "first" := by unfold Cl; decide +kernel
theorem cl_row {n : Nat} {r : Row} (h1 : WayW n r.1) (h2 : WayW n r.2) : ∀ z ∈ rowWords r, Cl z ∧ z.length ≤ 10 := by
  intro z hz
  rcases List.mem_cons.mp hz with rfl | hz
  · exact ⟨cl_place.1, by decide +kernel⟩
  · exact (List.mem_append.mp hz).elim (cl_way h1 z) (cl_way h2 z)
theorem cl_first {f : List Str} (h : ∀ z ∈ f, z ∈ notes) : ∀ z ∈ firstWords f, Cl z ∧ z.length ≤ 10 := by
  intro z hz
  rcases List.mem_cons.mp hz with rfl | hz
  · exact ⟨cl_place.2, by decide +kernel⟩
  · obtain ⟨y, hy, rfl⟩ := List.mem_map.mp hz
    exact ⟨(dash_notes y (h y hy)).2, Nat.le_trans (note_small y (h y hy)).2 (by decide)⟩
theorem lineR {n : Nat} {r : Row} (hn : n ≤ 3) (h1 : WayW n r.1) (h2 : WayW n r.2) : LineOk (rowWords r) := ⟨by simp [rowWords], fun z hz => (cl_row h1 h2 z hz).1.1, by simp [rowWords, wayWords, h1.len, h2.len]; omega, fun z hz => (cl_row h1 h2 z hz).2, (show (Txt.upper ("place" : Str)).length ≤ 10 by decide +kernel)⟩
theorem lineF {f : List Str} (hn : f.length ≤ 3) (h : ∀ z ∈ f, z ∈ notes) : LineOk (firstWords f) := ⟨by simp [firstWords], fun z hz => (cl_first h z hz).1.1, by simp [firstWords]; omega, fun z hz => (cl_first h z hz).2, (show (Txt.upper ("first" : Str)).length ≤ 10 by decide +kernel)⟩
/-! odd lines are refused -/
theorem odd_first {f : List Str} (hn : 1 ≤ f.length) (hn3 : f.length ≤ 3) (line : Int) (rows : List (Int × Int × Int)) : ∀ o ∈ oddW (firstWords f) true, takeT o line none rows = none := by
  have hl : (firstWords f).length = f.length + 1 := by simp [firstWords]
  have bad : ∀ {o : List Str} {z : Str}, z ∈ o.drop 1 → isTW z = false → takeT o line none rows = none := fun {o z} hz h => tkN fun c => by
    have := List.all_eq_true.mp c.2.2.2 z hz
    rw [h] at this
    cases this
  have lng : ∀ {o : List Str}, 4 < o.length → takeT o line none rows = none := fun h => tkN fun c => by omega
  have w0' : ∀ {z : Str} {o : List Str}, ¬ z = "first" → takeT (z :: o) line none rows = none := fun h => tkN fun c => h c.1
  have dl : ∀ z : Str, z ∈ (((firstWords f).dropLast ++ [z]).drop 1) := fun z => by
    have hne : f ≠ [] := fun e => by rw [e] at hn; cases hn
    unfold firstWords
    cases h : f.map dash with
    | nil => exact absurd (List.map_eq_nil_iff.mp h) hne
    | cons a b => simp
  refine all_oddW (lng (by rw [List.length_append, hl]; simp; omega)) (w0' (show ¬ Txt.upper ("first" : Str) = "first" by decide +kernel)) (w0' (by decide +kernel)) ?_ (tkN fun c => by have := c.2.1; rw [List.length_take] at this; omega) (bad (dl "2") (by decide +kernel)) (bad (dl "0-") (by decide +kernel)) (bad (dl "") (by decide +kernel)) (lng (by decide)) fun h => by cases h
  exact bad (z := "") (by simp [firstWords]) (by decide +kernel)
theorem odd_row {n : Nat} {r : Row} (hn : 1 ≤ n) (h1 : WayW n r.1) (h2 : WayW n r.2) (line : Int) (rows : List (Int × Int × Int)) : ∀ o ∈ oddW (rowWords r) false, takeT o line (some n) rows = none := by
  have hl : (rowWords r).length = 2 * n + 3 := by simp [rowWords, wayWords, h1.len, h2.len]; omega
  have len : ∀ {o : List Str}, o.length ≠ 2 * n + 3 → takeT o line (some n) rows = none := fun h => tkS fun c => by omega
  have w0' : ∀ {z : Str} {o : List Str}, ¬ z = "place" → takeT (z :: o) line (some n) rows = none := fun h => tkS fun c => h c.1
  -- the last word of the line is in the second piece
  have last : ∀ z : Str, isTW z = false → takeT ((rowWords r).dropLast ++ [z]) line (some n) rows = none := fun z hz => tkS fun c => by
    have hp := c.2.2.2.2
    have e : ((rowWords r).dropLast ++ [z]).drop (n + 2) = (numS r.2.1 :: (r.2.2.map dash)).dropLast ++ [z] := by
      have e1 : rowWords r = (("place" : Str) :: numS r.1.1 :: r.1.2.map dash) ++ (numS r.2.1 :: r.2.2.map dash) := by simp [rowWords, wayWords]
      rw [e1, List.dropLast_append_of_ne_nil (by simp), List.append_assoc]
      have e2 : (("place" : Str) :: numS r.1.1 :: r.1.2.map dash).length = n + 2 := by simp [h1.len]
      rw [← e2, List.drop_left]
    rw [e] at hp
    have hne : r.2.2 ≠ [] := fun q => by have := h2.len; rw [q] at this; simp at this; omega
    cases hd : r.2.2.map dash with
    | nil => exact hne (List.map_eq_nil_iff.mp hd)
    | cons a b =>
      rw [hd] at hp
      have hp : pieceOk (numS r.2.1 :: ((a :: b).dropLast ++ [z])) = true := hp
      simp [pieceOk, hz] at hp
  have sec : ∀ z : Str, isNum z = false → takeT (w0 (rowWords r) :: z :: (rowWords r).drop 2) line (some n) rows = none := fun z hz => tkS fun c => by
    have hp := c.2.2.2.1
    have hp : pieceOk (z :: ((rowWords r).drop 2).take n) = true := hp
    simp [pieceOk, hz] at hp
  refine all_oddW (len (by rw [List.length_append, hl]; simp)) (w0' (show ¬ Txt.upper ("place" : Str) = "place" by decide +kernel)) (w0' (by decide +kernel)) (len (by rw [List.length_append, hl]; simp)) (len (by rw [List.length_take]; omega)) (last _ (by decide +kernel)) (last _ (by decide +kernel)) (last _ (by decide +kernel)) (w0' (by decide +kernel)) fun _ => ?_
  exact ⟨len (by rw [List.length_dropLast, hl]; omega), sec _ (by decide +kernel), sec _ (by decide +kernel), sec _ (by decide +kernel), sec _ (by decide +kernel), sec _ (by decide +kernel)⟩
/-! a place too far -/
theorem far_1 {r : Row} (n : Int) : farW (rowWords r) 1 n = rowWords ((n, r.1.2), r.2) := by simp [farW, rowWords, wayWords]
theorem far_2 {n : Nat} {r : Row} (h1 : WayW n r.1) (h2 : WayW n r.2) (m : Int) : farW (rowWords r) (1 + ((rowWords r).length - 1) / 2) m = rowWords (r.1, (m, r.2.2)) := by
  have hl : (rowWords r).length = 2 * n + 3 := by simp [rowWords, wayWords, h1.len, h2.len]; omega
  have e : 1 + ((rowWords r).length - 1) / 2 = n + 2 := by omega
  rw [e]
  have e1 : ∀ x : Int × List Str, rowWords (r.1, x) = (("place" : Str) :: numS r.1.1 :: r.1.2.map dash) ++ (numS x.1 :: x.2.map dash) := fun x => by simp [rowWords, wayWords]
  have e2 : (("place" : Str) :: numS r.1.1 :: r.1.2.map dash).length = n + 2 := by simp [h1.len]
  unfold farW
  have e3 : rowWords r = rowWords (r.1, r.2) := rfl
  rw [e3, e1, e1, ← e2, List.take_left, ← List.drop_drop, List.drop_left]
  simp
end Fy
/-! Pt3 -/
namespace Fy
open PySem
abbrev jn (ws : List Str) : Str := Txt.join " " ws
def absR (rows : List Row) : List (Int × Int) := rows.map fun r => (r.1.1, r.2.1)
def RowsW (n : Nat) (rows : List Row) : Prop := ∀ r ∈ rows, WayW n r.1 ∧ WayW n r.2
theorem TabOk.rowsW {f : List Str} {rows : List Row} (h : TabOk f rows) : RowsW f.length rows := fun r hr => by
  have h6 := h.r6
  exact ⟨(h.ok r hr).1.w (by omega), (h.ok r hr).2.w (by omega)⟩
theorem paired_rows {n : Nat} : ∀ {rows : List Row}, RowsW n rows → Paired (fun x ws => GoodR n x.1 x.2 ws) (absR rows) (rows.map rowWords)
  | [], _ => .nil
  | r :: rows, h => .cons (goodR (h r (by simp)).1 (h r (by simp)).2) (paired_rows fun q hq => h q (by simp [hq]))
/-- the words of a line, back -/
theorem split_jn {W : List Str} (h : LineOk W) : Txt.split (jn W) " " = W := split_words h.ne h.sp
theorem splits_rows {n : Nat} (hn : n ≤ 3) : ∀ {rows : List Row}, RowsW n rows → (rows.map fun r => jn (rowWords r)).map (fun z => Txt.split z " ") = rows.map rowWords := fun {rows} h => by
  rw [List.map_map]
  exact List.map_congr_left fun r hr => split_jn (lineR hn (h r hr).1 (h r hr).2)
theorem run_pre {f : List Str} (hf : ∀ z ∈ f, z ∈ notes) (h1 : 1 ≤ f.length) (h3 : f.length ≤ 3) {rows : List Row} (hr : RowsW f.length rows) (hl : rows.length ≤ 60) (more : List (List Str)) :
    runM stepT (firstWords f :: (rows.map rowWords ++ more)) 1 (none, []) = runM stepT more (2 + (rows.length : Nat)) (some f.length, told 2 (absR rows)) := by
  rw [run_first (goodF hf) h1 h3, run_rows 2 [] more (paired_rows hr) (by simp [absR]; omega)]
  have : (absR rows).length = rows.length := by simp [absR]
  rw [this, List.nil_append]
theorem readTL_end {ls : List Str} {wss : List (List Str)} (h : ls.map (fun z => Txt.split z " ") = wss) : readTL (ls ++ [("" : Str)]) = match runM stepT wss 1 (none, []) with
    | .error n => some n
    | .ok s => if s.2.isEmpty = true then some (ls.length + 1) else (wrongs s.2).head? := by
  unfold readTL readM
  rw [List.dropLast_concat, h]
  have e2 : (ls ++ [("" : Str)]).getLastD "" = "" := by simp
  rw [e2]
  have e3 : runM (fun zs n (s : Option Nat × List (Int × Int × Int)) => takeT zs n s.1 s.2) wss 1 (none, []) = runM stepT wss 1 (none, []) := rfl
  rw [e3]
  cases runM stepT wss 1 (none, []) with
  | error n => rfl
  | ok s =>
    show (if ("" : Str) ≠ "" ∨ (!s.2.isEmpty) = false then some ((ls.length : Int) + 1) else (wrongs s.2).head?) = if s.2.isEmpty = true then some ((ls.length : Int) + 1) else (wrongs s.2).head?
    cases hs : s.2.isEmpty
    · rw [if_neg (by simp), if_neg (by simp)]
    · rw [if_pos (by simp), if_pos rfl]
theorem readTL_bare {ls : List Str} {z : Str} {wss : List (List Str)} (h : ls.map (fun z => Txt.split z " ") = wss) (hz : z ≠ "") {s : Option Nat × List (Int × Int × Int)} (hs : runM stepT wss 1 (none, []) = .ok s) : readTL (ls ++ [z]) = some (ls.length + 1) := by
  unfold readTL readM
  rw [List.dropLast_concat, h]
  have e2 : (ls ++ [z]).getLastD "" = z := by simp
  rw [e2]
  have hs' : runM (fun zs n (s : Option Nat × List (Int × Int × Int)) => takeT zs n s.1 s.2) wss 1 (none, []) = .ok s := hs
  rw [hs']
  exact if_pos (.inl hz)
section
variable {f : List Str} {rows : List Row}
theorem wss_lines (h : TabOk f rows) (more : List Str) (mw : List (List Str)) (hm : more.map (fun z => Txt.split z " ") = mw) : (lines f rows ++ more).map (fun z => Txt.split z " ") = firstWords f :: (rows.map rowWords ++ mw) := by
  unfold lines
  rw [List.map_append, List.map_cons, hm, splits_rows h.n3 h.rowsW]
  show Txt.split (jn (firstWords f)) " " :: _ ++ _ = _
  rw [split_jn (lineF h.n3 h.nt)]
  rfl
theorem told_ne {abs : List (Int × Int)} (h : abs ≠ []) (line : Int) : (told line abs).isEmpty = false := by
  cases abs with
  | nil => exact absurd rfl h
  | cons a b => rfl
theorem abs_ne {rows : List Row} (h : 1 ≤ rows.length) : absR rows ≠ [] := fun e => by
  have := congrArg List.length e
  simp [absR] at this
  rw [this] at h
  simp at h
/-- R1: the whole sheet reads -/
theorem R1 (h : TabOk f rows) : readTL (lines f rows ++ [("" : Str)]) = none := by
  have hw := wss_lines h [] [] rfl
  rw [List.append_nil, List.append_nil] at hw
  rw [readTL_end hw]
  have := run_pre h.nt h.n1 h.n3 h.rowsW (by have := h.r6; omega) []
  rw [List.append_nil] at this
  rw [this]
  show (if (told 2 (absR rows)).isEmpty = true then _ else _) = _
  rw [if_neg (by rw [told_ne (abs_ne h.r1)]; decide), wrongs_none (many := rows.length) (by simp [absR]) ?_]
  · rfl
  · intro x hx
    obtain ⟨r, hr, rfl⟩ := List.mem_map.mp hx
    exact ⟨(h.ok r hr).1.hi, (h.ok r hr).2.hi⟩
/-- R2: an odd line -/
theorem R2 (h : TabOk f rows) {spot : Nat} (hs : spot < (lines f rows).length) {W o : List Str} (hW : (lines f rows)[spot]? = some (jn W) ∧ ((spot = 0 ∧ W = firstWords f) ∨ ∃ k r, spot = k + 1 ∧ rows[k]? = some r ∧ W = rowWords r)) (ho : o ∈ oddW W (decide (spot = 0))) (hos : Txt.split (jn o) " " = o) :
    readTL (((lines f rows).take spot ++ [jn o] ++ (lines f rows).drop (spot + 1)) ++ [("" : Str)]) = some ((spot : Int) + 1) := by
  rcases hW.2 with ⟨rfl, rfl⟩ | ⟨k, r, rfl, hk, rfl⟩
  · have hw : ((lines f rows).take 0 ++ [jn o] ++ (lines f rows).drop (0 + 1)).map (fun z => Txt.split z " ") = o :: ((lines f rows).drop 1).map (fun z => Txt.split z " ") := by
      show Txt.split (jn o) " " :: _ = _
      rw [hos]
      rfl
    rw [readTL_end hw, run_bad (show stepT o 1 (none, []) = none from odd_first h.n1 h.n3 1 [] o ho)]
    rfl
  · have hkl : k < rows.length := (List.getElem?_eq_some_iff.mp hk).1
    have hr : r ∈ rows := List.mem_of_getElem? hk
    have hw := h.rowsW
    have e1 : (lines f rows).take (k + 1) = jn (firstWords f) :: (rows.take k).map fun r => jn (rowWords r) := by
      show jn (firstWords f) :: (rows.map fun r => jn (rowWords r)).take k = _
      rw [List.map_take]
    have hwt : RowsW f.length (rows.take k) := fun q hq => hw q (List.mem_of_mem_take hq)
    have hw2 : ((lines f rows).take (k + 1) ++ [jn o] ++ (lines f rows).drop (k + 1 + 1)).map (fun z => Txt.split z " ") = firstWords f :: ((rows.take k).map rowWords ++ (o :: ((lines f rows).drop (k + 1 + 1)).map (fun z => Txt.split z " "))) := by
      rw [List.map_append, List.map_append, e1, List.map_cons, splits_rows h.n3 hwt, split_jn (lineF h.n3 h.nt)]
      show firstWords f :: _ ++ [Txt.split (jn o) " "] ++ _ = _
      rw [hos]
      simp
    have hlen : (rows.take k).length = k := by rw [List.length_take]; omega
    rw [readTL_end hw2, run_pre h.nt h.n1 h.n3 hwt (by have := h.r6; omega), hlen, run_bad (odd_row h.n1 (hw r hr).1 (hw r hr).2 _ _ o ho)]
    show some _ = some _
    congr 1
    omega
theorem R3 : readTL ([] ++ [("" : Str)]) = some 1 := by
  rw [readTL_end (ls := []) rfl]
  rfl
theorem R4 (h : TabOk f rows) : readTL ((lines f rows).take 1 ++ [("" : Str)]) = some 2 := by
  have hw : ((lines f rows).take 1).map (fun z => Txt.split z " ") = [firstWords f] := by
    show [Txt.split (jn (firstWords f)) " "] = _
    rw [split_jn (lineF h.n3 h.nt)]
  rw [readTL_end hw, run_first (goodF h.nt) h.n1 h.n3]
  rfl
/-- R5: one more odd line -/
theorem R5 (h : TabOk f rows) {x : Str} {xs : List Str} (hx : Txt.split x " " = xs) (hb : ∀ line rws, takeT xs line (some f.length) rws = none) : readTL ((lines f rows ++ [x]) ++ [("" : Str)]) = some ((rows.length : Int) + 1 + 1) := by
  rw [readTL_end (wss_lines h [x] [xs] (by simp [hx])), run_pre h.nt h.n1 h.n3 h.rowsW (by have := h.r6; omega), run_bad (hb _ _)]
  show some _ = some _
  congr 1
  omega
theorem R9 (h : TabOk f rows) : readTL ((lines f rows).drop 1 ++ [("" : Str)]) = some 1 := by
  have hw : ((lines f rows).drop 1).map (fun z => Txt.split z " ") = rows.map rowWords := splits_rows h.n3 h.rowsW
  rw [readTL_end hw]
  have h1 := h.r1
  cases rows with
  | nil => simp at h1
  | cons r rs =>
    rw [List.map_cons, run_bad (show stepT (rowWords r) 1 (none, []) = none from tkN fun c => (show ¬ ("place" : Str) = "first" by decide +kernel) c.1)]
end
end Fy
/-! Pt4 -/
namespace Fy
open PySem
structure SheetOk (f : List Str) (rows : List Row) : Prop where
  n1 : 1 ≤ f.length
  n3 : f.length ≤ 3
  nt : ∀ z ∈ f, z ∈ notes
  r1 : 1 ≤ rows.length
  r6 : rows.length ≤ 6
  ok : RowsW f.length rows
theorem TabOk.sheet {f : List Str} {rows : List Row} (h : TabOk f rows) : SheetOk f rows := ⟨h.n1, h.n3, h.nt, h.r1, h.r6, h.rowsW⟩
/-- r with one place gone to n -/
def Far (n : Int) (r r' : Row) : Prop := r' = ((n, r.1.2), r.2) ∨ r' = (r.1, (n, r.2.2))
section
variable {f : List Str} {rows : List Row}
theorem wss_linesS (h : SheetOk f rows) (more : List Str) (mw : List (List Str)) (hm : more.map (fun z => Txt.split z " ") = mw) : (lines f rows ++ more).map (fun z => Txt.split z " ") = firstWords f :: (rows.map rowWords ++ mw) := by
  unfold lines
  rw [List.map_append, List.map_cons, hm, splits_rows h.n3 h.ok]
  show Txt.split (jn (firstWords f)) " " :: _ ++ _ = _
  rw [split_jn (lineF h.n3 h.nt)]
  rfl
theorem R5s (h : SheetOk f rows) {x : Str} {xs : List Str} (hx : Txt.split x " " = xs) (hb : ∀ line rws, takeT xs line (some f.length) rws = none) : readTL ((lines f rows ++ [x]) ++ [("" : Str)]) = some ((rows.length : Int) + 1 + 1) := by
  rw [readTL_end (wss_linesS h [x] [xs] (by simp [hx])), run_pre h.nt h.n1 h.n3 h.ok (by have := h.r6; omega), run_bad (hb _ _)]
  show some _ = some _
  congr 1
  omega
theorem R6s (h : SheetOk f rows) {pre more : List Row} {r : Row} (e : rows = pre ++ r :: more) (hp : ∀ q ∈ pre, q.1.1 < rows.length ∧ q.2.1 < rows.length) (hr : (rows.length : Int) ≤ r.1.1 ∨ (rows.length : Int) ≤ r.2.1) : readTL (lines f rows ++ [("" : Str)]) = some ((pre.length : Int) + 2) := by
  have hw := wss_linesS h [] [] rfl
  rw [List.append_nil, List.append_nil] at hw
  rw [readTL_end hw]
  have := run_pre h.nt h.n1 h.n3 h.ok (by have := h.r6; omega) []
  rw [List.append_nil] at this
  rw [this]
  show (if (told 2 (absR rows)).isEmpty = true then _ else _) = _
  rw [if_neg (by rw [told_ne (abs_ne h.r1)]; decide)]
  have ea : absR rows = absR pre ++ (r.1.1, r.2.1) :: absR more := by rw [e]; simp [absR]
  have := wrongs_head (many := rows.length) (line := 2) (abs := absR pre) (more := absR more) (x := (r.1.1, r.2.1)) (by rw [← ea]; simp [absR]) (fun y hy => by
    obtain ⟨q, hq, rfl⟩ := List.mem_map.mp hy
    exact hp q hq) hr
  rw [← ea] at this
  show (wrongs (told 2 (absR rows))).head? = _
  rw [this]
  have : (absR pre).length = pre.length := by simp [absR]
  rw [this]
  congr 1
  omega
theorem jn_ne {W : List Str} (hne : W ≠ []) (h0 : W.headD "" ≠ "") : jn W ≠ "" := fun e => by
  have this : TL.tl (Txt.join " " W) = TL.tl ("" : Str) := congrArg TL.tl e
  rw [TL.join_eq, TL.tl_join] at this
  cases W with
  | nil => exact hne rfl
  | cons a r =>
    have ha : TL.tl a ≠ [] := fun q => h0 (TL.ext_tl (by rw [show (a :: r).headD "" = a from rfl, q]; decide +kernel))
    cases r with
    | nil => exact ha (by
        have : TL.tl a = TL.tl "" := this
        rw [this]
        decide +kernel)
    | cons b r =>
      have e1 : TL.tl a ++ (TL.tl (" " : Str) ++ TL.joinL (TL.tl (" " : Str)) ((b :: r).map TL.tl)) = [] := by
        have e2 : TL.tl ("" : Str) = [] := by decide +kernel
        rw [← e2]
        exact this
      exact ha (List.append_eq_nil_iff.mp e1).1
/-- R10: without the last end of line -/
theorem R10s (h : SheetOk f rows) : readTL (lines f rows) = some ((rows.length : Int) + 1) := by
  have h1 := h.r1
  obtain ⟨pre, r, rfl⟩ : ∃ pre r, rows = pre ++ [r] := by
    have hne : rows ≠ [] := fun e => by rw [e] at h1; simp at h1
    exact ⟨rows.dropLast, rows.getLast hne, (List.dropLast_concat_getLast hne).symm⟩
  have hpre : RowsW f.length pre := fun q hq => h.ok q (by simp [hq])
  have e : lines f (pre ++ [r]) = (jn (firstWords f) :: pre.map fun r => jn (rowWords r)) ++ [jn (rowWords r)] := by simp [lines]
  rw [e]
  have hw : (jn (firstWords f) :: pre.map fun r => jn (rowWords r)).map (fun z => Txt.split z " ") = firstWords f :: (pre.map rowWords ++ []) := by
    rw [List.map_cons, splits_rows h.n3 hpre, split_jn (lineF h.n3 h.nt), List.append_nil]
  have hz : jn (rowWords r) ≠ "" := jn_ne (by simp [rowWords]) (show ("place" : Str) ≠ "" by decide +kernel)
  have hrun := run_pre h.nt h.n1 h.n3 hpre (by have := h.r6; simp at this; omega) []
  rw [readTL_bare hw hz hrun]
  simp
/-- a row with a place too far -/
theorem far_W {n : Nat} {m : Nat} (hm : m < 100) {r r' : Row} (h : WayW n r.1 ∧ WayW n r.2) (hf : Far m r r') : WayW n r'.1 ∧ WayW n r'.2 := by
  rcases hf with rfl | rfl
  · exact ⟨⟨by show (0 : Int) ≤ m; omega, by show (m : Int) < 100; omega, h.1.len, h.1.nt⟩, h.2⟩
  · exact ⟨h.1, ⟨by show (0 : Int) ≤ m; omega, by show (m : Int) < 100; omega, h.2.len, h.2.nt⟩⟩
theorem far_bad {many : Nat} {m : Nat} (hm : many ≤ m) {r r' : Row} (hf : Far m r r') : (many : Int) ≤ r'.1.1 ∨ (many : Int) ≤ r'.2.1 := by
  rcases hf with rfl | rfl
  · exact .inl (by show (many : Int) ≤ m; omega)
  · exact .inr (by show (many : Int) ≤ m; omega)
/-- what far_place gives -/
theorem far_is {n : Nat} {r : Row} (h1 : WayW n r.1) (h2 : WayW n r.2) {a m : Nat} (ha : a = 1 ∨ a = 1 + ((rowWords r).length - 1) / 2) : ∃ r', Far m r r' ∧ farW (rowWords r) a m = rowWords r' := by
  rcases ha with rfl | rfl
  · exact ⟨_, .inl rfl, far_1 _⟩
  · exact ⟨_, .inr rfl, far_2 h1 h2 _⟩
end
end Fy
/-! Pt5 -/
/-! the dues of the law's sheets -/
namespace Fy
open PySem PySem.Spec PyProof.Rows L2
def Cln (z : Str) : Prop := z.length ≤ 600 ∧ 10 ∉ TL.tl z
structure Clean (ls : List Str) : Prop where
  len : ls.length ≤ 20
  cl : ∀ z ∈ ls, Cln z
def DueOk (ls : List Str) (due : Int) : Prop := Clean ls ∧ readTL (ls ++ [("" : Str)]) = some due
theorem Clean.sub {a b : List Str} (h : Clean a) (hl : b.length ≤ 20) (hs : ∀ z ∈ b, z ∈ a) : Clean b := ⟨hl, fun z hz => h.cl z (hs z hz)⟩
theorem joinL_no {n s : Nat} (hs : n ≠ s) : ∀ {l : List (List Nat)}, (∀ z ∈ l, n ∉ z) → n ∉ TL.joinL [s] l
  | [], _ => by simp [TL.joinL]
  | [a], h => by
    show n ∉ a
    exact h a (by simp)
  | a :: b :: r, h => fun hm => by
    have hm : n ∈ a ++ ([s] ++ TL.joinL [s] (b :: r)) := hm
    rcases List.mem_append.mp hm with hm | hm
    · exact h a (by simp) hm
    · rcases List.mem_append.mp hm with hm | hm
      · exact hs (List.mem_singleton.mp hm)
      · exact joinL_no hs (fun z hz => h z (by simp [hz])) hm
theorem cln_jn {W : List Str} (h : Sm 50 W) (hn : ∀ z ∈ W, 10 ∉ TL.tl z) : Cln (jn W) := by
  refine ⟨Nat.le_trans (len_join h) (by decide), ?_⟩
  unfold jn
  rw [TL.join_eq, TL.tl_join, sp_eq]
  show 10 ∉ TL.joinL [32] _
  refine joinL_no (by decide) fun z hz => ?_
  obtain ⟨y, hy, rfl⟩ := List.mem_map.mp hz
  exact hn y hy
section
variable {f : List Str} {rows : List Row}
theorem clean_lines (h : SheetOk f rows) : Clean (lines f rows) := by
  refine ⟨by simp [lines]; have := h.r6; omega, fun z hz => ?_⟩
  rcases List.mem_cons.mp hz with rfl | hz
  · have c := cl_first h.nt
    exact cln_jn ⟨Nat.le_trans (lineF h.n3 h.nt).len (by decide), fun z hz => (c z hz).2⟩ fun z hz => (c z hz).1.2
  · obtain ⟨r, hr, rfl⟩ := List.mem_map.mp hz
    have hw := h.ok r hr
    have c := cl_row hw.1 hw.2
    exact cln_jn ⟨Nat.le_trans (lineR h.n3 hw.1 hw.2).len (by decide), fun z hz => (c z hz).2⟩ fun z hz => (c z hz).1.2
theorem len_lines : (lines f rows).length = rows.length + 1 := by simp [lines]
/-- the words of odd lines -/
theorem cl_odd {W : List Str} (h2 : 2 ≤ W.length) (hc : ∀ z ∈ W, Cl z) (hu : Cl (Txt.upper (w0 W))) {first : Bool} : ∀ o ∈ oddW W first, o ≠ [] ∧ ∀ z ∈ o, Cl z := by
  have c1 : ∀ z ∈ ([("-" : Str), "", "2", "0-", "first", "00", "x", "+0", "0_0"] : List Str), Cl z := by unfold Cl; decide +kernel
  have c0 : Cl (w0 W) := by
    cases W with
    | nil => simp at h2
    | cons a b => exact hc a (by simp)
  have sub : ∀ {a : List Str}, (∀ z ∈ a, z ∈ W) → ∀ z ∈ a, Cl z := fun h z hz => hc z (h z hz)
  have sd : ∀ k, ∀ z ∈ W.drop k, Cl z := fun k => sub fun z hz => List.mem_of_mem_drop hz
  have sl : ∀ z ∈ W.dropLast, Cl z := sub fun z hz => List.dropLast_subset W hz
  have one : ∀ z ∈ ([("-" : Str), "", "2", "0-", "first", "00", "x", "+0", "0_0"] : List Str), ∀ y ∈ [z], Cl y := fun z hz => all_cons (c1 z hz) all_nil
  have two : ∀ z ∈ ([("-" : Str), "", "2", "0-", "first", "00", "x", "+0", "0_0"] : List Str), (w0 W :: z :: W.drop 2) ≠ [] ∧ ∀ y ∈ w0 W :: z :: W.drop 2, Cl y := fun z hz => ⟨by simp, all_cons c0 (all_cons (c1 z hz) (sd 2))⟩
  exact all_oddW ⟨by simp, all_app hc (all_cons (c1 _ (by simp)) (all_cons (c1 _ (by simp)) (all_cons (c1 _ (by simp)) all_nil)))⟩ ⟨by simp, all_cons hu (sd 1)⟩ ⟨by simp, all_cons (c1 _ (by simp)) hc⟩ ⟨by simp, all_app hc (one _ (by simp))⟩
    ⟨fun e => by have := congrArg List.length e; simp at this; rw [this] at h2; simp at h2, sub fun z hz => List.mem_of_mem_take hz⟩
    ⟨by simp, all_app sl (one _ (by simp))⟩ ⟨by simp, all_app sl (one _ (by simp))⟩ ⟨by simp, all_app sl (one _ (by simp))⟩
    ⟨by simp, all_cons (c1 _ (by simp)) (all_cons (c1 _ (by simp)) (all_cons (c1 _ (by simp)) (all_cons (c1 _ (by simp)) (all_cons (c1 _ (by simp)) all_nil))))⟩
    fun _ => ⟨⟨fun e => by have := congrArg List.length e; simp at this; omega, sl⟩, two _ (by simp), two _ (by simp), two _ (by simp), two _ (by simp), two _ (by simp)⟩
theorem up_cl : Cl (Txt.upper "place") ∧ Cl (Txt.upper "first") := by unfold Cl; decide +kernel
/-- the line at a spot, by its words -/
theorem line_at (h : TabOk f rows) {spot : Nat} (hs : spot < rows.length + 1) : ∃ W, (lines f rows)[spot]? = some (jn W) ∧ ((spot = 0 ∧ W = firstWords f) ∨ ∃ k r, spot = k + 1 ∧ rows[k]? = some r ∧ W = rowWords r) ∧ LineOk W ∧ 2 ≤ W.length ∧ (∀ z ∈ W, Cl z) ∧ Cl (Txt.upper (w0 W)) := by
  cases spot with
  | zero =>
    have h1 := h.n1
    exact ⟨firstWords f, rfl, .inl ⟨rfl, rfl⟩, lineF h.n3 h.nt, by simp [firstWords]; omega, fun z hz => (cl_first h.nt z hz).1, up_cl.2⟩
  | succ k =>
    have hk : k < rows.length := by omega
    have hw := h.rowsW rows[k] (List.getElem_mem hk)
    refine ⟨rowWords rows[k], ?_, .inr ⟨k, rows[k], rfl, List.getElem?_eq_getElem hk, rfl⟩, lineR h.n3 hw.1 hw.2, by simp [rowWords, wayWords], fun z hz => (cl_row hw.1 hw.2 z hz).1, up_cl.1⟩
    show (rows.map fun r => Txt.join " " (rowWords r))[k]? = _
    rw [List.getElem?_map, List.getElem?_eq_getElem hk]
    rfl
theorem D_odd (h : TabOk f rows) {spot : Nat} (hs : spot < rows.length + 1) {W o : List Str} (h1 : (lines f rows)[spot]? = some (jn W)) (h2 : (spot = 0 ∧ W = firstWords f) ∨ ∃ k r, spot = k + 1 ∧ rows[k]? = some r ∧ W = rowWords r) (hl : LineOk W) (hW2 : 2 ≤ W.length) (hc : ∀ z ∈ W, Cl z) (hu : Cl (Txt.upper (w0 W))) (ho : o ∈ oddW W (decide (spot = 0))) :
    DueOk ((lines f rows).take spot ++ [jn o] ++ (lines f rows).drop (spot + 1)) ((spot : Int) + 1) := by
  obtain ⟨c1, c2⟩ := cl_odd hW2 hc hu o ho
  have hos : Txt.split (jn o) " " = o := split_words c1 fun z hz => (c2 z hz).1
  have hln : (lines f rows).length = rows.length + 1 := len_lines
  have cl := clean_lines h.sheet
  refine ⟨⟨?_, ?_⟩, R2 h (by omega) ⟨h1, h2⟩ ho hos⟩
  · have := h.r6
    simp [len_lines]
    omega
  · refine all_app (all_app (fun z hz => cl.cl z (List.mem_of_mem_take hz)) (all_cons ?_ all_nil)) fun z hz => cl.cl z (List.mem_of_mem_drop hz)
    have := mem_oddW hl o ho
    exact cln_jn (this.mono (by decide)) fun z hz => (c2 z hz).2
theorem D_nil : DueOk [] 1 := ⟨⟨by simp, all_nil⟩, R3⟩
theorem D_one (h : TabOk f rows) : DueOk ((lines f rows).take 1) 2 := ⟨(clean_lines h.sheet).sub (by rw [List.length_take]; omega) fun z hz => List.mem_of_mem_take hz, R4 h⟩
theorem D_drop (h : TabOk f rows) : DueOk ((lines f rows).drop 1) 1 := ⟨(clean_lines h.sheet).sub (by have := h.r6; simp [len_lines]; omega) fun z hz => List.mem_of_mem_drop hz, R9 h⟩
def moreL : List Str := ["", "first -", "place", "x"]
theorem D_more (h : SheetOk f rows) {x : Str} (hx : x ∈ moreL) : DueOk (lines f rows ++ [x]) ((rows.length : Int) + 1 + 1) := by
  have hw : ∃ xs, Txt.split x " " = xs ∧ xs.length ≤ 2 ∧ Cln x := by
    have key : ∀ ws : List Str, ws ≠ [] → (∀ z ∈ ws, 32 ∉ TL.tl z) → ws.length ≤ 2 → TL.tl x = TL.joinL [32] (ws.map TL.tl) → Cln x → ∃ xs, Txt.split x " " = xs ∧ xs.length ≤ 2 ∧ Cln x := fun ws a b c d e => ⟨ws, split_of ws a b d, c, e⟩
    simp only [moreL, List.mem_cons, List.not_mem_nil, or_false] at hx
    rcases hx with rfl | rfl | rfl | rfl
    · exact key [""] (by simp) (by decide +kernel) (by decide) (by decide +kernel) (by unfold Cln; decide +kernel)
    · exact key ["first", "-"] (by simp) (by decide +kernel) (by decide) (by decide +kernel) (by unfold Cln; decide +kernel)
    · exact key ["place"] (by simp) (by decide +kernel) (by decide) (by decide +kernel) (by unfold Cln; decide +kernel)
    · exact key ["x"] (by simp) (by decide +kernel) (by decide) (by decide +kernel) (by unfold Cln; decide +kernel)
  obtain ⟨xs, e, h2, hc⟩ := hw
  have cl := clean_lines h
  exact ⟨⟨by have := h.r6; simp [len_lines]; omega, all_app cl.cl (all_cons hc all_nil)⟩, R5s h e fun line rws => tkS fun c => by have := c.2.1; omega⟩
end
/-- one row gone astray: the last -/
structure Beyond (rows rows' : List Row) : Prop where
  ex : ∃ pre r r', ∃ m : Nat, rows = pre ++ [r] ∧ rows' = pre ++ [r'] ∧ Far m r r' ∧ rows.length ≤ m ∧ m < 100
/-- all gone astray -/
structure Astray (rows rows' : List Row) : Prop where
  len : rows'.length = rows.length
  all : ∀ r' ∈ rows', ∃ r ∈ rows, ∃ m : Nat, Far m r r' ∧ rows.length ≤ m ∧ m < 100
section
variable {f : List Str} {rows rows' : List Row}
theorem Beyond.sheet (h : TabOk f rows) (b : Beyond rows rows') : SheetOk f rows' ∧ rows'.length = rows.length := by
  obtain ⟨pre, r, r', m, e1, e2, hf, h1, h2⟩ := b.ex
  have hl : rows'.length = rows.length := by rw [e1, e2]; simp
  refine ⟨⟨h.n1, h.n3, h.nt, by rw [hl]; exact h.r1, by rw [hl]; exact h.r6, fun q hq => ?_⟩, hl⟩
  rw [e2] at hq
  rcases List.mem_append.mp hq with hq | hq
  · exact h.rowsW q (by rw [e1]; exact List.mem_append_left _ hq)
  · rw [List.mem_singleton.mp hq]
    exact far_W h2 (h.rowsW r (by rw [e1]; simp)) hf
theorem D_beyond (h : TabOk f rows) (b : Beyond rows rows') : DueOk (lines f rows') ((rows.length : Int) + 1) := by
  obtain ⟨hs, hl⟩ := b.sheet h
  obtain ⟨pre, r, r', m, e1, e2, hf, h1, h2⟩ := b.ex
  have hp : rows.length = pre.length + 1 := by rw [e1]; simp
  refine ⟨clean_lines hs, ?_⟩
  rw [R6s hs (pre := pre) (more := []) (r := r') e2 (fun q hq => ?_) (by rw [hl]; exact far_bad h1 hf)]
  · congr 1
    omega
  · rw [hl]
    have := h.ok q (by rw [e1]; exact List.mem_append_left _ hq)
    exact ⟨this.1.hi, this.2.hi⟩
theorem Astray.sheet (h : TabOk f rows) (b : Astray rows rows') : SheetOk f rows' :=
  ⟨h.n1, h.n3, h.nt, by rw [b.len]; exact h.r1, by rw [b.len]; exact h.r6, fun q hq => by
    obtain ⟨r, hr, m, hf, _, h2⟩ := b.all q hq
    exact far_W h2 (h.rowsW r hr) hf⟩
theorem D_astray (h : TabOk f rows) (b : Astray rows rows') : DueOk (lines f rows') 2 := by
  have hs := b.sheet h
  refine ⟨clean_lines hs, ?_⟩
  have h1 := h.r1
  have hl := b.len
  cases rows' with
  | nil => simp at hl; omega
  | cons r' bs =>
    obtain ⟨r, _, m, hf, hm, _⟩ := b.all r' (by simp)
    rw [R6s hs (pre := []) (more := bs) (r := r') rfl (fun q hq => absurd hq (by simp)) (by rw [hl]; exact far_bad hm hf)]
    rfl
end
/-! without the last end of line -/
theorem whole_cut {zs : List Str} (hne : zs ≠ []) : cutS (whole zs) none (some (-1)) = Txt.join "\n" zs := by
  refine TL.ext_tl ?_
  have e0 : whole zs = mk (TL.tl (whole zs)) := rfl
  have e1 : TL.tl (whole zs) = TL.joinL [10] (zs.map TL.tl) ++ [10] := by
    rw [tl_whole]
    have : (zs.map fun z => TL.tl z ++ [10]) = (zs.map TL.tl).map fun l => l ++ [10] := by rw [List.map_map]; rfl
    rw [this]
    have hne2 : zs.map TL.tl ≠ [] := by simpa using hne
    generalize zs.map TL.tl = ls at hne2
    induction ls with
    | nil => exact absurd rfl hne2
    | cons a r ih =>
      cases r with
      | nil => simp [TL.joinL]
      | cons b r =>
        rw [List.map_cons, List.flatten_cons, ih (by simp)]
        show _ = (a ++ ([10] ++ TL.joinL [10] (b :: r))) ++ [10]
        simp
  have e2 : TL.tl (Txt.join "\n" zs) = TL.joinL [10] (zs.map TL.tl) := by
    rw [TL.join_eq, TL.tl_join, nl_eq]
  rw [e2, e0, e1]
  generalize TL.joinL [10] (zs.map TL.tl) = l
  unfold cutS
  show TL.tl (mk _) = _
  have el : (mk (l ++ [10])).length = l.length + 1 := by rw [mk_len]; simp
  rw [HT.sIx_none, el, Nat.sub_zero]
  have e : HT.sIx (l.length + 1) (l.length + 1) (some (-1)) = l.length := by
    show (if (-1 : Int) < 0 then ((-1 : Int) + ((l.length + 1 : Nat) : Int)).toNat else min (-1 : Int).toNat (l.length + 1)) = _
    rw [if_pos (by decide)]
    omega
  rw [e]
  show ((TL.tl (mk (l ++ [10]))).drop 0).take l.length = l
  show ((l ++ [10]).drop 0).take l.length = l
  simp
theorem len_join_nl {zs : List Str} (hne : zs ≠ []) : (Txt.join "\n" zs).length ≤ (whole zs).length := by
  rw [← whole_cut hne]
  unfold cutS
  rw [TL.len_tl, TL.len_tl]
  show (((TL.tl (whole zs)).drop _).take _).length ≤ _
  rw [List.length_take, List.length_drop]
  omega
theorem bare_ok {zs : List Str} (hne : zs ≠ []) (hl : zs.length ≤ 900) (hz : ∀ z ∈ zs, z.length ≤ 600 ∧ 10 ∉ TL.tl z) : SplitOk (Txt.join "\n" zs) ∧ readT (Txt.join "\n" zs) = readTL zs ∧ readR (Txt.join "\n" zs) = readRL zs := by
  have e := split_join_nl hne fun z h => (hz z h).2
  refine ⟨splitOk e ?_ hne (by omega) fun p hp => (hz p hp).1, readT_eq e, readR_eq e⟩
  refine Nat.le_trans (len_join_nl hne) ?_
  rw [len_whole]
  have := sum_le (zs := zs) (b := 600) fun z h => (hz z h).1
  have h2 : zs.length * 600 ≤ 900 * 600 := Nat.mul_le_mul_right _ hl
  omega
end Fy
/-! L7 -/
namespace Fy
open PySem PySem.Spec PyProof.Rows L2 LamX
theorem z_when {Z : Ez} {tt : TT} {ts : TS} {D : Ends} {σ : L2.St} {H : Hp} {b : Bool} (h : Eb Z tt σ H (· = b)) (j : Z.J H) (k1 : b = true → ∀ H1, Gr Z H H1 → Z.J H1 → ts D σ H1) (k2 : b = false → ∀ H1, Gr Z H H1 → Z.J H1 → D.nx σ H1) : tIfS tt ts tNext D σ H := h.run j fun c H1 g j1 e => by
  subst e
  cases c with
  | true => exact k1 rfl H1 g j1
  | false => exact k2 rfl H1 g j1
def DueP (t : PT) : Prop := ∃ ls due, t = .u [strsP ls, .i due] ∧ DueOk ls due
def DuesN (n : Nat) (ts : List PT) : Prop := ts.length = n ∧ ∀ t ∈ ts, DueP t
section
variable {Z : Ez} {σ : L2.St} {H : Hp}
theorem er_due {ta tb : TE} {due : Int} (ha : Er Z ta σ H (fun t => ∃ ls, t = strsP ls ∧ DueOk ls due)) (hb : Er Z tb σ H (· = .i due)) : Er Z (tTup (tCons ta (tCons tb tNil))) σ H DueP :=
  Er.imp (er_tup (ea_2 ha hb) (by
    rintro ts ⟨t, u, rfl, _⟩
    exact (show 2 ≤ sizeLine by decide))) (by
    rintro t ⟨ts, rfl, t1, t2, rfl, ⟨ls, rfl, h⟩, rfl⟩
    exact ⟨ls, due, rfl, h⟩)
theorem ea_d0 : Ea Z tNil σ H (DuesN 0) := Ea.imp ea_nil fun ts e => by
  subst e
  exact ⟨rfl, fun _ h => absurd h (by simp)⟩
theorem ea_d {te : TE} {ta : TA} {n : Nat} (h : Er Z te σ H DueP) (h2 : Ea Z ta σ H (DuesN n)) : Ea Z (tCons te ta) σ H (DuesN (n + 1)) := Ea.imp (ea_cons h h2) fun ts ⟨t, us, e, p, hl, ha⟩ => by
  subst e
  refine ⟨by simp [hl], fun u hu => ?_⟩
  rcases List.mem_cons.mp hu with rfl | hu
  · exact p
  · exact ha u hu
theorem er_d {ta : TA} {n : Nat} (h : Ea Z ta σ H (DuesN n)) (hn : n ≤ 100) : Er Z (tLst ta) σ H (fun t => ∃ ts, t = .l ts ∧ DuesN n ts) := er_lst h fun ts e => by
  rw [e.1]
  exact Nat.le_trans hn (by decide)
theorem er_dcat {ta tb : TE} {n m : Nat} (h1 : Er Z ta σ H (fun t => ∃ ts, t = .l ts ∧ DuesN n ts)) (h2 : Er Z tb σ H (fun t => ∃ ts, t = .l ts ∧ DuesN m ts)) (hn : n + m ≤ 100) : Er Z (tOp rCat ta tb) σ H (fun t => ∃ ts, t = .l ts ∧ DuesN (n + m) ts) :=
  Er.imp (er_cat h1 h2 fun a b ha hb => by
    rw [ha.1, hb.1]
    exact Nat.le_trans hn (by decide)) fun t ⟨x, y, e, hx, hy⟩ => by
      refine ⟨_, e, by rw [List.length_append, hx.1, hy.1], fun u hu => ?_⟩
      exact (List.mem_append.mp hu).elim (hx.2 u) (hy.2 u)
theorem clean_len {ls : List Str} {n : Nat} (h : ls.length ≤ n) (hn : n ≤ 100) : (ls.map PT.s).length ≤ sizeLine := by
  rw [List.length_map]
  exact Nat.le_trans (Nat.le_trans h hn) (by decide)
/-- lists of texts -/
theorem er_catSs {ta tb : TE} {A B : List Str → Prop} (h1 : Er Z ta σ H (fun t => ∃ ls, t = strsP ls ∧ A ls)) (h2 : Er Z tb σ H (fun t => ∃ ls, t = strsP ls ∧ B ls)) (hn : ∀ a b, A a → B b → a.length + b.length ≤ 200) : Er Z (tOp rCat ta tb) σ H (fun t => ∃ a b, t = strsP (a ++ b) ∧ A a ∧ B b) :=
  Er.imp (er_cat (A := fun l => ∃ ls, l = ls.map PT.s ∧ A ls) (B := fun l => ∃ ls, l = ls.map PT.s ∧ B ls) (Er.imp h1 fun t ⟨ls, e, p⟩ => ⟨_, e, ls, rfl, p⟩) (Er.imp h2 fun t ⟨ls, e, p⟩ => ⟨_, e, ls, rfl, p⟩) (by
    rintro x y ⟨a, rfl, ha⟩ ⟨b, rfl, hb⟩
    rw [List.length_map, List.length_map]
    exact Nat.le_trans (hn a b ha hb) (by decide))) (by
    rintro t ⟨x, y, rfl, ⟨a, rfl, ha⟩, b, rfl, hb⟩
    exact ⟨a, b, by show PT.l _ = PT.l _; rw [List.map_append], ha, hb⟩)
theorem er_oneS {te : TE} {A : Str → Prop} (h : Er Z te σ H (fun t => ∃ z, t = .s z ∧ A z)) : Er Z (tLst (tCons te tNil)) σ H (fun t => ∃ ls, t = strsP ls ∧ ∃ z, ls = [z] ∧ A z) :=
  Er.imp (er_lst (ea_1 h) (by
    rintro ts ⟨t, rfl, _⟩
    exact (show 1 ≤ sizeLine by decide))) (by
    rintro t ⟨ts, rfl, t1, rfl, z, rfl, hz⟩
    exact ⟨[z], rfl, z, rfl, hz⟩)
theorem er_cs {te : TE} {ls : List Str} (h : Er Z te σ H (· = strsP ls)) : Er Z te σ H (fun t => ∃ l, t = strsP l ∧ l = ls) := Er.imp h fun t e => ⟨ls, e, rfl⟩
theorem er_cs' {te : TE} {ls : List Str} {due : Int} (h : Er Z te σ H (· = strsP ls)) (hd : DueOk ls due) : Er Z te σ H (fun t => ∃ l, t = strsP l ∧ DueOk l due) := Er.imp h fun t e => ⟨ls, e, hd⟩
/-- what far_place gives of a row's line -/
theorem er_farR {ta tb tc : TE} {E : XK} {p : Addr} {f : List Str} {rows : List Row} {r : Row} (hT : TabOk f rows) (hr : r ∈ rows) (hpot : HasPot Z p) (ha : Er Z ta σ H (· = .r p)) (hb : Er Z tb σ H (· = .s (jn (rowWords r)))) (hc : Er Z tc σ H (· = .i (rows.length : Int))) :
    Er Z (tCall (spR Z.K pre_far) [] E (tCons ta (tCons tb (tCons tc tNil)))) σ H (fun t => ∃ r', ∃ m : Nat, t = .s (jn (rowWords r')) ∧ Far m r r' ∧ rows.length ≤ m ∧ m < 100) := by
  refine er_call rfl (ea_c ha (ea_c hb (ea_c hc ea_nil))) fun ts e => ?_
  subst e
  have hw := hT.rowsW r hr
  have h6 := hT.r6
  refine ⟨p, rowWords r, rows.length, hpot, rfl, lineR hT.n3 hw.1 hw.2, by omega, fun a m h1 h2 => ?_⟩
  obtain ⟨r', hf, e⟩ := far_is (m := m) hw.1 hw.2 h1
  exact ⟨r', m, by rw [e], hf, by omega, by omega⟩
end
theorem astray_of {rows : List Row} : ∀ {ts us : List PT}, Paired (fun _ u => ∃ r ∈ rows, ∃ r', ∃ m : Nat, u = PT.s (jn (rowWords r')) ∧ Far m r r' ∧ rows.length ≤ m ∧ m < 100) ts us →
    ∃ rows' : List Row, us = (rows'.map fun r => jn (rowWords r)).map PT.s ∧ rows'.length = ts.length ∧ ∀ r' ∈ rows', ∃ r ∈ rows, ∃ m : Nat, Far m r r' ∧ rows.length ≤ m ∧ m < 100
  | _, _, .nil => ⟨[], rfl, rfl, fun _ h => absurd h (by simp)⟩
  | _, _, .cons ⟨r, hr, r', m, e, h1, h2, h3⟩ p => by
    obtain ⟨rows', e', hl, ha⟩ := astray_of p
    refine ⟨r' :: rows', by rw [e, e']; rfl, by simp [hl], fun q hq => ?_⟩
    rcases List.mem_cons.mp hq with rfl | hq
    · exact ⟨r, hr, m, h1, h2, h3⟩
    · exact ha q hq
section
variable {P : Program} {w : World} {K : PySem.W.Frag} {mg : Str → Option Value} {base : Heap}
def pre_tright (K : PySem.W.Frag) : Ez → List PT → (PT → Prop) → Prop := fun Z ts P => ∃ p f rows, LawZ (lamT K) Z ∧ HasPot Z p ∧ ts = [.r p, tabP f rows] ∧ TabOk f rows ∧ P (.b true)
theorem sc__law_tables_right : FnScope ["_law_pot_here", "_law_table_here", "_law_sheet", "_law_spot", "_law_many", "_law_beyond", "_law_every", "_law_line", "_law_dues", "_law_bent", "_law_due", "_law_shown", "_law_bare"] ["_law_pot_here", "_law_table_here"] (defScope s__law_tables_right) := ⟨rfl, rfl, rfl, by decide +kernel, rfl, by decide +kernel, by decide +kernel⟩
theorem ok__law_tables_right (T : Tx K mg) (PA : PartsAt w K mg) (LA : LamAt base K mg) : Has P w K mg base CX0 20 "_law_tables_right" ["_law_pot_here", "_law_table_here"] (spR K (pre_tright K)) := by
  obtain ⟨f, fd, F, g⟩ := T.d__law_tables_right
  have ef := T.x_ga "_law_tables_right" (by simp) f g
  subst ef
  refine ⟨_, fd, g, F.kp, F.bindsN (ps := ["_law_pot_here", "_law_table_here"]) (fun _ _ _ _ _ _ us hl => match us, hl with | [_, _], _ => rfl), ?_⟩
  refine okC F sc__law_tables_right (fun vs H Q E h => ?_) (fun A outer s H vs Q E hr h => ?_)
  · obtain ⟨Z, ts, P', _, _, rs, ⟨p, f, rows, _, _, rfl, _⟩, _⟩ := h
    exact rs.length
  · obtain ⟨Z, ts, P', rfl, j, rs, ⟨p, fs, rows, hz, hpot, rfl, hT, hP⟩, k⟩ := h
    obtain ⟨vp, _, rfl, rp, vt, _, rfl, rt, rfl⟩ := rs
    refine ⟨_, PSs.nox (pss_cons (ps_set (i := 2) sc__law_tables_right.nd rfl (Or.inr rfl) (pe_has (ok__law_table_lines T) (hr.mono (by decide)) pass0 (pa_cons (pv 1) pa_nil)))
      (pss_cons (ps_asg (pe_tup (pa_cons (pe_has (ok__law_draw T) (hr.mono (by decide)) pass0 (pa_cons (pv 0) (pa_cons (pe_callB (r := rLenSq Z.K) call_lenK (by rfl) T.n_len boot_len (pa_cons (pv 2) pa_nil)) pa_nil))) (pa_cons (pe_callB (r := rLenSq Z.K) call_lenK (by rfl) T.n_len boot_len (pa_cons (pv 2) pa_nil)) pa_nil))) (pg_tup rfl (pgs_cons (pg_name (i := 3) sc__law_tables_right.nd rfl (Or.inl rfl)) (pgs_cons (pg_name (i := 4) sc__law_tables_right.nd rfl (Or.inr rfl)) pgs_nil))))
      (pss_cons (ps_set (i := 5) sc__law_tables_right.nd rfl (Or.inl rfl) (pe_op op_cat (pe_slice (r := rSlL Z.K) sl_list (pv 2) po_none (po_some (pe_un un_neg pe_int))) (pe_lst (pa_cons (pe_has (ok__law_far_place T) (hr.mono (by decide)) pass0 (pa_cons (pv 0) (pa_cons (pe_ix (r := rIxL Z.K) ix_list (pv 2) (pe_un un_neg pe_int) (fun _ _ => rfl)) (pa_cons (pe_op op_sub (pv 4) pe_int) pa_nil)))) pa_nil))))
      (pss_cons (ps_set (i := 6) sc__law_tables_right.nd rfl (Or.inl rfl) (pe_op op_cat (pe_slice (r := rSlL Z.K) sl_list (pv 2) po_none (po_some pe_int)) (pe_lc (own := [("_law_line", 7)]) (g := gName 7) (tt := tYes) rfl sc__law_tables_right.nd (pi_listK (K := Z.K) (pe_slice (r := rSlL Z.K) sl_list (pv 2) (po_some pe_int) po_none)) (blkOk_by (N := ["_law_pot_here", "_law_table_here", "_law_sheet", "_law_spot", "_law_many", "_law_beyond", "_law_every", "_law_line", "_law_dues", "_law_bent", "_law_due", "_law_shown", "_law_bare"]) (sc := defScope s__law_tables_right) (by decide +kernel)) (fun _ _ _ _ _ => pg_name (i := 7) sc__law_tables_right.nd rfl (Or.inl rfl)) (fun _ _ _ _ _ => pts_nil) (fun _ _ _ _ _ => (pe_has (ok__law_far_place T) (hr.mono (by decide)) pass0 (pa_cons (pv 0) (pa_cons (pv 7) (pa_cons (pe_op op_sub (pv 4) pe_int) pa_nil))))))))
      (pss_cons (ps_set (i := 8) sc__law_tables_right.nd rfl (Or.inl rfl) (pe_lst (pa_cons (pe_tup (pa_cons (pe_op op_cat (pe_op op_cat (pe_slice (r := rSlL Z.K) sl_list (pv 2) po_none (po_some (pv 3))) (pe_lst (pa_cons (pe_has (ok__law_odd_line T) (hr.mono (by decide)) pass0 (pa_cons (pv 0) (pa_cons (pe_ix (r := rIxL Z.K) ix_list (pv 2) (pv 3) (fun _ _ => rfl)) (pa_cons (pe_cmpR op_eq (pv 3) pe_int (nomark _)) pa_nil)))) pa_nil))) (pe_slice (r := rSlL Z.K) sl_list (pv 2) (po_some (pe_op op_add (pv 3) pe_int)) po_none)) (pa_cons (pe_op op_add (pv 3) pe_int) pa_nil))) pa_nil)))
      (pss_cons (ps_set (i := 8) sc__law_tables_right.nd rfl (Or.inl rfl) (pe_op op_cat (pv 8) (pe_lst (pa_cons (pe_tup (pa_cons (pe_lst pa_nil) (pa_cons pe_int pa_nil))) (pa_cons (pe_tup (pa_cons (pe_slice (r := rSlL Z.K) sl_list (pv 2) po_none (po_some pe_int)) (pa_cons pe_int pa_nil))) (pa_cons (pe_tup (pa_cons (pe_op op_cat (pv 2) (pe_lst (pa_cons (pe_has (ok__law_pick T) (hr.mono (by decide)) pass0 (pa_cons (pv 0) (pa_cons (pe_lst (pa_cons pe_str (pa_cons pe_str (pa_cons pe_str (pa_cons pe_str pa_nil))))) pa_nil))) pa_nil))) (pa_cons (pe_op op_add (pv 4) pe_int) pa_nil))) pa_nil))))))
      (pss_cons (ps_set (i := 8) sc__law_tables_right.nd rfl (Or.inl rfl) (pe_op op_cat (pv 8) (pe_lst (pa_cons (pe_tup (pa_cons (pv 5) (pa_cons (pv 4) pa_nil))) (pa_cons (pe_tup (pa_cons (pe_op op_cat (pv 5) (pe_lst (pa_cons pe_str pa_nil))) (pa_cons (pe_op op_add (pv 4) pe_int) pa_nil))) (pa_cons (pe_tup (pa_cons (pv 6) (pa_cons pe_int pa_nil))) (pa_cons (pe_tup (pa_cons (pe_slice (r := rSlL Z.K) sl_list (pv 2) (po_some pe_int) po_none) (pa_cons pe_int pa_nil))) pa_nil)))))))
      (pss_cons (ps_for PassesOwn.never rfl (pi_listK (K := Z.K) (pv 8)) (pg_tup rfl (pgs_cons (pg_name (i := 9) sc__law_tables_right.nd rfl (Or.inl rfl)) (pgs_cons (pg_name (i := 10) sc__law_tables_right.nd rfl (Or.inl rfl)) pgs_nil))) (pss_cons (ps_set (i := 11) sc__law_tables_right.nd rfl (Or.inr rfl) (pe_has (ok__law_whole T) (hr.mono (by decide)) pass0 (pa_cons (pv 9) pa_nil)))
      (pss_cons (ps_if (pt_cmpR op_ne (pe_told (x := "_law_tables_right") (k := 17) T LA (by simp [lamNames]) rfl rfl (by rfl) (hr.mono (by decide)) (lamS_by (sc := defScope s__law_tables_right) (by decide +kernel)) (by rfl) (fun _ _ _ _ _ => rfl) (fun A outer s H E f c' hr => (pe_has (ok_read_table T PA) (hr.mono (by decide)) (passes_call (takes_of rfl rfl rfl rfl) (fun _ _ _ _ h => h)) (pa_cons (pv 11) pa_nil)))) (pv 10) (nomark _)) (pss_one (ps_ret pe_bl)) pss_nil)
      (pss_one (ps_if (pt_cmpR op_ne (pe_told (x := "_law_tables_right") (k := 17) T LA (by simp [lamNames]) rfl rfl (by rfl) (hr.mono (by decide)) (lamS_by (sc := defScope s__law_tables_right) (by decide +kernel)) (by rfl) (fun _ _ _ _ _ => rfl) (fun A outer s H E f c' hr => (pe_hasK (hk_read_table T PA) (hr.mono (by decide)) (passes_call (takes_of rfl rfl rfl rfl) (fun _ _ _ _ h => h)) (pv 11)))) (pv 10) (nomark _)) (pss_one (ps_ret pe_bl)) pss_nil)))))
      (pss_cons (ps_for PassesOwn.never rfl (pi_listK (K := Z.K) (pe_lst (pa_cons (pe_slice sl_str (pe_has (ok__law_whole T) (hr.mono (by decide)) pass0 (pa_cons (pv 5) pa_nil)) po_none (po_some (pe_un un_neg pe_int))) (pa_cons (pe_slice sl_str (pe_has (ok__law_whole T) (hr.mono (by decide)) pass0 (pa_cons (pv 2) pa_nil)) po_none (po_some (pe_un un_neg pe_int))) pa_nil)))) (pg_name (i := 12) sc__law_tables_right.nd rfl (Or.inr rfl)) (pss_one (ps_if (pt_cmpR op_ne (pe_told (x := "_law_tables_right") (k := 17) T LA (by simp [lamNames]) rfl rfl (by rfl) (hr.mono (by decide)) (lamS_by (sc := defScope s__law_tables_right) (by decide +kernel)) (by rfl) (fun _ _ _ _ _ => rfl) (fun A outer s H E f c' hr => (pe_has (ok_read_table T PA) (hr.mono (by decide)) (passes_call (takes_of rfl rfl rfl rfl) (fun _ _ _ _ h => h)) (pa_cons (pv 12) pa_nil)))) (pv 4) (nomark _)) (pss_one (ps_ret pe_bl)) pss_nil)))
      (pss_one (ps_ret (pe_cmpR op_eq (pe_told (x := "_law_tables_right") (k := 17) T LA (by simp [lamNames]) rfl rfl (by rfl) (hr.mono (by decide)) (lamS_by (sc := defScope s__law_tables_right) (by decide +kernel)) (by rfl) (fun _ _ _ _ _ => rfl) (fun A outer s H E f c' hr => (pe_has (ok_read_table T PA) (hr.mono (by decide)) (passes_call (takes_of rfl rfl rfl rfl) (fun _ _ _ _ h => h)) (pa_cons (pe_has (ok__law_whole T) (hr.mono (by decide)) pass0 (pa_cons (pv 2) pa_nil)) pa_nil)))) pe_str (nomark _))))))))))))), ?_⟩
    have h6 := hT.r6
    have h1 := hT.r1
    have hln : (lines fs rows).length = rows.length + 1 := len_lines
    refine zq_asg (er_call (S := (· = strsP (lines fs rows))) rfl (ea_c (er_var (t := tabP fs rows) rt ?_) ea_nil) fun ts e => ⟨fs, rows, e, hT, rfl⟩) j fun t vs H1 g1 j1 e rs1 => ?_
    · rfl
    subst e
    refine zq_asgG (er_tup (ea_2 (R := (· = .i ((rows.length + 1 : Nat) : Int))) (er_draw (n := ((rows.length + 1 : Nat) : Int)) hpot (er_var (t := .r p) (rp.mono g1) ?_) (Er.imp (er_lenL (er_var rs1 ?_)) fun t e => ?_) (by omega) (by omega)) (Er.imp (er_lenL (er_var rs1 ?_)) fun t e => ?_)) ?_) j1 fun t v2 H2 g2 j2 ⟨ts2, e2, t1, t3, e3, ⟨d, ed, hd0, hd1⟩, e4⟩ r2 => ?_
    · rfl
    · rfl
    · rw [e, List.length_map, hln]
    · rfl
    · rw [e, List.length_map, hln]
    · rintro ts ⟨t, u, rfl, _⟩
      exact (show 2 ≤ sizeLine by decide)
    subst e2 e3 ed e4
    refine g_pair r2 fun v3 v4 r3 r4 => ?_
    obtain ⟨spot, rfl⟩ := Int.eq_ofNat_of_zero_le hd0
    have hsp : spot < rows.length + 1 := by omega
    have rs2 := rs1.mono g2
    have rp2 := (rp.mono g1).mono g2
    obtain ⟨pre, r, erows⟩ : ∃ pre r, rows = pre ++ [r] := by
      have hne : rows ≠ [] := fun e => by rw [e] at h1; simp at h1
      exact ⟨rows.dropLast, rows.getLast hne, (List.dropLast_concat_getLast hne).symm⟩
    have hlast : lines fs rows = lines fs pre ++ [jn (rowWords r)] := by rw [erows]; simp [lines]
    have hpl : rows.length = pre.length + 1 := by rw [erows]; simp
    have mone : ∀ {Z : Ez} {te : TE} {σ : L2.St} {H9 : Hp}, Er Z te σ H9 (· = .i ((rows.length + 1 : Nat) : Int)) → Er Z (tOp (rI0 fun a b => .int (a - b)) te (tC (.int 1))) σ H9 (· = .i (rows.length : Int)) := fun h => er_I0 h er_i fun _ => by
      show V.int _ = V.int _
      congr 1
      omega
    have badd : ∀ {Z : Ez} {te : TE} {σ : L2.St} {H9 : Hp} {n : Int}, Er Z te σ H9 (· = .i n) → Er Z (tOp (rI0 fun a b => .int (a + b)) te (tC (.int 1))) σ H9 (· = .i (n + 1)) := fun h => er_I0 h er_i fun _ => rfl
    have r4' : Rep Z H2 (.i ((rows.length : Int) + 1)) v4 := r4
    refine zq_asg (P := fun t => ∃ rows', t = strsP (lines fs rows') ∧ Beyond rows rows') (Er.imp (er_catSs (er_cs (ls := lines fs pre) (Er.imp (er_slL (er_var rs2 ?_) eo_none (eo_some (er_neg er_i))) fun t e => ?_))
      (er_oneS (A := fun z => ∃ r', ∃ m : Nat, z = jn (rowWords r') ∧ Far m r r' ∧ rows.length ≤ m ∧ m < 100) (Er.imp (er_farR hT (r := r) (by rw [erows]; simp) hpot (er_var (t := .r p) rp2 ?_) (er_ixL (k := rows.length) (er_var rs2 ?_) (er_neg er_i) ?_ ?_) (mone (er_var r4 ?_))) ?_)) ?_) ?_) j2 fun t v5 H5 g5 j5 ⟨rows5, e, hB⟩ r5 => ?_
    · rfl
    · rw [e, cutP_last, hlast, List.map_append]
      show PT.l (List.dropLast (_ ++ [PT.s (jn (rowWords r))])) = _
      rw [List.dropLast_concat]
    · rfl
    · rfl
    · rw [List.length_map, hln]
      show (if (0 : Int) ≤ -1 then _ else if -((rows.length + 1 : Nat) : Int) ≤ -1 then some ((-1 : Int) + ((rows.length + 1 : Nat) : Int)).toNat else none) = _
      rw [if_neg (by decide), if_pos (by omega)]
      congr 1
      omega
    · rw [hlast, List.map_append, List.getElem?_append_right (by simp [len_lines]; omega)]
      simp [len_lines, hpl]
    · rfl
    · rintro t ⟨r', m, e, h⟩
      exact ⟨_, e, r', m, rfl, h⟩
    · rintro a b rfl ⟨z, rfl, _⟩
      simp [len_lines]
      omega
    · rintro t ⟨a, b, rfl, rfl, z, rfl, r', m, rfl, hf, hm1, hm2⟩
      exact ⟨pre ++ [r'], by simp [lines], ⟨pre, r, r', m, erows, rfl, hf, hm1, hm2⟩⟩
    subst e
    have g15 := g2.trans g5
    refine zq_asg (P := fun t => ∃ rows', t = strsP (lines fs rows') ∧ Astray rows rows') (Er.imp (er_catSs (er_cs (ls := (lines fs rows).take 1) (Er.imp (er_slL (er_var (rs2.mono g5) ?_) eo_none (eo_some er_i)) fun t e => ?_))
      (B := fun b => ∃ rows' : List Row, b = rows'.map (fun r => jn (rowWords r)) ∧ Astray rows rows')
      (Er.imp (er_lcJ (P := (· = (rows.map fun r => jn (rowWords r)).map PT.s)) (R := fun _ u => ∃ r ∈ rows, ∃ r', ∃ m : Nat, u = PT.s (jn (rowWords r')) ∧ Far m r r' ∧ rows.length ≤ m ∧ m < 100) (ei_listc (Er.imp (er_slL (er_var (rs2.mono g5) ?_) (eo_some er_i) eo_none) fun t e => ?_)) ?_ wipe1 ?_) ?_) ?_) ?_) j5 fun t v6 H6 g6 j6 ⟨rows6, e, hA⟩ r6 => ?_
    · rfl
    · rw [e, show (1 : Int) = ((1 : Nat) : Int) from rfl, cutP_to, ← List.map_take]
    · rfl
    · rw [e, show (1 : Int) = ((1 : Nat) : Int) from rfl, cutP_from, ← List.map_drop]
      rfl
    · rintro ts rfl
      rw [List.length_map, List.length_map]
      exact Nat.le_trans (by omega : _ ≤ 6) (by decide)
    · intro ts D o t x H1' e ht hD g9 j9 rx
      subst e
      obtain ⟨z, hz9, rfl⟩ := List.mem_map.mp ht
      obtain ⟨q, hq, rfl⟩ := List.mem_map.mp hz9
      refine Er.imp (er_farR (Z := Z.acc D o) hT hq (hpot.fresh j5 hD) (er_var (t := .r p) (((rp2.mono g5).acc hD).mono (Gr.acc g9)) ?_) (er_var rx (var1 (j := 7) (by exact (show 7 < 13 by decide)))) (mone (er_var (((r4.mono g5).acc hD).mono (Gr.acc g9)) ?_))) fun t ⟨r', m, e, h⟩ => ⟨q, hq, r', m, e, h⟩
      · rfl
      · rfl
    · rintro t ⟨ts, us, rfl, rfl, hp⟩
      obtain ⟨rows', e, hl, ha⟩ := astray_of hp
      exact ⟨_, by rw [e], rows', rfl, by rw [hl]; simp, ha⟩
    · rintro a b rfl ⟨rows', rfl, hA⟩
      have := hA.len
      simp
      omega
    · rintro t ⟨a, b, rfl, rfl, rows', rfl, hA⟩
      exact ⟨rows', rfl, hA⟩
    subst e
    have g16 := g15.trans g6
    have rs6 := (rs2.mono g5).mono g6
    have rp6 := (rp2.mono g5).mono g6
    have r36 := (r3.mono g5).mono g6
    obtain ⟨W, hW1, hW2, hLk, hWl, hWc, hWu⟩ := line_at hT hsp
    have hlk : ∀ k, ((lines fs rows).drop k).length ≤ 50 := fun k => by rw [List.length_drop]; omega
    have hlt : ∀ k, ((lines fs rows).take k).length ≤ 50 := fun k => by rw [List.length_take]; omega
    refine zq_asg (er_d (n := 1) (ea_d (er_due (due := (spot : Int) + 1) (Er.imp (er_catSs (A := fun ls => ∃ o ∈ oddW W (decide (spot = 0)), ls = (lines fs rows).take spot ++ [jn o])
      (Er.imp (er_catSs (er_cs (ls := (lines fs rows).take spot) (Er.imp (er_slL (er_var rs6 ?_) eo_none (eo_some (er_var (t := .i (spot : Int)) r36 ?_))) fun t e => ?_))
        (er_oneS (A := fun z => ∃ o ∈ oddW W (decide (spot = 0)), z = jn o) (er_call rfl (ea_c (er_var (t := .r p) rp6 ?_) (ea_c (t := .s (jn W)) (er_ixL (k := spot) (er_var rs6 ?_) (er_var (t := .i (spot : Int)) r36 ?_) ?_ ?_) (ea_c (t := .b (decide (spot = 0))) (Er.imp (er_eqI (er_var (t := .i (spot : Int)) r36 ?_) er_i) fun t e => ?_) ea_nil))) fun ts e => ?_)) ?_) ?_)
      (er_cs (ls := (lines fs rows).drop (spot + 1)) (Er.imp (er_slL (er_var rs6 ?_) (eo_some (badd (er_var (t := .i (spot : Int)) r36 ?_))) eo_none) fun t e => ?_)) ?_) ?_) (badd (er_var (t := .i (spot : Int)) r36 ?_))) ea_d0) (by decide)) j6 fun t v7 H7 g7 j7 ⟨us7, e, hd7⟩ r7 => ?_
    · rfl
    · rfl
    · rw [e, cutP_to, ← List.map_take]
    · rfl
    · rfl
    · rfl
    · rw [List.length_map, hln]
      exact Evl.ixN_nat hsp
    · rw [List.getElem?_map, hW1]
      rfl
    · rfl
    · rw [e]
      congr 1
      exact decide_eq_decide.mpr (by omega)
    · subst e
      exact ⟨p, W, _, hpot, rfl, hLk, fun o ho => ⟨_, rfl, o, ho, rfl⟩⟩
    · rintro a b rfl ⟨z, rfl, _⟩
      have := hlt spot
      simp only [List.length_singleton]
      omega
    · rintro t ⟨a, b, rfl, rfl, z, rfl, o, ho, rfl⟩
      exact ⟨_, rfl, o, ho, rfl⟩
    · rfl
    · rfl
    · rw [e, show (spot : Int) + 1 = ((spot + 1 : Nat) : Int) from rfl, cutP_from, ← List.map_drop]
    · rintro a b ⟨o, ho, rfl⟩ rfl
      have := hlt spot
      have := hlk (spot + 1)
      simp only [List.length_append, List.length_singleton]
      omega
    · rintro t ⟨a, b, rfl, ⟨o, ho, rfl⟩, rfl⟩
      exact ⟨_, rfl, D_odd hT hsp hW1 hW2 hLk hWl hWc hWu ho⟩
    · rfl
    subst e
    have rs7 := rs6.mono g7
    have rp7 := rp6.mono g7
    have r47 : Rep Z H7 (.i ((rows.length : Int) + 1)) v4 := ((r4'.mono g5).mono g6).mono g7
    refine zq_asg (er_dcat (n := 1) (m := 3) (er_varP (t := .l us7) ⟨us7, rfl, hd7⟩ r7 ?_) (er_d (ea_d (er_due (due := 1) (er_cs' (Er.imp (er_lstc (us := []) ea_nil (show 0 ≤ sizeLine by decide)) fun t e => ?_) D_nil) er_i)
      (ea_d (er_due (due := 2) (er_cs' (ls := (lines fs rows).take 1) (Er.imp (er_slL (er_var rs7 ?_) eo_none (eo_some er_i)) fun t e => ?_) (D_one hT)) er_i)
      (ea_d (er_due (due := (rows.length : Int) + 1 + 1) (Er.imp (er_catSs (er_cs (ls := lines fs rows) (er_var rs7 ?_)) (er_oneS (A := fun z => z ∈ moreL) (Er.imp (er_pick hpot (er_var (t := .r p) rp7 ?_) (er_lstc (us := moreL.map PT.s) (ea_c er_s (ea_c er_s (ea_c er_s (ea_c er_s ea_nil)))) (show 4 ≤ sizeLine by decide)) (by decide) (by decide)) fun t ht => ?_)) ?_) ?_) (badd (er_var r47 ?_))) ea_d0))) (by decide)) (by decide)) j7 fun t v8 H8 g8 j8 ⟨us8, e, hd8⟩ r8 => ?_
    · rfl
    · exact e
    · rfl
    · rw [e, show (1 : Int) = ((1 : Nat) : Int) from rfl, cutP_to, ← List.map_take]
    · rfl
    · rfl
    · obtain ⟨z, hz', rfl⟩ := List.mem_map.mp ht
      exact ⟨z, rfl, hz'⟩
    · rintro a b rfl ⟨z, rfl, _⟩
      simp only [List.length_singleton]
      omega
    · rintro t ⟨a, b, rfl, rfl, z, rfl, hz'⟩
      exact ⟨_, rfl, D_more hT.sheet hz'⟩
    · rfl
    subst e
    have r58 := ((r5.mono g6).mono g7).mono g8
    have r68 := (r6.mono g7).mono g8
    have r48 := r47.mono g8
    have hS5 := hB.sheet hT
    have hS6 := hA.sheet hT
    refine zq_asg (er_dcat (n := 4) (m := 4) (er_varP (t := .l us8) ⟨us8, rfl, hd8⟩ r8 ?_) (er_d (ea_d (er_due (due := (rows.length : Int) + 1) (er_cs' (er_var r58 ?_) (D_beyond hT hB)) (er_var r48 ?_))
      (ea_d (er_due (due := (rows.length : Int) + 1 + 1) (Er.imp (er_catSs (er_cs (ls := lines fs rows5) (er_var r58 ?_)) (er_oneS (A := fun z => z = "x") (Er.imp er_s fun t e => ⟨_, e, rfl⟩)) ?_) ?_) (badd (er_var r48 ?_)))
      (ea_d (er_due (due := 2) (er_cs' (er_var r68 ?_) (D_astray hT hA)) er_i)
      (ea_d (er_due (due := 1) (er_cs' (ls := (lines fs rows).drop 1) (Er.imp (er_slL (er_var (rs7.mono g8) ?_) (eo_some er_i) eo_none) fun t e => ?_) (D_drop hT)) er_i) ea_d0)))) (by decide)) (by decide)) j8 fun t v9 H9 g9 j9 ⟨us9, e, hd9⟩ r9 => ?_
    · rfl
    · rfl
    · rfl
    · rfl
    · rintro a b rfl ⟨z, rfl, _⟩
      simp only [List.length_singleton, len_lines, hS5.2]
      omega
    · rintro t ⟨a, b, rfl, rfl, z, rfl, rfl⟩
      have := D_more hS5.1 (x := "x") (by simp [moreL])
      rw [hS5.2] at this
      exact ⟨_, rfl, this⟩
    · rfl
    · rfl
    · rfl
    · rw [e, show (1 : Int) = ((1 : Nat) : Int) from rfl, cutP_from, ← List.map_drop]
    subst e
    have g19 := (((g16.trans g7).trans g8).trans g9)
    have r49 := r48.mono g9
    have r59 := r58.mono g9
    have rs9 := (rs7.mono g8).mono g9
    refine zq_for (Z := Z) (P := DuesN 8) (fun ts i σ' H' => ∃ o9 o10 o11, σ' = [some vp, some vt, some vs, some v3, some v4, some v5, some v6, none, some v9, o9, o10, o11, none])
      (ei_list (er_varP (t := .l us9) ⟨us9, rfl, hd9⟩ r9 ?_)) j9 (fun ts H10 g10 j10 e => ⟨none, none, none, rfl⟩) (fun ts i t x σ' H' e ht g' j' rx ⟨o9, o10, o11, es⟩ N hN => ?_) (fun ts σ' H' e g' j' ⟨o9, o10, o11, es⟩ => ?_)
    · rfl
    · subst es
      obtain ⟨ls, due, rfl, hdo⟩ := e.2 t (List.mem_of_getElem? ht)
      refine g_pair rx fun x1 x2 rx1 rx2 => ?_
      have hlc : ls.length ≤ 900 := Nat.le_trans hdo.1.len (by decide)
      have wk := whole_ok (zs := ls) hlc fun z h => hdo.1.cl z h
      show tSeq _ _ _ _ _
      refine zq_asg (er_call (S := (· = .s (whole ls))) rfl (ea_c (er_var (t := strsP ls) rx1 ?_) ea_nil) fun ts e => ⟨ls, e, Nat.le_trans hlc (by decide), fun z h => Nat.le_trans (hdo.1.cl z h).1 (by decide), rfl⟩) j' fun t v11 H11 g11 j11 e r11 => ?_
      · rfl
      subst e
      refine zq_when (b := false) (Eb.imp (eb_test (er_neTold (a := some due) (b := some due) (Er.imp (er_told hz (z := whole ls) (er_var r11 ?_) wk.1) ?_) (er_var (t := toldP (some due)) (rx2.mono g11) ?_))) ?_) j11 (fun z => (by cases z)) fun _ H12 g12 j12 => ?_
      · rfl
      · intro t e
        rw [e, wk.2.1, hdo.2]
      · rfl
      · intro b e
        rw [e]
        simp
      · refine z_when (b := false) (Eb.imp (eb_test (er_neTold (a := some due) (b := some due) (Er.imp (er_told hz (z := whole ls) (er_var (r11.mono g12) ?_) wk.1) ?_) (er_var (t := toldP (some due)) ((rx2.mono g11).mono g12) ?_))) ?_) j12 (fun z => (by cases z)) fun _ H13 g13 j13 => ?_
        · rfl
        · intro t e
          rw [e, wk.2.1, hdo.2]
        · rfl
        · intro b e
          rw [e]
          simp
        · exact hN _ H13 ((g11.trans g12).trans g13) j13 ⟨_, _, _, rfl⟩
    · subst es
      have g1' := g19.trans g'
      have nel : ∀ rws : List Row, lines fs rws ≠ [] := fun rws => by simp [lines]
      have c5 := clean_lines hS5.1
      have cs := clean_lines hT.sheet
      have ok9 : ∀ ls : List Str, Clean ls → ls.length ≤ 900 ∧ ∀ z ∈ ls, z.length ≤ 600 ∧ 10 ∉ TL.tl z := fun ls c => ⟨Nat.le_trans c.len (by decide), fun z h => c.cl z h⟩
      have b5 := bare_ok (nel rows5) (ok9 _ c5).1 (ok9 _ c5).2
      have bs := bare_ok (nel rows) (ok9 _ cs).1 (ok9 _ cs).2
      have rd5 : readT (Txt.join "\n" (lines fs rows5)) = some ((rows.length : Int) + 1) := by rw [b5.2.1, R10s hS5.1, hS5.2]
      have rds : readT (Txt.join "\n" (lines fs rows)) = some ((rows.length : Int) + 1) := by rw [bs.2.1, R10s hT.sheet]
      have wl : ∀ ls : List Str, Clean ls → (whole ls).length ≤ sizeLine := fun ls c => by
        rw [len_whole]
        have := sum_le (zs := ls) (b := 600) fun z h => (c.cl z h).1
        have h2 : ls.length * 600 ≤ 20 * 600 := Nat.mul_le_mul_right _ c.len
        have h3 := c.len
        exact Nat.le_trans (by omega : _ ≤ 12020) (by decide)
      have cut : ∀ {te : TE} {σ : L2.St} {H9 : Hp} {E : XK} {ls : List Str}, ls ≠ [] → Clean ls → Er Z te σ H9 (· = strsP ls) → Er Z (tSl rSlS (tCall (spR Z.K pre_whole) [] E (tCons te tNil)) tNoPart (tPart (tUn (rU fun i => .int (-i)) (tC (.int 1))))) σ H9 (· = .s (Txt.join "\n" ls)) := fun {te σ H9 E ls} hne c h => by
        rw [← whole_cut hne]
        exact er_slS (er_call (S := (· = .s (whole ls))) rfl (ea_c h ea_nil) fun ts e => ⟨ls, e, Nat.le_trans (ok9 _ c).1 (by decide), fun z hz => Nat.le_trans (c.cl z hz).1 (by decide), rfl⟩) eo_none (eo_some (er_neg er_i)) (wl ls c)
      refine zq_for (Z := Z) (P := (· = [PT.s (Txt.join "\n" (lines fs rows5)), PT.s (Txt.join "\n" (lines fs rows))])) (fun ts i σ' H' => ∃ o12, σ' = [some vp, some vt, some vs, some v3, some v4, some v5, some v6, none, some v9, o9, o10, o11, o12])
        (ei_listc (er_lstc (ea_c (cut (nel rows5) c5 (er_var (r59.mono g') ?_)) (ea_c (cut (nel rows) cs (er_var (rs9.mono g') ?_)) ea_nil)) (show 2 ≤ sizeLine by decide))) j' (fun ts H10 g10 j10 e => ⟨none, rfl⟩) (fun ts i t x σ'' H'' e ht g'' j'' rx ⟨o12, es⟩ N hN => ?_) (fun ts σ'' H'' e g'' j'' ⟨o12, es⟩ => ?_)
      · rfl
      · rfl
      · subst es e
        obtain ⟨z, rfl, hso, hrd⟩ : ∃ z, t = .s z ∧ SplitOk z ∧ readT z = some ((rows.length : Int) + 1) := by
          have := List.mem_of_getElem? ht
          simp only [List.mem_cons, List.not_mem_nil, or_false] at this
          rcases this with rfl | rfl
          · exact ⟨_, rfl, b5.1, rd5⟩
          · exact ⟨_, rfl, bs.1, rds⟩
        show tIfS _ _ tNext _ _ _
        refine z_when (b := false) (Eb.imp (eb_test (er_neTold (a := some ((rows.length : Int) + 1)) (b := some ((rows.length : Int) + 1)) (Er.imp (er_told hz (z := z) (er_var rx ?_) hso) ?_) (er_var (t := toldP (some ((rows.length : Int) + 1))) ((r49.mono g').mono g'') ?_))) ?_) j'' (fun z => (by cases z)) fun _ H13 g13 j13 => ?_
        · rfl
        · intro t e
          rw [e, hrd]
        · rfl
        · intro b e
          rw [e]
          simp
        · exact hN _ H13 g13 j13 ⟨_, rfl⟩
      · subst es
        have ws := whole_ok (zs := lines fs rows) (ok9 _ cs).1 (ok9 _ cs).2
        refine z_ret (er_eqTold (a := none) (b := none) (Er.imp (er_told hz (z := whole (lines fs rows)) (er_call (S := (· = .s (whole (lines fs rows)))) rfl (ea_c (er_var (t := strsP (lines fs rows)) ((rs9.mono g').mono g'') ?_) ea_nil) fun ts e => ⟨_, e, Nat.le_trans (ok9 _ cs).1 (by decide), fun z hz => Nat.le_trans (cs.cl z hz).1 (by decide), rfl⟩) ws.1) ?_) (er_c fun _ => rfl)) j'' fun t v4 H4 g4 j4 e r4 => ?_
        · rfl
        · intro t e
          rw [e, ws.2.1, R1 hT]
        · subst e
          exact k _ v4 H4 (((g1.trans g1').trans g'').trans g4) j4 hP r4
end
end Fy
/-! Tf -/
/-! terms, plain -/
namespace Fy
open PySem PySem.Spec PyProof.Rows L2
inductive Tm where
  | inn
  | one (i : Nat) (h : i < 5) (t : Tm)
  | late (s : Bool) (t : Tm)
  | by4 (a b c d : Bool) (x y : Tm)
  | two (s : Bool) (x y : Tm)
def w1 : List Str := ["not", "twice", "half", "change", "count"]
def w2 (s : Bool) : Str := if s then "then" else "keep"
def sg (s : Bool) : Str := if s then "1" else "0"
def mix (a b c d : Bool) : Str := Txt.join "" [sg a, sg b, sg c, sg d]
def Tm.size : Tm → Nat
  | .inn => 1
  | .one _ _ t => t.size + 1
  | .late _ t => t.size + 1
  | .by4 _ _ _ _ x y => x.size + y.size + 1
  | .two _ x y => x.size + y.size + 1
def tmP : Tm → PT
  | .inn => .s "in"
  | .one i _ t => .u [.s (w1.getD i ""), tmP t]
  | .late s t => .u [.s "late", .s (sg s), tmP t]
  | .by4 a b c d x y => .u [.s "by", .s (mix a b c d), tmP x, tmP y]
  | .two s x y => .u [.s (w2 s), tmP x, tmP y]
def tmT : Tm → Str
  | .inn => "in"
  | .one i _ t => w1.getD i "" ++ ("(" : Str) ++ tmT t ++ (")" : Str)
  | .late s t => ("late(" : Str) ++ sg s ++ ("," : Str) ++ tmT t ++ (")" : Str)
  | .by4 a b c d x y => ("by(" : Str) ++ mix a b c d ++ ("," : Str) ++ tmT x ++ ("," : Str) ++ tmT y ++ (")" : Str)
  | .two s x y => w2 s ++ ("(" : Str) ++ tmT x ++ ("," : Str) ++ tmT y ++ (")" : Str)
theorem Tm.pos (t : Tm) : 1 ≤ t.size := by cases t <;> simp [Tm.size]
theorem app_len (a b : Str) : (a ++ b).length = a.length + b.length := by
  rw [TL.len_tl, TL.tl_append, List.length_append, ← TL.len_tl, ← TL.len_tl]
theorem w1_len : ∀ i < 5, (w1.getD i "").length ≤ 6 := by decide +kernel
theorem w2_len : ∀ s, (w2 s).length ≤ 4 := by decide +kernel
theorem sg_len : ∀ s, (sg s).length ≤ 1 := by decide +kernel
theorem mix_len : ∀ a b c d, (mix a b c d).length ≤ 4 := by decide +kernel
theorem lits_len : ("late(" : Str).length = 5 ∧ ("by(" : Str).length = 3 ∧ ("," : Str).length = 1 ∧ ("(" : Str).length = 1 ∧ (")" : Str).length = 1 ∧ ("in" : Str).length = 2 := by decide +kernel
theorem tmT_len : ∀ t : Tm, (tmT t).length ≤ t.size * 10
  | .inn => by
    show ("in" : Str).length ≤ 1 * 10
    decide +kernel
  | .one i h t => by
    have := tmT_len t
    obtain ⟨l1, l2, l3, l4, l5, l6⟩ := lits_len
    have := w1_len i h
    simp only [tmT, app_len, Tm.size]
    omega
  | .late s t => by
    have := tmT_len t
    obtain ⟨l1, l2, l3, l4, l5, l6⟩ := lits_len
    have := sg_len s
    simp only [tmT, app_len, Tm.size]
    omega
  | .by4 a b c d x y => by
    have := tmT_len x
    have := tmT_len y
    obtain ⟨l1, l2, l3, l4, l5, l6⟩ := lits_len
    have := mix_len a b c d
    simp only [tmT, app_len, Tm.size]
    omega
  | .two s x y => by
    have := tmT_len x
    have := tmT_len y
    obtain ⟨l1, l2, l3, l4, l5, l6⟩ := lits_len
    have := w2_len s
    simp only [tmT, app_len, Tm.size]
    omega
end Fy
/-! L8 -/
namespace Fy
open PySem PySem.Spec PyProof.Rows L2 LamX
abbrev pairP (t : Tm) : PT := .u [tmP t, .s (tmT t)]
def pre_term (n : Nat) : Ez → List PT → (PT → Prop) → Prop := fun Z ts P => ∃ (p : Addr) (size : Nat), HasPot Z p ∧ ts = [.r p, .i (size : Int)] ∧ 1 ≤ size ∧ size ≤ n ∧ n ≤ 9 ∧ ∀ t : Tm, t.size ≤ size → P (pairP t)
theorem er_term {Z : Ez} {n m : Nat} {ta tb : TE} {E : XK} {σ : L2.St} {H : Hp} {p : Addr} (hpot : HasPot Z p) (ha : Er Z ta σ H (· = .r p)) (hb : Er Z tb σ H (· = .i (m : Int))) (h1 : 1 ≤ m) (h2 : m ≤ n) (h3 : n ≤ 9) :
    Er Z (tCall (spR Z.K (pre_term n)) [] E (tCons ta (tCons tb tNil))) σ H (fun u => ∃ t : Tm, u = pairP t ∧ t.size ≤ m) :=
  er_call rfl (ea_c ha (ea_c hb ea_nil)) fun ts e => ⟨p, m, hpot, e, h1, h2, h3, fun t ht => ⟨t, rfl, ht⟩⟩
theorem sg_of {z : Str} (h : PT.s z ∈ ([("0" : Str), "1"] : List Str).map PT.s) : ∃ b, z = sg b := by
  obtain ⟨y, hy, e⟩ := List.mem_map.mp h
  cases e
  simp only [List.mem_cons, List.not_mem_nil, or_false] at hy
  rcases hy with rfl | rfl
  · exact ⟨false, rfl⟩
  · exact ⟨true, rfl⟩
section
variable {P : Program} {w : World} {K : PySem.W.Frag} {mg : Str → Option Value} {base : Heap}
theorem sc__law_term : FnScope ["_law_pot_here", "_law_size", "_law_way", "_law_word", "_law_near", "_law_shown", "_law_sign", "_law_left", "_law_far", "_law_seen", "_law_mix", "_law_turn"] ["_law_pot_here", "_law_size"] (defScope s__law_term) := ⟨rfl, rfl, rfl, by decide +kernel, rfl, by decide +kernel, by decide +kernel⟩
theorem sz2 {a b : Str} (h : a.length + b.length ≤ 2000) : a.length + b.length ≤ sizeLine := Nat.le_trans h (by decide)
theorem ok__law_term (T : Tx K mg) : ∀ n, Has P w K mg base CX0 (4 + n) "_law_term" ["_law_pot_here", "_law_size"] (spR K (pre_term n)) := by
  intro n
  induction n with
  | zero =>
    obtain ⟨f, fd, F, g⟩ := T.d__law_term
    refine ⟨f, fd, g, F.kp, F.bindsN (ps := ["_law_pot_here", "_law_size"]) (fun _ _ _ _ _ _ us hl => match us, hl with | [_, _], _ => rfl), ?_⟩
    refine F.ok sc__law_term (fun vs H Q E h => ?_) (fun cdv A outer s H vs Q E hr h => ?_)
    · obtain ⟨Z, ts, P', _, _, rs, ⟨p, _, _, rfl, _⟩, _⟩ := h
      exact rs.length
    · obtain ⟨Z, ts, P', _, _, rs, ⟨p, _, _, rfl, h1, h2, _⟩, _⟩ := h
      omega
  | succ n ih =>
  obtain ⟨f, fd, F, g⟩ := T.d__law_term
  refine ⟨f, fd, g, F.kp, F.bindsN (ps := ["_law_pot_here", "_law_size"]) (fun _ _ _ _ _ _ us hl => match us, hl with | [_, _], _ => rfl), ?_⟩
  refine F.ok sc__law_term (fun vs H Q E h => ?_) (fun cdv A outer s H vs Q E hr h => ?_)
  · obtain ⟨Z, ts, P', _, _, rs, ⟨p, _, _, rfl, _⟩, _⟩ := h
    exact rs.length
  · obtain ⟨Z, ts, P', rfl, j, rs, ⟨p, size, hpot, rfl, hs1, hsn, hn9, hP⟩, k⟩ := h
    obtain ⟨vp, _, rfl, rp, vz, _, rfl, rz, rfl⟩ := rs
    refine ⟨_, PSs.nox (pss_cons (ps_set (i := 2) sc__law_term.nd rfl (Or.inl rfl) (pe_ifExp (pt_cmpR op_gt (pv 1) pe_int (nomark _)) (pe_has (ok__law_draw T) (hr.mono (by show _ ≤ 4 + n; omega)) pass0 (pa_cons (pv 0) (pa_cons pe_int pa_nil))) pe_int))
      (pss_cons (ps_if (pt_cmpR op_eq (pv 2) pe_int (nomark _)) (pss_one (ps_ret (pe_tup (pa_cons pe_str (pa_cons pe_str pa_nil))))) pss_nil)
      (pss_cons (ps_if (pt_cmpR op_lt (pv 2) pe_int (nomark _)) (pss_cons (ps_set (i := 3) sc__law_term.nd rfl (Or.inl rfl) (pe_ix (r := rIxL Z.K) ix_list (pe_lst (pa_cons pe_str (pa_cons pe_str (pa_cons pe_str (pa_cons pe_str (pa_cons pe_str pa_nil)))))) (pv 2) (fun _ _ => rfl)))
      (pss_cons (ps_asg (pe_has ih (hr.mono (by show _ ≤ 4 + n; omega)) pass0 (pa_cons (pv 0) (pa_cons (pe_op op_sub (pv 1) pe_int) pa_nil))) (pg_tup rfl (pgs_cons (pg_name (i := 4) sc__law_term.nd rfl (Or.inl rfl)) (pgs_cons (pg_name (i := 5) sc__law_term.nd rfl (Or.inl rfl)) pgs_nil))))
      (pss_one (ps_ret (pe_tup (pa_cons (pe_tup (pa_cons (pv 3) (pa_cons (pv 4) pa_nil))) (pa_cons (pe_op op_add_str (pe_op op_add_str (pe_op op_add_str (pv 3) pe_str) (pv 5)) pe_str) pa_nil))))))) pss_nil)
      (pss_cons (ps_if (pt_cmpR op_eq (pv 2) pe_int (nomark _)) (pss_cons (ps_set (i := 6) sc__law_term.nd rfl (Or.inl rfl) (pe_has (ok__law_pick T) (hr.mono (by show _ ≤ 4 + n; omega)) pass0 (pa_cons (pv 0) (pa_cons (pe_lst (pa_cons pe_str (pa_cons pe_str pa_nil))) pa_nil))))
      (pss_cons (ps_asg (pe_has ih (hr.mono (by show _ ≤ 4 + n; omega)) pass0 (pa_cons (pv 0) (pa_cons (pe_op op_sub (pv 1) pe_int) pa_nil))) (pg_tup rfl (pgs_cons (pg_name (i := 4) sc__law_term.nd rfl (Or.inl rfl)) (pgs_cons (pg_name (i := 5) sc__law_term.nd rfl (Or.inl rfl)) pgs_nil))))
      (pss_one (ps_ret (pe_tup (pa_cons (pe_tup (pa_cons pe_str (pa_cons (pv 6) (pa_cons (pv 4) pa_nil)))) (pa_cons (pe_op op_add_str (pe_op op_add_str (pe_op op_add_str (pe_op op_add_str pe_str (pv 6)) pe_str) (pv 5)) pe_str) pa_nil))))))) pss_nil)
      (pss_cons (ps_if (pt_cmpR op_lt (pv 1) pe_int (nomark _)) (pss_one (ps_ret (pe_tup (pa_cons pe_str (pa_cons pe_str pa_nil))))) pss_nil)
      (pss_cons (ps_set (i := 7) sc__law_term.nd rfl (Or.inl rfl) (pe_op op_add pe_int (pe_has (ok__law_draw T) (hr.mono (by show _ ≤ 4 + n; omega)) pass0 (pa_cons (pv 0) (pa_cons (pe_op op_sub (pv 1) pe_int) pa_nil)))))
      (pss_cons (ps_asg (pe_has ih (hr.mono (by show _ ≤ 4 + n; omega)) pass0 (pa_cons (pv 0) (pa_cons (pv 7) pa_nil))) (pg_tup rfl (pgs_cons (pg_name (i := 4) sc__law_term.nd rfl (Or.inl rfl)) (pgs_cons (pg_name (i := 5) sc__law_term.nd rfl (Or.inl rfl)) pgs_nil))))
      (pss_cons (ps_asg (pe_has ih (hr.mono (by show _ ≤ 4 + n; omega)) pass0 (pa_cons (pv 0) (pa_cons (pe_op op_sub (pe_op op_sub (pv 1) pe_int) (pv 7)) pa_nil))) (pg_tup rfl (pgs_cons (pg_name (i := 8) sc__law_term.nd rfl (Or.inl rfl)) (pgs_cons (pg_name (i := 9) sc__law_term.nd rfl (Or.inl rfl)) pgs_nil))))
      (pss_cons (ps_if (pt_cmpR op_eq (pv 2) pe_int (nomark _)) (pss_cons (ps_set (i := 10) sc__law_term.nd rfl (Or.inl rfl) (pe_join pe_str (pe_lc (own := [("_law_turn", 11)]) (g := gName 11) (tt := tYes) rfl sc__law_term.nd (pi_range1 rfl T.n_range (pa_cons pe_int pa_nil)) (blkOk_by (N := ["_law_pot_here", "_law_size", "_law_way", "_law_word", "_law_near", "_law_shown", "_law_sign", "_law_left", "_law_far", "_law_seen", "_law_mix", "_law_turn"]) (sc := defScope s__law_term) (by decide +kernel)) (fun _ _ _ _ _ => pg_name (i := 11) sc__law_term.nd rfl (Or.inl rfl)) (fun _ _ _ _ _ => pts_nil) (fun _ _ _ _ _ => (pe_has (ok__law_pick T) (hr.mono (by show _ ≤ 4 + n; omega)) pass0 (pa_cons (pv 0) (pa_cons (pe_lst (pa_cons pe_str (pa_cons pe_str pa_nil))) pa_nil)))))))
      (pss_one (ps_ret (pe_tup (pa_cons (pe_tup (pa_cons pe_str (pa_cons (pv 10) (pa_cons (pv 4) (pa_cons (pv 8) pa_nil))))) (pa_cons (pe_op op_add_str (pe_op op_add_str (pe_op op_add_str (pe_op op_add_str (pe_op op_add_str (pe_op op_add_str pe_str (pv 10)) pe_str) (pv 5)) pe_str) (pv 9)) pe_str) pa_nil)))))) pss_nil)
      (pss_cons (ps_set (i := 3) sc__law_term.nd rfl (Or.inl rfl) (pe_ix (r := rIxL Z.K) ix_list (pe_lst (pa_cons pe_str (pa_cons pe_str pa_nil))) (pe_op op_sub (pv 2) pe_int) (fun _ _ => rfl)))
      (pss_one (ps_ret (pe_tup (pa_cons (pe_tup (pa_cons (pv 3) (pa_cons (pv 4) (pa_cons (pv 8) pa_nil)))) (pa_cons (pe_op op_add_str (pe_op op_add_str (pe_op op_add_str (pe_op op_add_str (pe_op op_add_str (pv 3) pe_str) (pv 5)) pe_str) (pv 9)) pe_str) pa_nil))))))))))))))), ?_⟩
    obtain ⟨l1, l2, l3, l4, l5, l6⟩ := lits_len
    have msub : ∀ {te : TE} {σ : L2.St} {H9 : Hp} {m c : Nat}, c ≤ m → Er Z te σ H9 (· = .i (m : Int)) → Er Z (tOp (rI0 fun a b => .int (a - b)) te (tC (.int (c : Int)))) σ H9 (· = .i ((m - c : Nat) : Int)) := fun hc h => er_I0 h er_i fun _ => by
      show V.int _ = V.int _
      congr 1
      omega
    have fin : ∀ {H9 : Hp} {t : Tm} {v : V}, t.size ≤ size → Gr Z H H9 → Z.J H9 → Rep Z H9 (pairP t) v → Q v H9 := fun ht g j r => k _ _ _ g j (hP _ ht) r
    refine zq_asg (P := fun t => ∃ d : Int, t = .i d ∧ 0 ≤ d ∧ d < 10 ∧ (d ≠ 9 → 1 < size)) (er_if (c := decide ((size : Int) > 1)) (eb_test (er_I0 (er_var (t := .i (size : Int)) rz ?_) er_i fun _ => ?_)) (fun hc => Er.imp (er_draw (n := 10) hpot (er_var (t := .r p) rp ?_) er_i (by decide) (by decide)) fun t ⟨d, e, h0, h1⟩ => ⟨d, e, h0, h1, fun _ => by have := of_decide_eq_true hc; omega⟩) (fun _ => Er.imp er_i fun t e => ⟨9, e, by decide, by decide, fun h => absurd rfl h⟩)) j fun t v2 H1 g1 j1 ⟨d, e, hd0, hd1, hd9⟩ r2 => ?_
    · rfl
    · rfl
    · rfl
    subst e
    refine zq_when (b := decide (d = 9)) (eb_test (er_eqI (er_var (t := .i d) r2 ?_) er_i)) j1 (fun _ H2 g2 j2 => ?_) fun hb9 H2 g2 j2 => ?_
    · rfl
    · refine z_ret (er_tupc (us := [.s "in", .s "in"]) (ea_c er_s (ea_c er_s ea_nil)) (show 2 ≤ sizeLine by decide)) j2 fun t v H3 g3 j3 e r3 => ?_
      subst e
      exact fin (t := .inn) hs1 ((g1.trans g2).trans g3) j3 r3
    have hb9 := of_decide_eq_false hb9
    have hz1 : 1 < size := hd9 hb9
    refine zq_when (b := decide (d < 5)) (eb_test (er_I0 (t := .b (decide (d < 5))) (er_var (t := .i d) (r2.mono g2) ?_) er_i ?_)) j2 (fun hd5 H3 g3 j3 => ?_) fun hd5 H3 g3 j3 => ?_
    · rfl
    · intro _
      rfl
    · have hd5 := of_decide_eq_true hd5
      obtain ⟨dn, rfl⟩ := Int.eq_ofNat_of_zero_le hd0
      have hdn : dn < 5 := by omega
      refine zq_asg (er_ixL (as := w1.map PT.s) (k := dn) (t := .s (w1.getD dn "")) (er_lstc (ea_c er_s (ea_c er_s (ea_c er_s (ea_c er_s (ea_c er_s ea_nil))))) (show 5 ≤ sizeLine by decide)) (er_var (t := .i (dn : Int)) ((r2.mono g2).mono g3) ?_) ?_ ?_) j3 fun t v3 H4 g4 j4 e r3 => ?_
      · rfl
      · exact Evl.ixN_nat (show dn < 5 from hdn)
      · have hd : dn < w1.length := hdn
        rw [List.getElem?_map, List.getElem?_eq_getElem hd, List.getD_eq_getElem?_getD, List.getElem?_eq_getElem hd]
        rfl
      subst e
      have g14 := ((g1.trans g2).trans g3).trans g4
      refine zq_asgG (er_term (m := size - 1) hpot (er_var (t := .r p) (rp.mono g14) ?_) (msub (c := 1) hs1 (er_var (t := .i (size : Int)) (rz.mono g14) ?_)) (by omega) (by omega) (by omega)) j4 fun t v4 H5 g5 j5 ⟨tm, e, htm⟩ r5 => ?_
      · rfl
      · rfl
      subst e
      refine g_pair r5 fun v6 v7 r6 r7 => ?_
      have := w1_len dn hdn
      have := tmT_len tm
      refine z_ret (er_tupc (us := [tmP (.one dn hdn tm), .s (tmT (.one dn hdn tm))]) (ea_c (er_tupc (us := [.s (w1.getD dn ""), tmP tm]) (ea_c (er_var (r3.mono g5) ?_) (ea_c (er_var r6 ?_) ea_nil)) (show 2 ≤ sizeLine by decide))
        (ea_c (er_catS (er_catS (er_catS (er_var (t := .s (w1.getD dn "")) (r3.mono g5) ?_) er_s (sz2 (by omega))) (er_var (t := .s (tmT tm)) r7 ?_) (sz2 (by simp only [app_len]; omega))) er_s (sz2 (by simp only [app_len]; omega))) ea_nil)) (show 2 ≤ sizeLine by decide)) j5 fun t v9 H9 g9 j9 e r9 => ?_
      · rfl
      · rfl
      · rfl
      · rfl
      subst e
      exact fin (t := .one dn hdn tm) (by simp only [Tm.size]; omega) ((g14.trans g5).trans g9) j9 r9
    have hd5 := of_decide_eq_false hd5
    refine zq_when (b := decide (d = 5)) (eb_test (er_eqI (er_var (t := .i d) ((r2.mono g2).mono g3) ?_) er_i)) j3 (fun he5 H4 g4 j4 => ?_) fun he5 H4 g4 j4 => ?_
    · rfl
    · have g14 := ((g1.trans g2).trans g3).trans g4
      refine zq_asg (er_pick (as := ([("0" : Str), "1"] : List Str).map PT.s) hpot (er_var (t := .r p) (rp.mono g14) ?_) (er_lstc (ea_c er_s (ea_c er_s ea_nil)) (show 2 ≤ sizeLine by decide)) (by simp) (show 2 ≤ 1000 by decide)) j4 fun t v3 H5 g5 j5 e r3 => ?_
      · rfl
      obtain ⟨b, rfl⟩ : ∃ b, t = .s (sg b) := by
        obtain ⟨y, hy, rfl⟩ := List.mem_map.mp e
        obtain ⟨b, rfl⟩ := sg_of (List.mem_map.mpr ⟨y, hy, rfl⟩)
        exact ⟨b, rfl⟩
      have g15 := g14.trans g5
      refine zq_asgG (er_term (m := size - 1) hpot (er_var (t := .r p) (rp.mono g15) ?_) (msub (c := 1) hs1 (er_var (t := .i (size : Int)) (rz.mono g15) ?_)) (by omega) (by omega) (by omega)) j5 fun t v4 H6 g6 j6 ⟨tm, e, htm⟩ r5 => ?_
      · rfl
      · rfl
      subst e
      refine g_pair r5 fun v6 v7 r6 r7 => ?_
      have := sg_len b
      have := tmT_len tm
      refine z_ret (er_tupc (us := [tmP (.late b tm), .s (tmT (.late b tm))]) (ea_c (er_tupc (us := [.s "late", .s (sg b), tmP tm]) (ea_c er_s (ea_c (er_var (r3.mono g6) ?_) (ea_c (er_var r6 ?_) ea_nil))) (show 3 ≤ sizeLine by decide))
        (ea_c (er_catS (er_catS (er_catS (er_catS er_s (er_var (t := .s (sg b)) (r3.mono g6) ?_) (sz2 (by omega))) er_s (sz2 (by simp only [app_len]; omega))) (er_var (t := .s (tmT tm)) r7 ?_) (sz2 (by simp only [app_len]; omega))) er_s (sz2 (by simp only [app_len]; omega))) ea_nil)) (show 2 ≤ sizeLine by decide)) j6 fun t v9 H9 g9 j9 e r9 => ?_
      · rfl
      · rfl
      · rfl
      · rfl
      subst e
      exact fin (t := .late b tm) (by simp only [Tm.size]; omega) ((g15.trans g6).trans g9) j9 r9
    have he5 := of_decide_eq_false he5
    have g14 := ((g1.trans g2).trans g3).trans g4
    refine zq_when (b := decide ((size : Int) < 3)) (eb_test (er_I0 (t := .b (decide ((size : Int) < 3))) (er_var (t := .i (size : Int)) (rz.mono g14) ?_) er_i ?_)) j4 (fun _ H5 g5 j5 => ?_) fun hz3 H5 g5 j5 => ?_
    · rfl
    · intro _
      rfl
    · refine z_ret (er_tupc (us := [.s "in", .s "in"]) (ea_c er_s (ea_c er_s ea_nil)) (show 2 ≤ sizeLine by decide)) j5 fun t v H6 g6 j6 e r3 => ?_
      subst e
      exact fin (t := .inn) hs1 ((g14.trans g5).trans g6) j6 r3
    have hz3 := of_decide_eq_false hz3
    have g15 := g14.trans g5
    have hz3' : 3 ≤ size := by omega
    refine zq_asg (er_I0P (S := fun t => ∃ l : Nat, t = .i (l : Int) ∧ 1 ≤ l ∧ l ≤ size - 2) (A := fun x => x = 1) (B := fun x => 0 ≤ x ∧ x < ((size - 2 : Nat) : Int)) (Er.imp er_i fun t e => ⟨_, e, rfl⟩) (er_draw (n := ((size - 2 : Nat) : Int)) hpot (er_var (t := .r p) (rp.mono g15) ?_) (msub (c := 2) (by omega) (er_var (t := .i (size : Int)) (rz.mono g15) ?_)) (by omega) (by omega)) ?_) j5 fun t v7 H6 g6 j6 ⟨l, e, hl1, hl2⟩ r7 => ?_
    · rfl
    · rfl
    · rintro a b H9 rfl ⟨h0, h1⟩
      exact ⟨_, ⟨(1 + b).toNat, rfl, by omega, by omega⟩, by show V.int (1 + b) = V.int _; congr 1; omega⟩
    subst e
    have g16 := g15.trans g6
    refine zq_asgG (er_term (m := l) hpot (er_var (t := .r p) (rp.mono g16) ?_) (er_var (t := .i (l : Int)) r7 ?_) (by omega) (by omega) (by omega)) j6 fun t v4 H7 g7 j7 ⟨tx, e, htx⟩ r8 => ?_
    · rfl
    · rfl
    subst e
    refine g_pair r8 fun va vb ra rb => ?_
    have g17 := g16.trans g7
    refine zq_asgG (er_term (m := size - 1 - l) hpot (er_var (t := .r p) (rp.mono g17) ?_) (er_I0 (t := .i ((size - 1 - l : Nat) : Int)) (msub (c := 1) hs1 (er_var (t := .i (size : Int)) (rz.mono g17) ?_)) (er_var (t := .i (l : Int)) (r7.mono g7) ?_) ?_) (by omega) (by omega) (by omega)) j7 fun t v5 H8 g8 j8 ⟨ty, e, hty⟩ r9 => ?_
    · rfl
    · rfl
    · rfl
    · intro _
      show V.int _ = V.int _
      congr 1
      omega
    subst e
    refine g_pair r9 fun vc vd rc rd => ?_
    have g18 := g17.trans g8
    have := tmT_len tx
    have := tmT_len ty
    have r28 := (((((r2.mono g2).mono g3).mono g4).mono g5).mono g6)
    have r29 := (r28.mono g7).mono g8
    have ra8 := ra.mono g8
    have rb8 := rb.mono g8
    refine zq_when (b := decide (d = 6)) (eb_test (er_eqI (er_var (t := .i d) r29 ?_) er_i)) j8 (fun he6 H9 g9 j9 => ?_) fun he6 H9 g9 j9 => ?_
    · rfl
    · have g19 := g18.trans g9
      refine zq_asg (er_joinP (A := fun o => ∃ a b c d, o = [sg a, sg b, sg c, sg d]) er_s (Er.imp (er_lcJ (R := fun _ u => ∃ b, u = PT.s (sg b)) (ei_range1 (A := fun n => n = 4) (Er.imp er_i fun t e => ⟨_, e, rfl⟩) (fun n e => by omega)) ?_ wipe1 ?_) ?_) ?_) j9 fun t v10 H10 g10 j10 ⟨o, e, a, b, c, dd, eo⟩ r10 => ?_
      · rintro ts ⟨n, rfl, rfl⟩
        exact (show 4 ≤ sizeLine by decide)
      · intro ts D o t x H1' e ht hD gg jj rx
        refine Er.imp (er_pick (Z := Z.acc D o) (as := ([("0" : Str), "1"] : List Str).map PT.s) (hpot.fresh j9 hD) (er_var (t := .r p) (((rp.mono g19).acc hD).mono gg.acc) ?_) (er_lstc (ea_c er_s (ea_c er_s ea_nil)) (show 2 ≤ sizeLine by decide)) (by simp) (show 2 ≤ 1000 by decide)) fun t e => ?_
        · rfl
        · obtain ⟨y, hy, rfl⟩ := List.mem_map.mp e
          obtain ⟨b, rfl⟩ := sg_of (List.mem_map.mpr ⟨y, hy, rfl⟩)
          exact ⟨b, rfl⟩
      · rintro t ⟨ts, us, ⟨n, rfl, e4⟩, rfl, hp⟩
        have e4 : ts = [PT.i (0 + ((0 : Nat) : Int)), PT.i (0 + ((1 : Nat) : Int)), PT.i (0 + ((2 : Nat) : Int)), PT.i (0 + ((3 : Nat) : Int))] := e4
        subst e4
        cases hp with
        | cons a hp =>
        cases hp with
        | cons b hp =>
        cases hp with
        | cons c hp =>
        cases hp with
        | cons d hp =>
        cases hp
        obtain ⟨a, rfl⟩ := a
        obtain ⟨b, rfl⟩ := b
        obtain ⟨c, rfl⟩ := c
        obtain ⟨d, rfl⟩ := d
        exact ⟨_, rfl, a, b, c, d, rfl⟩
      · rintro o ⟨a, b, c, d, rfl⟩
        cases a <;> cases b <;> cases c <;> cases d <;> decide +kernel
      subst eo e
      have := mix_len a b c dd
      have g20 := g19.trans g10
      have up : ∀ {t v}, Rep Z H8 t v → Rep Z H10 t v := fun r => (r.mono g9).mono g10
      have r10' : Rep Z H10 (.s (mix a b c dd)) v10 := r10
      refine z_ret (er_tupc (us := [tmP (.by4 a b c dd tx ty), .s (tmT (.by4 a b c dd tx ty))]) (ea_c (er_tupc (us := [.s "by", .s (mix a b c dd), tmP tx, tmP ty]) (ea_c er_s (ea_c (er_var r10' ?_) (ea_c (er_var (up ra8) ?_) (ea_c (er_var (up rc) ?_) ea_nil)))) (show 4 ≤ sizeLine by decide))
        (ea_c (er_catS (er_catS (er_catS (er_catS (er_catS (er_catS er_s (er_var (t := .s (mix a b c dd)) r10' ?_) (sz2 (by omega))) er_s (sz2 (by simp only [app_len]; omega))) (er_var (t := .s (tmT tx)) (up rb8) ?_) (sz2 (by simp only [app_len]; omega))) er_s (sz2 (by simp only [app_len]; omega))) (er_var (t := .s (tmT ty)) (up rd) ?_) (sz2 (by simp only [app_len]; omega))) er_s (sz2 (by simp only [app_len]; omega))) ea_nil)) (show 2 ≤ sizeLine by decide)) j10 fun t v9 H11 g11 j11 e r11 => ?_
      · rfl
      · rfl
      · rfl
      · rfl
      · rfl
      · rfl
      subst e
      exact fin (t := .by4 a b c dd tx ty) (by simp only [Tm.size]; omega) (g20.trans g11) j11 r11
    have he6 := of_decide_eq_false he6
    obtain ⟨b, hb⟩ : ∃ b : Bool, d = if b then 8 else 7 := by
      rcases (by omega : d = 7 ∨ d = 8) with h | h
      · exact ⟨false, h⟩
      · exact ⟨true, h⟩
    have r39 := r29.mono g9
    refine zq_asg (er_ixL (as := [PT.s "keep", PT.s "then"]) (i := d - 7) (k := if b then 1 else 0) (t := .s (w2 b)) (er_lstc (ea_c er_s (ea_c er_s ea_nil)) (show 2 ≤ sizeLine by decide)) (er_I0 (t := .i (d - 7)) (er_var (t := .i d) r39 ?_) er_i ?_) ?_ ?_) j9 fun t v10 H10 g10 j10 e r10 => ?_
    · rfl
    · intro _
      rfl
    · subst hb
      cases b <;> rfl
    · cases b <;> rfl
    subst e
    have g20 := (g18.trans g9).trans g10
    have := w2_len b
    have up : ∀ {t v}, Rep Z H8 t v → Rep Z H10 t v := fun r => (r.mono g9).mono g10
    refine z_ret (er_tupc (us := [tmP (.two b tx ty), .s (tmT (.two b tx ty))]) (ea_c (er_tupc (us := [.s (w2 b), tmP tx, tmP ty]) (ea_c (er_var r10 ?_) (ea_c (er_var (up ra8) ?_) (ea_c (er_var (up rc) ?_) ea_nil))) (show 3 ≤ sizeLine by decide))
      (ea_c (er_catS (er_catS (er_catS (er_catS (er_catS (er_var (t := .s (w2 b)) r10 ?_) er_s (sz2 (by omega))) (er_var (t := .s (tmT tx)) (up rb8) ?_) (sz2 (by simp only [app_len]; omega))) er_s (sz2 (by simp only [app_len]; omega))) (er_var (t := .s (tmT ty)) (up rd) ?_) (sz2 (by simp only [app_len]; omega))) er_s (sz2 (by simp only [app_len]; omega))) ea_nil)) (show 2 ≤ sizeLine by decide)) j10 fun t v9 H11 g11 j11 e r11 => ?_
    · rfl
    · rfl
    · rfl
    · rfl
    · rfl
    · rfl
    subst e
    exact fin (t := .two b tx ty) (by simp only [Tm.size]; omega) (g20.trans g11) j11 r11
end
end Fy
/-! L9 -/
namespace Fy
open PySem PySem.Spec PyProof.Rows L2 LamX
def insS : List Str := [" ", "(", ")", "x", "2", "A", "-"]
def endS : List Str := [" ", ")", ",in", "(in)", "in", "0"]
def nest1 (z : Str) : List Str := [("not(" : Str) ++ z, z ++ ("," : Str) ++ z, ("not(" : Str) ++ z ++ ("," : Str) ++ z ++ (")" : Str), ("late(" : Str) ++ z ++ (")" : Str)]
def nest2 (z : Str) : List Str := [("late(00," : Str) ++ z ++ (")" : Str), ("by(011," : Str) ++ z ++ (",in)" : Str), ("by(01100," : Str) ++ z ++ (",in)" : Str), ("by(0110," : Str) ++ z ++ (")" : Str)]
def nest3 (z : Str) : List Str := [("keep(" : Str) ++ z ++ (")" : Str), ("then(in,in," : Str) ++ z ++ (")" : Str), ("Not(" : Str) ++ z ++ (")" : Str), ("in(" : Str) ++ z ++ (")" : Str)]
def OddF (l : List Nat) (o : Str) : Prop := (∃ k < l.length, o = mk (l.take k) ++ mk (l.drop (k + 1))) ∨ (∃ k < l.length, ∃ s ∈ insS, o = mk (l.take k) ++ s ++ mk (l.drop k)) ∨ (∃ s ∈ endS, o = mk l ++ s) ∨ o ∈ nest1 (mk l) ∨ o ∈ nest2 (mk l) ++ nest3 (mk l)
theorem zq_par {Z : Ez} {ta : TA} {tz : TS} {D : Ends} {σ : L2.St} {H : Hp} {i k : Nat} {A B : PT → Prop} (h : Ea Z ta σ H (fun ts => ∃ t u, ts = [t, u] ∧ A t ∧ B u)) (j : Z.J H)
    (c : ∀ t u v w H1, Gr Z H H1 → Z.J H1 → A t → B u → Rep Z H1 t v → Rep Z H1 u w → tz D ((σ.set i (some v)).set k (some w)) H1) : tSeq (tPar i k ta) tz D σ H :=
  h H Gr.refl j _ fun ts vs H1 g1 j1 ⟨t, u, e, a, b⟩ rs => by
    subst e
    obtain ⟨v, _, rfl, rv, w, _, rfl, rw', rfl⟩ := rs
    exact ⟨v, w, rfl, c t u v w H1 g1 j1 a b rv rw'⟩
theorem er_pickS {Z : Ez} {ta tb : TE} {σ : L2.St} {H : Hp} {E : XK} {p : Addr} {zs : List Str} (hpot : HasPot Z p) (ha : Er Z ta σ H (· = .r p)) (hb : Er Z tb σ H (· = strsP zs)) (h0 : zs ≠ []) (h1 : zs.length ≤ 1000) :
    Er Z (tCall (spR Z.K pre_pick) [] E (tCons ta (tCons tb tNil))) σ H (fun t => ∃ z, t = .s z ∧ z ∈ zs) :=
  Er.imp (er_pick hpot ha hb (by simpa using h0) (by rw [List.length_map]; exact h1)) fun t e => by
    obtain ⟨z, hz, rfl⟩ := List.mem_map.mp e
    exact ⟨z, rfl, hz⟩
abbrev aS : L2.R2 := fun x y H Q => ∃ i j, x = .str i ∧ y = .str j ∧ i.length + j.length ≤ sizeLine ∧ Q (.str (i ++ j)) H
theorem insS_len : ∀ s ∈ insS, s.length ≤ 1 := by decide +kernel
theorem endS_len : ∀ s ∈ endS, s.length ≤ 4 := by decide +kernel
section
variable {P : Program} {w : World} {K : PySem.W.Frag} {mg : Str → Option Value} {base : Heap}
def pre_oterm : Ez → List PT → (PT → Prop) → Prop := fun Z ts P => ∃ (p : Addr) (l : List Nat), HasPot Z p ∧ ts = [.r p, .s (mk l)] ∧ l ≠ [] ∧ l.length ≤ 200 ∧ ∀ o, OddF l o → P (.s o)
theorem sc__law_odd_term : FnScope ["_law_pot_here", "_law_form", "_law_spot", "_law_way", "_law_odd"] ["_law_pot_here", "_law_form"] (defScope s__law_odd_term) := ⟨rfl, rfl, rfl, by decide +kernel, rfl, by decide +kernel, by decide +kernel⟩
theorem ok__law_odd_term (T : Tx K mg) : Has P w K mg base CX0 3 "_law_odd_term" ["_law_pot_here", "_law_form"] (spR K pre_oterm) := by
  obtain ⟨f, fd, F, g⟩ := T.d__law_odd_term
  refine ⟨f, fd, g, F.kp, F.bindsN (ps := ["_law_pot_here", "_law_form"]) (fun _ _ _ _ _ _ us hl => match us, hl with | [_, _], _ => rfl), ?_⟩
  refine F.ok sc__law_odd_term (fun vs H Q E h => ?_) (fun cdv A outer s H vs Q E hr h => ?_)
  · obtain ⟨Z, ts, P', _, _, rs, ⟨p, _, _, rfl, _⟩, _⟩ := h
    exact rs.length
  · obtain ⟨Z, ts, P', rfl, j, rs, ⟨p, l, hpot, rfl, hne, hll, hP⟩, k⟩ := h
    obtain ⟨vp, _, rfl, rp, vf, _, rfl, rf, rfl⟩ := rs
    refine ⟨_, PSs.nox (pss_cons (ps_par (i := 2) (j := 3) rfl sc__law_odd_term.nd rfl rfl (by decide) rfl rfl (pa_cons (pe_has (ok__law_draw T) (hr.mono (by decide)) pass0 (pa_cons (pv 0) (pa_cons (pe_callB call_len_str (by rfl) T.n_len boot_len (pa_cons (pv 1) pa_nil)) pa_nil))) (pa_cons (pe_has (ok__law_draw T) (hr.mono (by decide)) pass0 (pa_cons (pv 0) (pa_cons pe_int pa_nil))) pa_nil)) rfl)
      (pss_cons (ps_if (pt_cmpR op_eq (pv 3) pe_int (nomark _)) (pss_one (ps_ret (pe_op op_add_str (pe_slice sl_str (pv 1) po_none (po_some (pv 2))) (pe_slice sl_str (pv 1) (po_some (pe_op op_add (pv 2) pe_int)) po_none)))) pss_nil)
      (pss_cons (ps_if (pt_cmpR op_eq (pv 3) pe_int (nomark _)) (pss_one (ps_ret (pe_op op_add_str (pe_op op_add_str (pe_slice sl_str (pv 1) po_none (po_some (pv 2))) (pe_has (ok__law_pick T) (hr.mono (by decide)) pass0 (pa_cons (pv 0) (pa_cons (pe_lst (pa_cons pe_str (pa_cons pe_str (pa_cons pe_str (pa_cons pe_str (pa_cons pe_str (pa_cons pe_str (pa_cons pe_str pa_nil)))))))) pa_nil)))) (pe_slice sl_str (pv 1) (po_some (pv 2)) po_none)))) pss_nil)
      (pss_cons (ps_if (pt_cmpR op_eq (pv 3) pe_int (nomark _)) (pss_one (ps_ret (pe_op op_add_str (pv 1) (pe_has (ok__law_pick T) (hr.mono (by decide)) pass0 (pa_cons (pv 0) (pa_cons (pe_lst (pa_cons pe_str (pa_cons pe_str (pa_cons pe_str (pa_cons pe_str (pa_cons pe_str (pa_cons pe_str pa_nil))))))) pa_nil)))))) pss_nil)
      (pss_cons (ps_if (pt_cmpR op_eq (pv 3) pe_int (nomark _)) (pss_one (ps_ret (pe_has (ok__law_pick T) (hr.mono (by decide)) pass0 (pa_cons (pv 0) (pa_cons (pe_lst (pa_cons (pe_op op_add_str pe_str (pv 1)) (pa_cons (pe_op op_add_str (pe_op op_add_str (pv 1) pe_str) (pv 1)) (pa_cons (pe_op op_add_str (pe_op op_add_str (pe_op op_add_str (pe_op op_add_str pe_str (pv 1)) pe_str) (pv 1)) pe_str) (pa_cons (pe_op op_add_str (pe_op op_add_str pe_str (pv 1)) pe_str) pa_nil))))) pa_nil))))) pss_nil)
      (pss_cons (ps_set (i := 4) sc__law_odd_term.nd rfl (Or.inl rfl) (pe_lst (pa_cons (pe_op op_add_str (pe_op op_add_str pe_str (pv 1)) pe_str) (pa_cons (pe_op op_add_str (pe_op op_add_str pe_str (pv 1)) pe_str) (pa_cons (pe_op op_add_str (pe_op op_add_str pe_str (pv 1)) pe_str) (pa_cons (pe_op op_add_str (pe_op op_add_str pe_str (pv 1)) pe_str) pa_nil))))))
      (pss_one (ps_ret (pe_has (ok__law_pick T) (hr.mono (by decide)) pass0 (pa_cons (pv 0) (pa_cons (pe_op op_cat (pv 4) (pe_lst (pa_cons (pe_op op_add_str (pe_op op_add_str pe_str (pv 1)) pe_str) (pa_cons (pe_op op_add_str (pe_op op_add_str pe_str (pv 1)) pe_str) (pa_cons (pe_op op_add_str (pe_op op_add_str pe_str (pv 1)) pe_str) (pa_cons (pe_op op_add_str (pe_op op_add_str pe_str (pv 1)) pe_str) pa_nil)))))) pa_nil))))))))))), ?_⟩
    have hl0 : 0 < l.length := List.length_pos_iff.mpr hne
    have hml : (mk l).length = l.length := mk_len l
    have hsz : (mk l).length ≤ sizeLine := by
      rw [hml]
      exact Nat.le_trans hll (by decide)
    refine zq_par (ea_2 (R := fun u => ∃ d : Int, u = .i d ∧ 0 ≤ d ∧ d < 5) (er_draw (n := (l.length : Int)) hpot (er_var (t := .r p) rp ?_) (Er.imp (er_lenS (er_var (t := .s (mk l)) rf ?_) hsz) fun t e => ?_) (by omega) (by omega)) (er_draw (n := 5) hpot (er_var (t := .r p) rp ?_) er_i (by decide) (by decide))) j fun t u v2 v3 H1 g1 j1 ⟨dk, e1, hk0, hk1⟩ ⟨d, e2, hd0, hd1⟩ r2 r3 => ?_
    · rfl
    · rfl
    · rw [e, hml]
    · rfl
    subst e1 e2
    obtain ⟨n, rfl⟩ := Int.eq_ofNat_of_zero_le hk0
    have hn : n < l.length := by omega
    have fin : ∀ {H9 : Hp} {o : Str} {v : V}, OddF l o → Gr Z H1 H9 → Z.J H9 → Rep Z H9 (.s o) v → Q v H9 := fun ho g j r => k _ _ _ (g1.trans g) j (hP _ ho) r
    have t1 : (mk (l.take n)).length ≤ 200 := by rw [mk_len, List.length_take]; omega
    have t2 : (mk (l.drop (n + 1))).length ≤ 200 := by rw [mk_len, List.length_drop]; omega
    have t3 : (mk (l.drop n)).length ≤ 200 := by rw [mk_len, List.length_drop]; omega
    have sTo : ∀ {σ : L2.St} {H9 : Hp}, Gr Z H1 H9 → σ[1]? = some (some vf) → σ[2]? = some (some v2) → Er Z (tSl rSlS (tVar 1) tNoPart (tPart (tVar 2))) σ H9 (· = .s (mk (l.take n))) := fun g h1 h2 => Er.imp (er_slS (er_var (t := .s (mk l)) (rf.mono (g1.trans g)) h1) eo_none (eo_some (er_var (t := .i (n : Int)) (r2.mono g) h2)) hsz) fun t e => by rw [e, cutS_to]
    have fv : ∀ {σ : L2.St} {H9 : Hp}, Gr Z H1 H9 → σ[1]? = some (some vf) → Er Z (tVar 1) σ H9 (· = .s (mk l)) := fun g h1 => er_var (rf.mono (g1.trans g)) h1
    have pv' : ∀ {σ : L2.St} {H9 : Hp}, Gr Z H1 H9 → σ[0]? = some (some vp) → Er Z (tVar 0) σ H9 (· = .r p) := fun g h1 => er_var (rp.mono (g1.trans g)) h1
    have cat3 : ∀ {σ : L2.St} {H9 : Hp} {a b : Str}, Gr Z H1 H9 → σ[1]? = some (some vf) → a.length ≤ 50 → b.length ≤ 50 → Er Z (tOp aS (tOp aS (tC (.str a)) (tVar 1)) (tC (.str b))) σ H9 (· = .s (a ++ mk l ++ b)) := fun g h1 ha hb => er_catS (er_catS er_s (fv g h1) (sz2 (by omega))) er_s (sz2 (by simp only [app_len]; omega))
    refine zq_when (b := decide (d = 0)) (eb_test (er_eqI (er_var (t := .i d) r3 ?_) er_i)) j1 (fun he H2 g2 j2 => ?_) fun he H2 g2 j2 => ?_
    · rfl
    · refine z_ret (er_catS (a := mk (l.take n)) (b := mk (l.drop (n + 1))) (sTo g2 rfl rfl) (Er.imp (er_slS (fv g2 rfl) (eo_some (er_I0 (t := .i ((n + 1 : Nat) : Int)) (er_var (t := .i (n : Int)) (r2.mono g2) ?_) er_i ?_)) eo_none hsz) fun t e => ?_) (sz2 (by omega))) j2 fun t v H3 g3 j3 e r => ?_
      · rfl
      · intro _
        rfl
      · rw [e, cutS_from]
      subst e
      exact fin (.inl ⟨n, hn, rfl⟩) (g2.trans g3) j3 r
    refine zq_when (b := decide (d = 1)) (eb_test (er_eqI (er_var (t := .i d) (r3.mono g2) ?_) er_i)) j2 (fun he H3 g3 j3 => ?_) fun he H3 g3 j3 => ?_
    · rfl
    · have g23 := g2.trans g3
      refine z_ret (er_addS (A := fun o => ∃ s ∈ insS, o = mk (l.take n) ++ s) (B := fun o => o = mk (l.drop n)) (Er.imp (er_addS (A := fun o => o = mk (l.take n)) (B := fun o => o ∈ insS) (Er.imp (sTo g23 rfl rfl) fun t e => ⟨_, e, rfl⟩) (er_pickS (zs := insS) hpot (pv' g23 rfl) (er_lstc (ea_c er_s (ea_c er_s (ea_c er_s (ea_c er_s (ea_c er_s (ea_c er_s (ea_c er_s ea_nil))))))) (show 7 ≤ sizeLine by decide)) (by simp [insS]) (show 7 ≤ 1000 by decide)) ?_) ?_)
        (Er.imp (er_slS (fv g23 rfl) (eo_some (er_var (t := .i (n : Int)) (r2.mono g23) ?_)) eo_none hsz) fun t e => ?_) ?_) j3 fun t v H4 g4 j4 ⟨a, b, e, ⟨s, hs, ea⟩, eb⟩ r => ?_
      · rintro a b rfl hb
        have := insS_len b hb
        exact sz2 (by omega)
      · rintro t ⟨a, b, rfl, rfl, hb⟩
        exact ⟨_, rfl, b, hb, rfl⟩
      · rfl
      · exact ⟨_, by rw [e, cutS_from], rfl⟩
      · rintro a b ⟨s, hs, rfl⟩ rfl
        have := insS_len s hs
        exact sz2 (by simp only [app_len]; omega)
      subst e ea eb
      exact fin (.inr (.inl ⟨n, hn, s, hs, rfl⟩)) (g23.trans g4) j4 r
    have g23 := g2.trans g3
    refine zq_when (b := decide (d = 2)) (eb_test (er_eqI (er_var (t := .i d) (r3.mono g23) ?_) er_i)) j3 (fun he H4 g4 j4 => ?_) fun he H4 g4 j4 => ?_
    · rfl
    · have g24 := g23.trans g4
      refine z_ret (er_addS (A := fun o => o = mk l) (B := fun o => o ∈ endS) (Er.imp (fv g24 rfl) fun t e => ⟨_, e, rfl⟩) (er_pickS (zs := endS) hpot (pv' g24 rfl) (er_lstc (ea_c er_s (ea_c er_s (ea_c er_s (ea_c er_s (ea_c er_s (ea_c er_s ea_nil)))))) (show 6 ≤ sizeLine by decide)) (by simp [endS]) (show 6 ≤ 1000 by decide)) ?_) j4 fun t v H5 g5 j5 ⟨a, b, e, ea, hb⟩ r => ?_
      · rintro a b rfl hb
        have := endS_len b hb
        exact sz2 (by omega)
      subst e ea
      exact fin (.inr (.inr (.inl ⟨b, hb, rfl⟩))) (g24.trans g5) j5 r
    have g24 := g23.trans g4
    refine zq_when (b := decide (d = 3)) (eb_test (er_eqI (er_var (t := .i d) (r3.mono g24) ?_) er_i)) j4 (fun he H5 g5 j5 => ?_) fun he H5 g5 j5 => ?_
    · rfl
    · have g25 := g24.trans g5
      have c1 : ("not(" : Str).length = 4 := by decide +kernel
      have c2 : ("," : Str).length = 1 := by decide +kernel
      have c3 : (")" : Str).length = 1 := by decide +kernel
      refine z_ret (er_pickS (zs := nest1 (mk l)) hpot (pv' g25 rfl) (er_lstc (us := (nest1 (mk l)).map PT.s) (ea_c (er_catS er_s (fv g25 rfl) (sz2 (by omega))) (ea_c (er_catS (er_catS (fv g25 rfl) er_s (sz2 (by omega))) (fv g25 rfl) (sz2 (by simp only [app_len]; omega)))
        (ea_c (er_catS (er_catS (er_catS (er_catS er_s (fv g25 rfl) (sz2 (by omega))) er_s (sz2 (by simp only [app_len]; omega))) (fv g25 rfl) (sz2 (by simp only [app_len]; omega))) er_s (sz2 (by simp only [app_len]; omega))) (ea_c (cat3 g25 rfl (by decide +kernel) (by decide +kernel)) ea_nil)))) (show 4 ≤ sizeLine by decide)) (by simp [nest1]) (show 4 ≤ 1000 by decide)) j5 fun t v H6 g6 j6 ⟨o, e, ho⟩ r => ?_
      subst e
      exact fin (.inr (.inr (.inr (.inl ho)))) (g25.trans g6) j6 r
    have g25 := g24.trans g5
    refine zq_asg (er_lstc (us := (nest2 (mk l)).map PT.s) (ea_c (cat3 g25 rfl (by decide +kernel) (by decide +kernel)) (ea_c (cat3 g25 rfl (by decide +kernel) (by decide +kernel)) (ea_c (cat3 g25 rfl (by decide +kernel) (by decide +kernel)) (ea_c (cat3 g25 rfl (by decide +kernel) (by decide +kernel)) ea_nil)))) (show 4 ≤ sizeLine by decide)) j5 fun t v4 H6 g6 j6 e r4 => ?_
    subst e
    have g26 := g25.trans g6
    refine z_ret (er_pickS (zs := nest2 (mk l) ++ nest3 (mk l)) hpot (pv' g26 rfl) (Er.imp (er_catc (as := (nest2 (mk l)).map PT.s) (bs := (nest3 (mk l)).map PT.s) (er_var r4 ?_) (er_lstc (ea_c (cat3 g26 rfl (by decide +kernel) (by decide +kernel)) (ea_c (cat3 g26 rfl (by decide +kernel) (by decide +kernel)) (ea_c (cat3 g26 rfl (by decide +kernel) (by decide +kernel)) (ea_c (cat3 g26 rfl (by decide +kernel) (by decide +kernel)) ea_nil)))) (show 4 ≤ sizeLine by decide)) (show 4 + 4 ≤ sizeLine by decide)) fun t e => ?_) (by simp [nest2]) (show 8 ≤ 1000 by decide)) j6 fun t v H7 g7 j7 ⟨o, e, ho⟩ r => ?_
    · rfl
    · rw [e]
      rfl
    subst e
    exact fin (.inr (.inr (.inr (.inr ho)))) (g26.trans g7) j7 r
end
end Fy
/-! De -/
/-! trees as data: comparisons of deep values; what a value is an instance of -/
namespace Fy
open PySem PySem.Spec PyProof.Rows L2 LamX
mutual
def datP : PT → PyData
  | .i n => .int n
  | .s z => .str z
  | .b c => .bool c
  | .n => .none
  | .l ts => .list (datL ts)
  | .u ts => .tuple (datL ts)
  | .r _ => .none
def datL : List PT → List PyData
  | [] => []
  | t :: ts => datP t :: datL ts
end
mutual
def purP : PT → Bool
  | .r _ => false
  | .l ts => purL ts
  | .u ts => purL ts
  | .i _ => true
  | .s _ => true
  | .b _ => true
  | .n => true
def purL : List PT → Bool
  | [] => true
  | t :: ts => purP t && purL ts
end
mutual
theorem dp_of {Z : Ez} {H : Hp} : ∀ {t : PT} {v : V}, Rep Z H t v → purP t = true → Dp Z.K H v (datP t)
  | .i n, _, h, _ => by
    rw [show _ = V.int n from h]
    exact .int n
  | .s z, _, h, _ => by
    rw [show _ = V.str z from h]
    exact .str z
  | .b c, _, h, _ => by
    rw [show _ = V.bl c from h]
    exact .bl c
  | .n, _, h, _ => by
    rw [show _ = V.non from h]
    exact .non
  | .r _, _, _, p => by cases p
  | .l ts, v, h, p => by
    obtain ⟨a, xs, rfl, na, h1, r1⟩ := h
    exact .lst (SqL.of h1) (dpL_of r1 p)
  | .u ts, v, h, p => by
    obtain ⟨a, xs, rfl, na, h1, r1⟩ := h
    exact .tup (SqT.of h1) (dpL_of r1 p)
theorem dpL_of {Z : Ez} {H : Hp} : ∀ {ts : List PT} {vs : List V}, RepL Z H ts vs → purL ts = true → DpAll Z.K H vs (datL ts)
  | [], _, h, _ => by
    rw [show _ = [] from h]
    exact .nil
  | t :: ts, _, ⟨x, xs, e, r, rs⟩, p => by
    subst e
    have p := Bool.and_eq_true_iff.mp (show (purP t && purL ts) = true from p)
    exact .cons (dp_of r p.1) (dpL_of rs p.2)
end
def ShP (t : PT) : Prop := purP t = true ∧ SeqAt.shaped (datP t) = true
section
variable {Z : Ez} {σ : L2.St} {H : Hp} {ta tb te : TE}
theorem er_eqD {t u : PT} (ha : Er Z ta σ H (· = t)) (hb : Er Z tb σ H (· = u)) (h1 : ShP t) (h2 : ShP u) : Er Z (tOp (rEqD Z.K) ta tb) σ H (· = .b (PyData.eqv (datP t) (datP u))) :=
  er_op ha hb fun _ _ x y H1 _ j e1 e2 rx ry Q q => by
    subst e1 e2
    exact ⟨_, _, dp_of rx h1.1, dp_of ry h2.1, h1.2, h2.2, q _ _ H1 Gr.refl j rfl rfl⟩
theorem er_neD {t u : PT} (ha : Er Z ta σ H (· = t)) (hb : Er Z tb σ H (· = u)) (h1 : ShP t) (h2 : ShP u) : Er Z (tOp (rNeD Z.K) ta tb) σ H (· = .b (!PyData.eqv (datP t) (datP u))) :=
  er_op ha hb fun _ _ x y H1 _ j e1 e2 rx ry Q q => by
    subst e1 e2
    exact ⟨_, _, dp_of rx h1.1, dp_of ry h2.1, h1.2, h2.2, q _ _ H1 Gr.refl j rfl rfl⟩
/-- isinstance(x, str) .. of a tree -/
def tyN : PT → String
  | .i _ => "int"
  | .s _ => "str"
  | .b _ => "bool"
  | .n => "NoneType"
  | .l _ => "list"
  | .u _ => "tuple"
  | .r _ => "object"
theorem rep_ty {t : PT} {v : V} (h : Rep Z H t v) (hp : ∀ a, t ≠ .r a) : TyX Z.K H v (.type (tyN t)) := by
  cases t with
  | i n => rw [show v = _ from h]; exact .base (.int _)
  | s z => rw [show v = _ from h]; exact .base (.str _)
  | b c => rw [show v = _ from h]; exact .base (.bl _)
  | n => rw [show v = _ from h]; exact .base .non
  | l ts =>
    obtain ⟨a, xs, rfl, na, h1, r1⟩ := h
    exact .base (.lst h1)
  | u ts =>
    obtain ⟨a, xs, rfl, na, h1, r1⟩ := h
    exact .base (.tup h1)
  | r a => exact absurd rfl (hp a)
theorem er_isi {t : PT} {n : String} {c : Bool} (ha : Er Z te σ H (· = t)) (hp : ∀ a, t ≠ .r a) (hk : kitB (tyN t) n = some c) : Er Z (tCB (rIsi Z.K) (tCons te (tCons (tC (.ty n)) tNil))) σ H (· = .b c) := fun H1 g j Q q =>
  ha H1 g j _ fun u v H2 g2 j2 e r => by
    subst e
    exact ⟨v, .ty n, _, _, c, rfl, .ty n, rep_ty r hp, kit_ty hk, q _ _ H2 g2 j2 rfl rfl⟩
end
end Fy
/-! L10 -/
namespace Fy
open PySem PySem.Spec PyProof.Rows L2 LamX
def kids : Tm → List PT
  | .inn => []
  | .one _ _ t => [tmP t]
  | .late _ t => [tmP t]
  | .by4 _ _ _ _ x y => [tmP x, tmP y]
  | .two _ x y => [tmP x, tmP y]
def oneV : List V := [.str "not", .str "twice", .str "half", .str "change", .str "count"]
def twoV : List V := [.str "keep", .str "then"]
theorem in_one : ∀ i < 5, inV (.str (w1.getD i "")) oneV = true := by decide +kernel
theorem in_two : ∀ s, inV (.str (w2 s)) twoV = true ∧ inV (.str (w2 s)) oneV = false := by decide +kernel
theorem in_late : inV (.str "late") oneV = false ∧ inV (.str "late") twoV = false ∧ inV (.str "by") oneV = false ∧ inV (.str "by") twoV = false := by decide +kernel
theorem w_in : (∀ i < 5, ¬ w1.getD i "" = "in") ∧ (∀ s, ¬ w2 s = "in") := by decide +kernel
theorem ok_words : (∀ i < 5, PyData.strOk (w1.getD i "") = true) ∧ (∀ s, PyData.strOk (w2 s) = true) ∧ (∀ s, PyData.strOk (sg s) = true) ∧ (∀ a b c d, PyData.strOk (mix a b c d) = true) ∧ PyData.strOk "late" = true ∧ PyData.strOk "by" = true ∧ PyData.strOk "in" = true := by decide +kernel
theorem tm_pur : ∀ t : Tm, purP (tmP t) = true
  | .inn => rfl
  | .one i h t => by
    show (true && (purP (tmP t) && true)) = true
    rw [tm_pur t]
    rfl
  | .late s t => by
    show (true && (true && (purP (tmP t) && true))) = true
    rw [tm_pur t]
    rfl
  | .by4 a b c d x y => by
    show (true && (true && (purP (tmP x) && (purP (tmP y) && true)))) = true
    rw [tm_pur x, tm_pur y]
    rfl
  | .two s x y => by
    show (true && (purP (tmP x) && (purP (tmP y) && true))) = true
    rw [tm_pur x, tm_pur y]
    rfl
theorem tm_can : ∀ t : Tm, PyData.canLay0 (datP (tmP t)) = true
  | .inn => ok_words.2.2.2.2.2.2
  | .one i h t => by
    show (PyData.strOk (w1.getD i "") && (PyData.canLay0 (datP (tmP t)) && true)) = true
    rw [tm_can t, ok_words.1 i h]
    rfl
  | .late s t => by
    show (PyData.strOk "late" && (PyData.strOk (sg s) && (PyData.canLay0 (datP (tmP t)) && true))) = true
    rw [tm_can t, ok_words.2.2.1 s, ok_words.2.2.2.2.1]
    rfl
  | .by4 a b c d x y => by
    show (PyData.strOk "by" && (PyData.strOk (mix a b c d) && (PyData.canLay0 (datP (tmP x)) && (PyData.canLay0 (datP (tmP y)) && true)))) = true
    rw [tm_can x, tm_can y, ok_words.2.2.2.1 a b c d, ok_words.2.2.2.2.2.1]
    rfl
  | .two s x y => by
    show (PyData.strOk (w2 s) && (PyData.canLay0 (datP (tmP x)) && (PyData.canLay0 (datP (tmP y)) && true))) = true
    rw [tm_can x, tm_can y, ok_words.2.1 s]
    rfl
theorem str_depth (z : Str) : PyData.depth (.str z) ≤ 1 := by simp [PyData.depth]
theorem tm_depth : ∀ t : Tm, PyData.depth (datP (tmP t)) ≤ t.size
  | .inn => str_depth _
  | .one i h t => by
    have h1 := tm_depth t
    have h2 := str_depth (w1.getD i "")
    have h3 := t.pos
    show max (PyData.depth (.str _)) (max (PyData.depth (datP (tmP t))) 0) + 1 ≤ t.size + 1
    omega
  | .late s t => by
    have h1 := tm_depth t
    have h2 := str_depth (sg s)
    have h4 := str_depth "late"
    have h3 := t.pos
    show max (PyData.depth (.str _)) (max (PyData.depth (.str _)) (max (PyData.depth (datP (tmP t))) 0)) + 1 ≤ t.size + 1
    omega
  | .by4 a b c d x y => by
    have h1 := tm_depth x
    have h2 := tm_depth y
    have h3 := x.pos
    have h4 := str_depth "by"
    have h5 := str_depth (mix a b c d)
    show max (PyData.depth (.str _)) (max (PyData.depth (.str _)) (max (PyData.depth (datP (tmP x))) (max (PyData.depth (datP (tmP y))) 0))) + 1 ≤ x.size + y.size + 1
    omega
  | .two s x y => by
    have h1 := tm_depth x
    have h2 := tm_depth y
    have h3 := x.pos
    have h5 := str_depth (w2 s)
    show max (PyData.depth (.str _)) (max (PyData.depth (datP (tmP x))) (max (PyData.depth (datP (tmP y))) 0)) + 1 ≤ x.size + y.size + 1
    omega
theorem tm_sh {t : Tm} (h : t.size ≤ 60) : ShP (tmP t) := by
  refine ⟨tm_pur t, ?_⟩
  have := tm_depth t
  unfold SeqAt.shaped
  rw [tm_can t, decide_eq_true (by omega : PyData.depth (datP (tmP t)) ≤ 64)]
  rfl
theorem in_sh : ShP (.s "in") := ⟨rfl, by decide +kernel⟩
theorem tm_ne_in {t : Tm} (h : t ≠ .inn) : PyData.eqv (datP (tmP t)) (datP (.s "in")) = false := by
  cases t with
  | inn => exact absurd rfl h
  | one i h t => rfl
  | late s t => rfl
  | by4 a b c d x y => rfl
  | two s x y => rfl
theorem er_slT {Z : Ez} {te : TE} {σ : L2.St} {H : Hp} {tl th : TO} {as : List PT} {lo hi : Option Int} (h : Er Z te σ H (· = .u as)) (h1 : Eo Z tl σ H (· = lo)) (h2 : Eo Z th σ H (· = hi)) : Er Z (tSl (rSlA Z.K) te tl th) σ H (· = .u (cutP as lo hi)) :=
  fun H1 g j Q q => h H1 g j _ fun t v H2 g2 j2 p r => h1 H2 (g.trans g2) j2 _ fun l H3 g3 j3 p3 => h2 H3 ((g.trans g2).trans g3) j3 _ fun m H4 g4 j4 p4 => by
    subst p p3 p4
    obtain ⟨a, xs, rfl, na, ha, ra⟩ := (r.mono g3).mono g4
    have hl := ra.length
    refine ⟨a, xs, rfl, SqT.of ha, fun e => ?_, fun _ c hc => q _ (.ref c) _ (((g2.trans g3).trans g4).trans (Gr.new hc)) (Z.jnew j4 hc) rfl ⟨c, _, rfl, Z.fresh j4 hc, upd_same, (ra.cut _ _).mono (Gr.new hc)⟩⟩
    have ec : cutP as l m = as := by
      unfold cutP
      rw [← hl, e.1, e.2, List.drop_zero, hl, Nat.sub_zero, List.take_length]
    exact q _ (.ref a) _ ((g2.trans g3).trans g4) j4 rfl (by rw [ec]; exact ⟨a, xs, rfl, na, ha, ra⟩)
theorem er_inG {Z : Ez} {te : TE} {σ : L2.St} {H : Hp} {z : Str} {a : Addr} {xs : List V} (h : Er Z te σ H (· = .s z)) (hs : ∀ H, SqT Z.K H a xs) (hf : xs.all flatV = true) : Er Z (tOp (rIn Z.K false) te (tC (.ref a))) σ H (· = .b (inV (.str z) xs)) := fun H1 g j Q q =>
  h H1 g j _ fun t v H2 g2 j2 e r => by
    subst e
    rw [show v = _ from r]
    exact ⟨a, xs, rfl, .inr (hs _), rfl, hf, q _ _ H2 g2 j2 rfl rfl⟩
section
variable {P : Program} {w : World} {K : PySem.W.Frag} {mg : Str → Option Value} {base : Heap}
def pre_sign : Ez → List PT → (PT → Prop) → Prop := fun Z ts P => ∃ z : Str, ts = [.s z] ∧ P (.b (inV (.str z) [.str "0", .str "1"]))
theorem sc_is_sign : FnScope ["value"] ["value"] (defScope s_is_sign) := ⟨rfl, rfl, rfl, by decide +kernel, rfl, by decide +kernel, by decide +kernel⟩
theorem ok_is_sign (T : Tx K mg) : Has P w K mg base CX0 1 "is_sign" ["value"] (spR K pre_sign) := by
  obtain ⟨f, fd, F, g⟩ := T.d_is_sign
  refine ⟨f, fd, g, F.kp, F.bindsN (ps := ["value"]) (fun _ _ _ _ _ _ us hl => match us, hl with | [_], _ => rfl), ?_⟩
  refine F.ok sc_is_sign (fun vs H Q E h => ?_) (fun cdv A outer s H vs Q E hr h => ?_)
  · obtain ⟨Z, ts, P', _, _, rs, ⟨_, rfl, _⟩, _⟩ := h
    exact rs.length
  · obtain ⟨Z, ts, P', rfl, j, rs, ⟨z, rfl, hP⟩, k⟩ := h
    obtain ⟨v0, _, rfl, r0, rfl⟩ := rs
    refine ⟨_, PSs.nox (pss_one (ps_ret (pe_and (pe_callB (r := rIsi Z.K) call_isi (by rfl) T.n_isinstance boot_isinstance (pa_cons (pv 0) (pa_cons (pe_bltn (v := .ty "str") rfl T.n_str b_str rfl) pa_nil))) (pe_one (pe_cmpR (r := rIn Z.K false) op_in_seq (pv 0) (pe_glob (v := .ref (He.ga Z.K "SIGNS")) (by rfl) T.c_SIGNS.1 rfl) rfl))))), ?_⟩
    refine z_ret (er_andV (a := true) (b := inV (.str z) [.str "0", .str "1"]) (er_isi (c := true) (er_var (t := .s z) r0 ?_) (fun a e => by cases e) ?_) fun _ => er_inG (er_var (t := .s z) r0 ?_) T.c_SIGNS.2 rfl) j fun t v H1 g1 j1 e r => ?_
    · rfl
    · show kitB "str" "str" = some true
      decide +kernel
    · rfl
    · subst e
      exact k _ _ _ g1 j1 hP r
def pre_parts : Ez → List PT → (PT → Prop) → Prop := fun Z ts P => ∃ t : Tm, t ≠ .inn ∧ t.size ≤ 20 ∧ ts = [tmP t] ∧ P (.u (kids t))
theorem sc_parts_of : FnScope ["term"] ["term"] (defScope s_parts_of) := ⟨rfl, rfl, rfl, by decide +kernel, rfl, by decide +kernel, by decide +kernel⟩
theorem ok_parts_of (T : Tx K mg) : Has P w K mg base CX0 1 "parts_of" ["term"] (spR K pre_parts) := by
  obtain ⟨f, fd, F, g⟩ := T.d_parts_of
  have ci := T.c_IN.choose_spec
  refine ⟨f, fd, g, F.kp, F.bindsN (ps := ["term"]) (fun _ _ _ _ _ _ us hl => match us, hl with | [_], _ => rfl), ?_⟩
  refine F.ok sc_parts_of (fun vs H Q E h => ?_) (fun cdv A outer s H vs Q E hr h => ?_)
  · obtain ⟨Z, ts, P', _, _, rs, ⟨_, _, _, rfl, _⟩, _⟩ := h
    exact rs.length
  · obtain ⟨Z, ts, P', rfl, j, rs, ⟨t, hne, hsz, rfl, hP⟩, k⟩ := h
    obtain ⟨v0, _, rfl, r0, rfl⟩ := rs
    refine ⟨_, PSs.nox (pss_cons (ps_if (pt_cmpR (op_eqD hr.units) (pv 0) (pe_gs T.c_IN) (nomark _)) (pss_one (ps_ret (pe_tup pa_nil))) pss_nil)
      (pss_cons (ps_if ((pw_or (pt_cmpR (r := rIn Z.K false) op_in_seq (pe_ix (r := rIxT Z.K) ix_tup (pv 0) pe_int (fun _ _ => rfl)) (pe_glob (v := .ref (He.ga Z.K "OF_ONE")) (by rfl) T.c_OF_ONE.1 rfl) rfl) (pw_or1 (pt_cmpR (r := rIn Z.K false) op_in_seq (pe_ix (r := rIxT Z.K) ix_tup (pv 0) pe_int (fun _ _ => rfl)) (pe_glob (v := .ref (He.ga Z.K "OF_TWO")) (by rfl) T.c_OF_TWO.1 rfl) rfl))).pt) (pss_one (ps_ret (pe_slice (r := rSlA Z.K) sl_tupA (pv 0) (po_some pe_int) po_none))) pss_nil)
      (pss_one (ps_ret (pe_slice (r := rSlA Z.K) sl_tupA (pv 0) (po_some pe_int) po_none))))), ?_⟩
    refine zq_when (b := false) (Eb.imp (eb_test (er_eqD (t := tmP t) (u := .s "in") (er_var r0 ?_) er_s (tm_sh (by omega)) in_sh)) fun b e => by rw [e, tm_ne_in hne]) j (fun z => by cases z) fun _ H1 g1 j1 => ?_
    · rfl
    have r1 := r0.mono g1
    have tst : ∀ {z : Str} {rest : List PT} {b1 b2 : Bool} {H9 : Hp}, Rep Z H9 (.u (.s z :: rest)) v0 → inV (.str z) oneV = b1 → inV (.str z) twoV = b2 → Eb Z (tOr (tTest (tOp (rIn Z.K false) (tOp (rIxT Z.K) (tVar 0) (tC (.int 0))) (tC (.ref (He.ga Z.K "OF_ONE"))))) (tTest (tOp (rIn Z.K false) (tOp (rIxT Z.K) (tVar 0) (tC (.int 0))) (tC (.ref (He.ga Z.K "OF_TWO")))))) [some v0] H9 (· = (b1 || b2)) := fun {z rest b1 b2 H9} r e1 e2 => by
      refine eb_or (a := b1) (b := b2) (eb_test (Er.imp (er_inG (er_ixT (as := .s z :: rest) (k := 0) (er_var r rfl) er_i (ixN0 (Nat.succ_pos _)) rfl) T.c_OF_ONE.2 rfl) fun t e => by rw [e]; exact congrArg PT.b e1)) fun _ => eb_test (Er.imp (er_inG (er_ixT (as := .s z :: rest) (k := 0) (er_var r rfl) er_i (ixN0 (Nat.succ_pos _)) rfl) T.c_OF_TWO.2 rfl) fun t e => by rw [e]; exact congrArg PT.b e2)
    cases t with
    | inn => exact absurd rfl hne
    | one i hi t =>
      refine zq_when (b := true) (Eb.imp (tst (z := w1.getD i "") (rest := [tmP t]) (b2 := inV (.str (w1.getD i "")) twoV) r1 (in_one i hi) rfl) fun b e => e) j1 (fun _ H2 g2 j2 => ?_) fun z => by cases z
      refine z_ret (er_slT (as := [.s (w1.getD i ""), tmP t]) (er_var (r1.mono g2) ?_) (eo_some er_i) eo_none) j2 fun t v H3 g3 j3 e r => ?_
      · rfl
      subst e
      exact k _ _ _ ((g1.trans g2).trans g3) j3 hP r
    | late s t =>
      refine zq_when (b := false) (Eb.imp (tst (z := "late") (rest := [.s (sg s), tmP t]) r1 in_late.1 in_late.2.1) fun b e => e) j1 (fun z => by cases z) fun _ H2 g2 j2 => ?_
      refine z_ret (er_slT (as := [.s "late", .s (sg s), tmP t]) (er_var (r1.mono g2) ?_) (eo_some er_i) eo_none) j2 fun t v H3 g3 j3 e r => ?_
      · rfl
      subst e
      exact k _ _ _ ((g1.trans g2).trans g3) j3 hP r
    | by4 a b c d x y =>
      refine zq_when (b := false) (Eb.imp (tst (z := "by") (rest := [.s (mix a b c d), tmP x, tmP y]) r1 in_late.2.2.1 in_late.2.2.2) fun b e => e) j1 (fun z => by cases z) fun _ H2 g2 j2 => ?_
      refine z_ret (er_slT (as := [.s "by", .s (mix a b c d), tmP x, tmP y]) (er_var (r1.mono g2) ?_) (eo_some er_i) eo_none) j2 fun t v H3 g3 j3 e r => ?_
      · rfl
      subst e
      exact k _ _ _ ((g1.trans g2).trans g3) j3 hP r
    | two s x y =>
      refine zq_when (b := true) (Eb.imp (tst (z := w2 s) (rest := [tmP x, tmP y]) r1 (in_two s).2 (in_two s).1) fun b e => e) j1 (fun _ H2 g2 j2 => ?_) fun z => by cases z
      refine z_ret (er_slT (as := [.s (w2 s), tmP x, tmP y]) (er_var (r1.mono g2) ?_) (eo_some er_i) eo_none) j2 fun t v H3 g3 j3 e r => ?_
      · rfl
      subst e
      exact k _ _ _ ((g1.trans g2).trans g3) j3 hP r
end
end Fy
/-! L11 -/
namespace Fy
open PySem PySem.Spec PyProof.Rows L2 LamX
theorem ok_texts : (∀ a b c d, isText (mix a b c d) = true ∧ (mix a b c d).length = 4) ∧ (∀ s, inV (.str (sg s)) [.str "0", .str "1"] = true) ∧ ¬ ("by" : Str) = "late" := by decide +kernel
section
variable {P : Program} {w : World} {K : PySem.W.Frag} {mg : Str → Option Value} {base : Heap}
def pre_shape : Ez → List PT → (PT → Prop) → Prop := fun Z ts P => ∃ t : Tm, t ≠ .inn ∧ t.size ≤ 20 ∧ ts = [tmP t] ∧ P (.b true)
theorem sc_has_shape : FnScope ["value"] ["value"] (defScope s_has_shape) := ⟨rfl, rfl, rfl, by decide +kernel, rfl, by decide +kernel, by decide +kernel⟩
theorem ok_has_shape (T : Tx K mg) : Has P w K mg base CX0 2 "has_shape" ["value"] (spR K pre_shape) := by
  obtain ⟨f, fd, F, g⟩ := T.d_has_shape
  have cl := T.c_LATE.choose_spec
  have cb := T.c_BY.choose_spec
  refine ⟨f, fd, g, F.kp, F.bindsN (ps := ["value"]) (fun _ _ _ _ _ _ us hl => match us, hl with | [_], _ => rfl), ?_⟩
  refine F.ok sc_has_shape (fun vs H Q E h => ?_) (fun cdv A outer s H vs Q E hr h => ?_)
  · obtain ⟨Z, ts, P', _, _, rs, ⟨_, _, _, rfl, _⟩, _⟩ := h
    exact rs.length
  · obtain ⟨Z, ts, P', rfl, j, rs, ⟨t, hne, hsz, rfl, hP⟩, k⟩ := h
    obtain ⟨v0, _, rfl, r0, rfl⟩ := rs
    refine ⟨_, PSs.nox (pss_cons (ps_if ((pw_or (pt_not (pt_val (pe_callB (r := rIsi Z.K) call_isi (by rfl) T.n_isinstance boot_isinstance (pa_cons (pv 0) (pa_cons (pe_bltn (v := .ty "tuple") (by rfl) T.n_tuple b_tuple rfl) pa_nil))))) (pw_or (pt_cmpR op_eq (pe_callB (r := rLenSq Z.K) call_lenK (by rfl) T.n_len boot_len (pa_cons (pv 0) pa_nil)) pe_int (nomark _)) (pw_or1 (pt_not (pt_val (pe_callB (r := rIsi Z.K) call_isi (by rfl) T.n_isinstance boot_isinstance (pa_cons (pe_ix (r := rIxT Z.K) ix_tup (pv 0) pe_int (fun _ _ => rfl)) (pa_cons (pe_bltn (v := .ty "str") (by rfl) T.n_str b_str rfl) pa_nil)))))))).pt) (pss_one (ps_ret pe_bl)) pss_nil)
      (pss_cons (ps_if (pt_cmpR (r := rIn Z.K false) op_in_seq (pe_ix (r := rIxT Z.K) ix_tup (pv 0) pe_int (fun _ _ => rfl)) (pe_glob (v := .ref (He.ga Z.K "OF_ONE")) (by rfl) T.c_OF_ONE.1 rfl) rfl) (pss_one (ps_ret (pe_cmpR op_eq (pe_callB (r := rLenSq Z.K) call_lenK (by rfl) T.n_len boot_len (pa_cons (pv 0) pa_nil)) pe_int (nomark _)))) pss_nil)
      (pss_cons (ps_if (pt_cmpR (r := rIn Z.K false) op_in_seq (pe_ix (r := rIxT Z.K) ix_tup (pv 0) pe_int (fun _ _ => rfl)) (pe_glob (v := .ref (He.ga Z.K "OF_TWO")) (by rfl) T.c_OF_TWO.1 rfl) rfl) (pss_one (ps_ret (pe_cmpR op_eq (pe_callB (r := rLenSq Z.K) call_lenK (by rfl) T.n_len boot_len (pa_cons (pv 0) pa_nil)) pe_int (nomark _)))) pss_nil)
      (pss_cons (ps_if (pt_cmpR op_eq (pe_ix (r := rIxT Z.K) ix_tup (pv 0) pe_int (fun _ _ => rfl)) (pe_gs T.c_LATE) (nomark _)) (pss_one (ps_ret (pe_and (pe_cmpR op_eq (pe_callB (r := rLenSq Z.K) call_lenK (by rfl) T.n_len boot_len (pa_cons (pv 0) pa_nil)) pe_int (nomark _)) (pe_one (pe_has (ok_is_sign T) (hr.mono (by decide)) pass0 (pa_cons (pe_ix (r := rIxT Z.K) ix_tup (pv 0) pe_int (fun _ _ => rfl)) pa_nil)))))) pss_nil)
      (pss_one (ps_ret (pe_and (pe_cmpR op_eq (pe_ix (r := rIxT Z.K) ix_tup (pv 0) pe_int (fun _ _ => rfl)) (pe_gs T.c_BY) (nomark _)) (pe_and (pe_cmpR op_eq (pe_callB (r := rLenSq Z.K) call_lenK (by rfl) T.n_len boot_len (pa_cons (pv 0) pa_nil)) pe_int (nomark _)) (pe_and (pe_has (ok_is_text T) (hr.mono (by decide)) pass0 (pa_cons (pe_ix (r := rIxT Z.K) ix_tup (pv 0) pe_int (fun _ _ => rfl)) pa_nil)) (pe_one (pe_cmpR op_eq (pe_callB call_len_str (by rfl) T.n_len boot_len (pa_cons (pe_ix (r := rIxT Z.K) ix_tup (pv 0) pe_int (fun _ _ => rfl)) pa_nil)) pe_int (nomark _)))))))))))), ?_⟩
    have ku : kitB "tuple" "tuple" = some true := by decide +kernel
    have ks : kitB "str" "str" = some true := by decide +kernel
    have hd : ∀ {z : Str} {rest : List PT} {H9 : Hp}, Rep Z H9 (.u (.s z :: rest)) v0 → Er Z (tOp (rIxT Z.K) (tVar 0) (tC (.int 0))) [some v0] H9 (· = .s z) := fun {z rest H9} r => er_ixT (as := .s z :: rest) (k := 0) (er_var r rfl) er_i (ixN0 (Nat.succ_pos _)) rfl
    have ln : ∀ {ts : List PT} {H9 : Hp}, Rep Z H9 (.u ts) v0 → Er Z (tCB (rLenSq Z.K) (tCons (tVar 0) tNil)) [some v0] H9 (· = .i (ts.length : Int)) := fun {ts H9} r => er_len (as := ts) (er_varP (t := .u ts) (.inr rfl) r rfl)
    obtain ⟨z, rest, ht⟩ : ∃ z rest, tmP t = .u (.s z :: rest) := by
      cases t with
      | inn => exact absurd rfl hne
      | one i hi t => exact ⟨_, _, rfl⟩
      | late s t => exact ⟨_, _, rfl⟩
      | by4 a b c d x y => exact ⟨_, _, rfl⟩
      | two s x y => exact ⟨_, _, rfl⟩
    refine zq_when (b := false) (Eb.imp (eb_or (a := false) (b := false) (eb_not (c := true) (eb_test (er_isi (t := tmP t) (c := true) (er_var r0 ?_) (fun a e => ?_) ?_))) fun _ => eb_or (a := false) (b := false) (eb_test (Er.imp (er_eqI (ln (ts := .s z :: rest) (ht ▸ r0)) er_i) fun t e => ?_)) fun _ => eb_not (c := true) (eb_test (er_isi (t := .s z) (c := true) (hd (ht ▸ r0)) (fun a e => ?_) ks))) fun b e => e) j (fun z => by cases z) fun _ H1 g1 j1 => ?_
    · rfl
    · rw [ht] at e
      cases e
    · rw [ht]
      exact ku
    · rw [e]
      have : ¬ (((PT.s z :: rest).length : Nat) : Int) = 0 := by simp; omega
      exact congrArg PT.b (decide_eq_false this)
    · cases e
    have r1 := r0.mono g1
    clear ht
    have tin : ∀ {n : Str} {xs : List V} {z : Str} {rest : List PT} {b : Bool} {H9 : Hp}, Rep Z H9 (.u (.s z :: rest)) v0 → (∀ H, SqT Z.K H (He.ga Z.K n) xs) → xs.all flatV = true → inV (.str z) xs = b → Eb Z (tTest (tOp (rIn Z.K false) (tOp (rIxT Z.K) (tVar 0) (tC (.int 0))) (tC (.ref (He.ga Z.K n))))) [some v0] H9 (· = b) := fun {n xs z rest b H9} r hs hf e => eb_test (Er.imp (er_inG (hd r) hs hf) fun t e2 => by rw [e2]; exact congrArg PT.b e)
    have lnE : ∀ {ts : List PT} {n : Nat} {H9 : Hp}, ts.length = n → Rep Z H9 (.u ts) v0 → Er Z (tOp rEq (tCB (rLenSq Z.K) (tCons (tVar 0) tNil)) (tC (.int (n : Int)))) [some v0] H9 (· = .b true) := fun {ts n H9} hl r => Er.imp (er_eqI (ln r) er_i) fun t e => by rw [e, hl]; exact congrArg PT.b (decide_eq_true rfl)
    cases t with
    | inn => exact absurd rfl hne
    | one i hi t =>
      refine zq_when (b := true) (tin (z := w1.getD i "") (rest := [tmP t]) r1 T.c_OF_ONE.2 rfl (in_one i hi)) j1 (fun _ H2 g2 j2 => ?_) fun z => by cases z
      refine z_ret (lnE (ts := [.s (w1.getD i ""), tmP t]) (n := 2) rfl (r1.mono g2)) j2 fun t v H3 g3 j3 e r => ?_
      subst e
      exact k _ _ _ ((g1.trans g2).trans g3) j3 hP r
    | late s t =>
      refine zq_when (b := false) (tin (z := "late") (rest := [.s (sg s), tmP t]) r1 T.c_OF_ONE.2 rfl in_late.1) j1 (fun z => by cases z) fun _ H2 g2 j2 => ?_
      have r2 := r1.mono g2
      refine zq_when (b := false) (tin (z := "late") (rest := [.s (sg s), tmP t]) r2 T.c_OF_TWO.2 rfl in_late.2.1) j2 (fun z => by cases z) fun _ H3 g3 j3 => ?_
      have r3 := r2.mono g3
      refine zq_when (b := true) (eb_test (Er.imp (er_eqS (hd (z := "late") (rest := [.s (sg s), tmP t]) r3) er_s) fun t e => by rw [e]; exact congrArg PT.b (decide_eq_true rfl))) j3 (fun _ H4 g4 j4 => ?_) fun z => by cases z
      have r4 := r3.mono g4
      refine z_ret (er_andV (a := true) (b := true) (lnE (ts := [.s "late", .s (sg s), tmP t]) (n := 3) rfl r4) fun _ => er_call (S := (· = .b true)) rfl (ea_c (er_ixT (as := [.s "late", .s (sg s), tmP t]) (t := .s (sg s)) (k := 1) (er_var r4 ?_) er_i (Evl.ixN_nat (j := 1) (show 1 < 3 by decide)) rfl) ea_nil) fun ts e => ⟨sg s, e, by rw [ok_texts.2.1 s]⟩) j4 fun t v H5 g5 j5 e r => ?_
      · rfl
      subst e
      exact k _ _ _ ((((g1.trans g2).trans g3).trans g4).trans g5) j5 hP r
    | by4 a b c d x y =>
      refine zq_when (b := false) (tin (z := "by") (rest := [.s (mix a b c d), tmP x, tmP y]) r1 T.c_OF_ONE.2 rfl in_late.2.2.1) j1 (fun z => by cases z) fun _ H2 g2 j2 => ?_
      have r2 := r1.mono g2
      refine zq_when (b := false) (tin (z := "by") (rest := [.s (mix a b c d), tmP x, tmP y]) r2 T.c_OF_TWO.2 rfl in_late.2.2.2) j2 (fun z => by cases z) fun _ H3 g3 j3 => ?_
      have r3 := r2.mono g3
      refine zq_when (b := false) (eb_test (Er.imp (er_eqS (hd (z := "by") (rest := [.s (mix a b c d), tmP x, tmP y]) r3) er_s) fun t e => by rw [e]; exact congrArg PT.b (decide_eq_false ok_texts.2.2))) j3 (fun z => by cases z) fun _ H4 g4 j4 => ?_
      have r4 := r3.mono g4
      have x1 : ∀ {H9 : Hp}, Rep Z H9 (.u [.s "by", .s (mix a b c d), tmP x, tmP y]) v0 → Er Z (tOp (rIxT Z.K) (tVar 0) (tC (.int 1))) [some v0] H9 (· = .s (mix a b c d)) := fun r => er_ixT (as := [.s "by", .s (mix a b c d), tmP x, tmP y]) (t := .s (mix a b c d)) (k := 1) (er_var r rfl) er_i (Evl.ixN_nat (j := 1) (show 1 < 4 by decide)) rfl
      have hml : (mix a b c d).length ≤ sizeLine := by rw [(ok_texts.1 a b c d).2]; decide
      refine z_ret (er_andV (a := true) (b := true) (Er.imp (er_eqS (hd (z := "by") (rest := [.s (mix a b c d), tmP x, tmP y]) r4) er_s) fun t e => by rw [e]; exact congrArg PT.b (decide_eq_true rfl)) fun _ => er_andV (a := true) (b := true) (lnE (ts := [.s "by", .s (mix a b c d), tmP x, tmP y]) (n := 4) rfl r4) fun _ => er_andV (a := true) (b := true) (Er.imp (er_istext (x1 r4) hml) fun t e => by rw [e, (ok_texts.1 a b c d).1]) fun _ => Er.imp (er_eqI (er_lenS (x1 r4) hml) er_i) fun t e => by rw [e, (ok_texts.1 a b c d).2]; exact congrArg PT.b (decide_eq_true rfl)) j4 fun t v H5 g5 j5 e r => ?_
      subst e
      exact k _ _ _ ((((g1.trans g2).trans g3).trans g4).trans g5) j5 hP r
    | two s x y =>
      refine zq_when (b := false) (tin (z := w2 s) (rest := [tmP x, tmP y]) r1 T.c_OF_ONE.2 rfl (in_two s).2) j1 (fun z => by cases z) fun _ H2 g2 j2 => ?_
      have r2 := r1.mono g2
      refine zq_when (b := true) (tin (z := w2 s) (rest := [tmP x, tmP y]) r2 T.c_OF_TWO.2 rfl (in_two s).1) j2 (fun _ H3 g3 j3 => ?_) fun z => by cases z
      refine z_ret (lnE (ts := [.s (w2 s), tmP x, tmP y]) (n := 3) rfl (r2.mono g3)) j3 fun t v H4 g4 j4 e r => ?_
      subst e
      exact k _ _ _ (((g1.trans g2).trans g3).trans g4) j4 hP r
end
end Fy
/-! L12 -/
namespace Fy
open PySem PySem.Spec PyProof.Rows L2 LamX
mutual
def txP : PT → Str
  | .s z => z
  | .u ts => txU ts
  | .i _ => ""
  | .b _ => ""
  | .n => ""
  | .l _ => ""
  | .r _ => ""
def txU : List PT → Str
  | [] => ""
  | t :: ts => txP t ++ ("(" : Str) ++ Txt.join "," (txL ts) ++ (")" : Str)
def txL : List PT → List Str
  | [] => []
  | t :: ts => txP t :: txL ts
end
theorem txL_map : ∀ ts : List PT, txL ts = ts.map txP
  | [] => rfl
  | t :: ts => by
    show txP t :: txL ts = _
    rw [txL_map ts]
    rfl
theorem join1 (a : Str) : Txt.join "," [a] = a := by
  refine TL.ext_tl ?_
  rw [TL.join_eq, TL.tl_join]
  rfl
theorem join2 (a b : Str) : Txt.join "," [a, b] = a ++ ("," : Str) ++ b := by
  refine TL.ext_tl ?_
  rw [TL.join_eq, TL.tl_join, TL.tl_append, TL.tl_append]
  show TL.tl a ++ (TL.tl ("," : Str) ++ TL.tl b) = _
  simp
theorem join3 (a b c : Str) : Txt.join "," [a, b, c] = a ++ ("," : Str) ++ b ++ ("," : Str) ++ c := by
  refine TL.ext_tl ?_
  rw [TL.join_eq, TL.tl_join, TL.tl_append, TL.tl_append, TL.tl_append, TL.tl_append]
  show TL.tl a ++ (TL.tl ("," : Str) ++ (TL.tl b ++ (TL.tl ("," : Str) ++ TL.tl c))) = _
  simp
theorem app_as (a b c : Str) : a ++ b ++ c = a ++ (b ++ c) := by
  refine TL.ext_tl ?_
  rw [TL.tl_append, TL.tl_append, TL.tl_append, TL.tl_append, List.append_assoc]
theorem txP_tm : ∀ t : Tm, txP (tmP t) = tmT t
  | .inn => rfl
  | .one i h t => by
    show w1.getD i "" ++ ("(" : Str) ++ Txt.join "," [txP (tmP t)] ++ (")" : Str) = _
    rw [txP_tm t, join1]
    rfl
  | .late s t => by
    show ("late" : Str) ++ ("(" : Str) ++ Txt.join "," [sg s, txP (tmP t)] ++ (")" : Str) = _
    have e : ("late" : Str) ++ ("(" : Str) = "late(" := by decide +kernel
    rw [txP_tm t, join2, e]
    show _ = ("late(" : Str) ++ sg s ++ ("," : Str) ++ tmT t ++ (")" : Str)
    simp only [app_as]
  | .by4 a b c d x y => by
    show ("by" : Str) ++ ("(" : Str) ++ Txt.join "," [mix a b c d, txP (tmP x), txP (tmP y)] ++ (")" : Str) = _
    have e : ("by" : Str) ++ ("(" : Str) = "by(" := by decide +kernel
    rw [txP_tm x, txP_tm y, join3, e]
    show _ = ("by(" : Str) ++ mix a b c d ++ ("," : Str) ++ tmT x ++ ("," : Str) ++ tmT y ++ (")" : Str)
    simp only [app_as]
  | .two s x y => by
    show w2 s ++ ("(" : Str) ++ Txt.join "," [txP (tmP x), txP (tmP y)] ++ (")" : Str) = _
    rw [txP_tm x, txP_tm y, join2]
    show _ = w2 s ++ ("(" : Str) ++ tmT x ++ ("," : Str) ++ tmT y ++ (")" : Str)
    simp only [app_as]
def IsT (n : Nat) (t : PT) : Prop := (∃ z, t = .s z) ∨ ∃ tm : Tm, t = tmP tm ∧ tm.size ≤ n
theorem tm_open {n : Nat} (hn : n ≤ 9) {t : Tm} (h : t.size ≤ n + 1) : (∃ z, tmP t = .s z) ∨ (1 ≤ n ∧ ∃ w rest, tmP t = .u (.s w :: rest) ∧ rest.length ≤ 3 ∧ w.length ≤ 10 ∧ ∀ u ∈ rest, IsT n u ∧ (txP u).length ≤ 100) := by
  have tl : ∀ u : Tm, u.size ≤ n → (txP (tmP u)).length ≤ 100 := fun u hu => by
    rw [txP_tm]
    have := tmT_len u
    omega
  cases t with
  | inn => exact .inl ⟨_, rfl⟩
  | one i hi t =>
    have h : t.size + 1 ≤ n + 1 := h
    have := t.pos
    exact .inr ⟨by omega, w1.getD i "", [tmP t], rfl, by simp, Nat.le_trans (w1_len i hi) (by decide), all_cons ⟨.inr ⟨t, rfl, by omega⟩, tl t (by omega)⟩ all_nil⟩
  | late s t =>
    have h : t.size + 1 ≤ n + 1 := h
    have := t.pos
    exact .inr ⟨by omega, "late", [.s (sg s), tmP t], rfl, by simp, by decide +kernel, all_cons ⟨.inl ⟨_, rfl⟩, Nat.le_trans (sg_len s) (by decide)⟩ (all_cons ⟨.inr ⟨t, rfl, by omega⟩, tl t (by omega)⟩ all_nil)⟩
  | by4 a b c d x y =>
    have h : x.size + y.size + 1 ≤ n + 1 := h
    have := x.pos
    have := y.pos
    exact .inr ⟨by omega, "by", [.s (mix a b c d), tmP x, tmP y], rfl, by simp, by decide +kernel, all_cons ⟨.inl ⟨_, rfl⟩, Nat.le_trans (mix_len a b c d) (by decide)⟩ (all_cons ⟨.inr ⟨x, rfl, by omega⟩, tl x (by omega)⟩ (all_cons ⟨.inr ⟨y, rfl, by omega⟩, tl y (by omega)⟩ all_nil))⟩
  | two s x y =>
    have h : x.size + y.size + 1 ≤ n + 1 := h
    have := x.pos
    have := y.pos
    exact .inr ⟨by omega, w2 s, [tmP x, tmP y], rfl, by simp, Nat.le_trans (w2_len s) (by decide), all_cons ⟨.inr ⟨x, rfl, by omega⟩, tl x (by omega)⟩ (all_cons ⟨.inr ⟨y, rfl, by omega⟩, tl y (by omega)⟩ all_nil)⟩
section
variable {P : Program} {w : World} {K : PySem.W.Frag} {mg : Str → Option Value} {base : Heap}
def pre_ttext (n : Nat) : Ez → List PT → (PT → Prop) → Prop := fun Z ts P => ∃ t, ts = [t] ∧ IsT n t ∧ 1 ≤ n ∧ n ≤ 9 ∧ P (.s (txP t))
theorem sc_term_text : FnScope ["term", "part"] ["term"] (defScope s_term_text) := ⟨rfl, rfl, rfl, by decide +kernel, rfl, by decide +kernel, by decide +kernel⟩
theorem ok_term_text (T : Tx K mg) : ∀ n, Has P w K mg base CX0 (4 + n) "term_text" ["term"] (spR K (pre_ttext n)) := by
  intro n
  induction n with
  | zero =>
    obtain ⟨f, fd, F, g⟩ := T.d_term_text
    refine ⟨f, fd, g, F.kp, F.bindsN (ps := ["term"]) (fun _ _ _ _ _ _ us hl => match us, hl with | [_], _ => rfl), ?_⟩
    refine F.ok sc_term_text (fun vs H Q E h => ?_) (fun cdv A outer s H vs Q E hr h => ?_)
    · obtain ⟨Z, ts, P', _, _, rs, ⟨_, rfl, _⟩, _⟩ := h
      exact rs.length
    · obtain ⟨Z, ts, P', _, _, rs, ⟨_, rfl, _, h1, _⟩, _⟩ := h
      omega
  | succ n ih =>
  obtain ⟨f, fd, F, g⟩ := T.d_term_text
  refine ⟨f, fd, g, F.kp, F.bindsN (ps := ["term"]) (fun _ _ _ _ _ _ us hl => match us, hl with | [_], _ => rfl), ?_⟩
  refine F.ok sc_term_text (fun vs H Q E h => ?_) (fun cdv A outer s H vs Q E hr h => ?_)
  · obtain ⟨Z, ts, P', _, _, rs, ⟨_, rfl, _⟩, _⟩ := h
    exact rs.length
  · obtain ⟨Z, ts, P', rfl, j, rs, ⟨t, rfl, ht, _, hn9, hP⟩, k⟩ := h
    obtain ⟨v0, _, rfl, r0, rfl⟩ := rs
    refine ⟨_, PSs.nox (pss_cons (ps_if (pt_val (pe_callB (r := rIsi Z.K) call_isi (by rfl) T.n_isinstance boot_isinstance (pa_cons (pv 0) (pa_cons (pe_bltn (v := .ty "str") (by rfl) T.n_str b_str rfl) pa_nil)))) (pss_one (ps_ret (pv 0))) pss_nil)
      (pss_one (ps_ret (pe_op op_add_str (pe_op op_add_str (pe_op op_add_str (pe_ix (r := rIxT Z.K) ix_tup (pv 0) pe_int (fun _ _ => rfl)) pe_str) (pe_join pe_str (pe_lc (own := [("part", 1)]) (g := gName 1) (tt := tYes) rfl sc_term_text.nd (pi_tupK (K := Z.K) (pe_slice (r := rSlA Z.K) sl_tupA (pv 0) (po_some pe_int) po_none)) (blkOk_by (N := ["term", "part"]) (sc := defScope s_term_text) (by decide +kernel)) (fun _ _ _ _ _ => pg_name (i := 1) sc_term_text.nd rfl (Or.inl rfl)) (fun _ _ _ _ _ => pts_nil) (fun _ _ _ _ _ => (pe_has ih (hr.mono (by show _ ≤ 4 + n; omega)) pass0 (pa_cons (pv 1) pa_nil)))))) pe_str)))), ?_⟩
    have ks : kitB "str" "str" = some true := by decide +kernel
    have ku : kitB "tuple" "str" = some false := by decide +kernel
    have ht2 : (∃ z, t = .s z) ∨ (1 ≤ n ∧ ∃ w rest, t = .u (.s w :: rest) ∧ rest.length ≤ 3 ∧ w.length ≤ 10 ∧ ∀ u ∈ rest, IsT n u ∧ (txP u).length ≤ 100) := by
      rcases ht with h | ⟨tm, rfl, h⟩
      · exact .inl h
      · exact tm_open (by omega) h
    rcases ht2 with ⟨z, rfl⟩ | ⟨hn1, wd, rest, rfl, hl3, hw, hr'⟩
    · refine zq_when (b := true) (eb_test (er_isi (t := .s z) (c := true) (er_var r0 ?_) (fun a e => by cases e) ks)) j (fun _ H1 g1 j1 => ?_) fun z => by cases z
      · rfl
      · refine z_ret (er_var (t := .s z) (r0.mono g1) ?_) j1 fun t v H2 g2 j2 e r => ?_
        · rfl
        subst e
        exact k _ _ _ (g1.trans g2) j2 hP r
    · refine zq_when (b := false) (eb_test (er_isi (t := .u (.s wd :: rest)) (c := false) (er_var r0 ?_) (fun a e => by cases e) ku)) j (fun z => by cases z) fun _ H1 g1 j1 => ?_
      · rfl
      have r1 := r0.mono g1
      obtain ⟨l1, l2, l3, l4, l5, l6⟩ := lits_len
      have sml : (Txt.join "," (rest.map txP)).length ≤ 400 := by
        have c1 : ("," : Str).length = 1 := by decide +kernel
        match rest, hl3, hr' with
        | [], _, _ => exact (show (Txt.join "," []).length ≤ 400 by decide +kernel)
        | [a], _, h =>
          have := (h a (by simp)).2
          show (Txt.join "," [txP a]).length ≤ 400
          rw [join1]
          omega
        | [a, b], _, h =>
          have := (h a (by simp)).2
          have := (h b (by simp)).2
          show (Txt.join "," [txP a, txP b]).length ≤ 400
          rw [join2, app_len, app_len]
          omega
        | [a, b, c], _, h =>
          have := (h a (by simp)).2
          have := (h b (by simp)).2
          have := (h c (by simp)).2
          show (Txt.join "," [txP a, txP b, txP c]).length ≤ 400
          rw [join3, app_len, app_len, app_len, app_len]
          omega
        | _ :: _ :: _ :: _ :: _, h, _ => simp at h
      have hS : (rest.map txP).length ≤ 3 ∧ ((rest.map txP).map (·.length)).sum ≤ 300 := by
        refine ⟨by rw [List.length_map]; exact hl3, ?_⟩
        have := sum_le (zs := rest.map txP) (b := 100) fun z hz => by
          obtain ⟨u, hu, rfl⟩ := List.mem_map.mp hz
          exact (hr' u hu).2
        rw [List.length_map] at this
        have h2 : rest.length * 100 ≤ 3 * 100 := Nat.mul_le_mul_right _ hl3
        omega
      have c1 : ("," : Str).length = 1 := by decide +kernel
      refine z_ret (er_catS (er_catS (er_catS (er_ixT (as := .s wd :: rest) (t := .s wd) (k := 0) (er_var r1 ?_) er_i (ixN0 (Nat.succ_pos _)) rfl) er_s (sz2 (by omega)))
        (er_join (sep := ",") (ys := fun _ => True) (zs := rest.map txP) er_s (Er.imp (er_lcf (as := rest) (f := fun u => .s (txP u)) (ei_tupc (Er.imp (er_slT (as := .s wd :: rest) (er_var r1 ?_) (eo_some er_i) eo_none) fun t e => ?_)) ?_ wipe1 ?_) fun t e => ?_) ?_) ?_) er_s ?_) j1 fun t v H2 g2 j2 e r => ?_
      · rfl
      · rfl
      · rw [e, show (1 : Int) = ((1 : Nat) : Int) from rfl, cutP_from]
        rfl
      · exact Nat.le_trans hl3 (by decide)
      · intro D o t x H1' ht hD gg rx
        refine er_call rfl (ea_c (er_var rx (var1 (show 1 < 2 by decide))) ea_nil) fun ts e => ⟨t, e, (hr' t ht).1, hn1, by omega, rfl⟩
      · rw [e, List.map_map]
        rfl
      · rw [c1]
        omega
      · exact sz2 (by simp only [app_len]; omega)
      · exact sz2 (by simp only [app_len]; omega)
      subst e
      refine k _ _ _ (g1.trans g2) j2 ?_ r
      have : txP (.u (.s wd :: rest)) = wd ++ ("(" : Str) ++ Txt.join "," (rest.map txP) ++ (")" : Str) := by
        show txP (.s wd) ++ ("(" : Str) ++ Txt.join "," (txL rest) ++ (")" : Str) = _
        rw [txL_map]
        rfl
      rw [this] at hP
      exact hP
end
end Fy
/-! L13 -/
namespace Fy
open PySem PySem.Spec PyProof.Rows L2 LamX
def sizes (us : List Tm) : Nat := (us.map Tm.size).sum
theorem sizes_app (a b : List Tm) : sizes (a ++ b) = sizes a + sizes b := by
  unfold sizes
  rw [List.map_append, List.sum_append]
/-- the parts of a term -/
def kidsT : Tm → List Tm
  | .inn => []
  | .one _ _ t => [t]
  | .late _ t => [t]
  | .by4 _ _ _ _ x y => [x, y]
  | .two _ x y => [x, y]
theorem kidsT_eq (t : Tm) : kids t = (kidsT t).map tmP := by cases t <;> rfl
theorem kidsT_size (t : Tm) : sizes (kidsT t) + 1 = t.size := by cases t <;> simp [kidsT, sizes, Tm.size]
theorem RepL.lastInit {Z : Ez} {H : Hp} {ts : List PT} {t : PT} {vs : List V} (h : RepL Z H (ts ++ [t]) vs) : ∃ x, vs[vs.length - 1]? = some x ∧ Rep Z H t x ∧ RepL Z H ts vs.dropLast := by
  have hl := h.length
  rw [List.length_append, List.length_singleton] at hl
  obtain ⟨x, hx, hr⟩ := h.get (i := ts.length) (t := t) (by simp)
  refine ⟨x, by rw [hl]; exact hx, hr, ?_⟩
  have := h.take ts.length
  rw [List.take_left] at this
  rw [List.dropLast_eq_take, hl]
  exact this
theorem len_sizes : ∀ us : List Tm, us.length ≤ sizes us
  | [] => Nat.le_refl _
  | t :: us => by
    have h1 := len_sizes us
    have h2 := t.pos
    have h3 : sizes (t :: us) = t.size + sizes us := by simp [sizes]
    rw [h3, List.length_cons]
    omega
theorem Ea.run1 {Z : Ez} {te : TE} {σ : L2.St} {H : Hp} {t : PT} {Q : List V → Hp → Prop} (h : Er Z te σ H (· = t)) (j : Z.J H) (k : ∀ v H2, Gr Z H H2 → Z.J H2 → Rep Z H2 t v → Q [v] H2) : tCons te tNil σ H Q :=
  h H Gr.refl j _ fun t' v H2 g2 j2 e r => by
    subst e
    exact k v H2 g2 j2 r
def isW (Z : Ez) (D : Addr) (v0 : V) (H0 : Hp) (m : Nat) (σ : L2.St) (H' : Hp) : Prop := ∃ (us : List Tm) (n : Nat) (o3 : Option V), σ = [some v0, some (.ref D), some (.int (n : Int)), o3] ∧ (Z.accE D).J H' ∧ Gr (Z.accE D) H0 H' ∧ sizes us + n ≤ 9 ∧ m = sizes us ∧ ∃ ys, H' D = some (.lst ys) ∧ RepL (Z.accE D) H' (us.map tmP) ys
section
variable {P : Program} {w : World} {K : PySem.W.Frag} {mg : Str → Option Value} {base : Heap}
def pre_isterm : Ez → List PT → (PT → Prop) → Prop := fun Z ts P => ∃ t : Tm, t.size ≤ 9 ∧ ts = [tmP t] ∧ P (.b true)
theorem sc_is_term : FnScope ["value", "waiting", "many", "node"] ["value"] (defScope s_is_term) := ⟨rfl, rfl, rfl, by decide +kernel, rfl, by decide +kernel, by decide +kernel⟩
theorem ok_is_term (T : Tx K mg) : Has P w K mg base CX0 3 "is_term" ["value"] (spR K pre_isterm) := by
  obtain ⟨f, fd, F, g⟩ := T.d_is_term
  refine ⟨f, fd, g, F.kp, F.bindsN (ps := ["value"]) (fun _ _ _ _ _ _ us hl => match us, hl with | [_], _ => rfl), ?_⟩
  refine F.ok sc_is_term (fun vs H Q E h => ?_) (fun cdv A outer s H vs Q E hr h => ?_)
  · obtain ⟨Z, ts, P', _, _, rs, ⟨_, _, rfl, _⟩, _⟩ := h
    exact rs.length
  · obtain ⟨Z, ts, P', rfl, j, rs, ⟨tm, hsz, rfl, hP⟩, k⟩ := h
    obtain ⟨v0, _, rfl, r0, rfl⟩ := rs
    refine ⟨_, PSs.nox (pss_cons (ps_par (i := 1) (j := 2) rfl sc_is_term.nd rfl rfl (by decide) rfl rfl (pa_cons (pe_lst (pa_cons (pv 0) pa_nil)) (pa_cons pe_int pa_nil)) rfl)
      (pss_cons (ps_while PassesOwn.never (pt_cmpR (op_ne_nil hr) (pv 1) (pe_lst pa_nil) (nomark _)) (pss_cons (ps_set (i := 3) sc_is_term.nd rfl (Or.inl rfl) (pe_bm0 PySem.F.plainAttrs_list PySem.F.slot_list_pop PySem.F.type_list_pop mt_pop (pv 1)))
      (pss_cons (ps_aug (i := 2) sc_is_term.nd rfl (Or.inl rfl) pe_int ip_add)
      (pss_cons (ps_if (pt_cmpR op_gt (pv 2) (pe_gi T.c_MOST_NODES_terms) (nomark _)) (pss_one (ps_ret pe_bl)) pss_nil)
      (pss_one (ps_if (pt_not (pt_val (pe_callB (r := rIsi Z.K) call_isi (by rfl) T.n_isinstance boot_isinstance (pa_cons (pv 3) (pa_cons (pe_bltn (v := .ty "str") (by rfl) T.n_str b_str rfl) pa_nil))))) (pss_cons (ps_if (pt_not (pt_val (pe_has (ok_has_shape T) (hr.mono (by decide)) pass0 (pa_cons (pv 3) pa_nil)))) (pss_one (ps_ret pe_bl)) pss_nil)
      (pss_one (ps_expr (pe_bm PySem.F.plainAttrs_list PySem.F.slot_list_extend PySem.F.type_list_extend (r := rExtendT Z.K) mt_extendT (pv 1) (pa_cons (pe_has (ok_parts_of T) (hr.mono (by decide)) pass0 (pa_cons (pv 3) pa_nil)) pa_nil))))) (pss_one (ps_if (pt_cmpR op_ne (pv 3) (pe_gs T.c_IN) (nomark _)) (pss_one (ps_ret pe_bl)) pss_nil))))))))
      (pss_one (ps_ret pe_bl)))), ?_⟩
    have ks : kitB "str" "str" = some true := by decide +kernel
    have ku : kitB "tuple" "str" = some false := by decide +kernel
    refine ⟨_, rfl, (show 1 ≤ sizeLine by decide), fun D hD => ⟨_, _, rfl, ?_⟩⟩
    have nD : ¬ Z.M D := Z.fresh j hD
    have jD : (Z.accE D).J (upd H D (.lst [v0])) := ⟨Z.jnew j hD, [v0], upd_same⟩
    have r0D : Rep (Z.accE D) (upd H D (.lst [v0])) (tmP tm) v0 := rep_accE (o := .lst []) ((r0.acc (Fresh.of hD)).mono (Gr.acc (Gr.new hD)))
    have gH : Gr Z H (upd H D (.lst [v0])) := Gr.new hD
    show tSeq _ _ _ _ _
    refine ⟨isW Z D v0 (upd H D (.lst [v0])), ⟨tm.size, [tm], 0, none, rfl, jD, Gr.refl, by simp [sizes]; exact hsz, by simp [sizes], [v0], upd_same, RepL.one r0D⟩, ?_⟩
    rintro m σ H' ⟨us, n, o3, rfl, j', g', hs, rfl, ys, hy, hu⟩
    refine ⟨_, rfl, Nat.zero_le _, fun p hp => ⟨D, p, ys, rfl, rfl, SqL.of (by rw [upd_ne (ne_of_none hy hp)]; exact hy), SqL.of upd_same, _, rfl, ?_⟩⟩
    have gN : Gr (Z.accE D) H' (upd H' p (.lst [])) := Gr.new hp
    have jN : (Z.accE D).J (upd H' p (.lst [])) := Ez.jnew (Z := Z.accE D) j' hp
    have hyN : (upd H' p (.lst [])) D = some (.lst ys) := by rw [upd_ne (ne_of_none hy hp)]; exact hy
    have huN := hu.mono gN
    have g0N := g'.trans gN
    generalize upd H' p (.lst []) = H1 at gN jN hyN huN g0N ⊢
    rcases List.eq_nil_or_concat us with rfl | ⟨us', t, rfl⟩
    · have e : ys = [] := huN
      subst e
      refine iteF ?_
      exact k _ _ _ (Gr.unaccE (Fresh.of hD) gH g0N) jN.1 hP rfl
    · rw [List.concat_eq_append, List.map_append] at huN
      rw [List.concat_eq_append, sizes_app] at hs
      obtain ⟨x, hx, rx, hr'⟩ := huN.lastInit
      have e : (!ys.isEmpty) = true := by
        cases ys with
        | nil => simp at hx
        | cons a b => rfl
      rw [e]
      have st1 : sizes [t] = t.size := by simp [sizes]
      have hpos := t.pos
      rw [List.concat_eq_append, sizes_app]
      refine iteT ⟨fun σ3 H3 => ∃ m', m' < sizes us' + sizes [t] ∧ isW Z D v0 (upd H D (.lst [v0])) m' σ3 H3, fun _ _ h => h, ?_⟩
      refine ⟨_, rfl, Or.inl ⟨rfl, _, SqL.of hyN⟩, D, ys, x, rfl, rfl, hyN, hx, ?_⟩
      have gP : Gr (Z.accE D) H1 (upd H1 D (.lst ys.dropLast)) := Gr.putaccE
      have jP : (Z.accE D).J (upd H1 D (.lst ys.dropLast)) := ⟨Z.jn nD (.inr ⟨_, hyN⟩) jN.1, _, upd_same⟩
      have hyP : (upd H1 D (.lst ys.dropLast)) D = some (.lst ys.dropLast) := upd_same
      have rxP := rx.mono gP
      have hrP := hr'.mono gP
      have g0P := g0N.trans gP
      generalize upd H1 D (.lst ys.dropLast) = H2 at gP jP hyP rxP hrP g0P ⊢
      generalize ys.dropLast = zs at hyP hrP ⊢
      show tSeq _ _ _ _ _
      refine ⟨_, rfl, _, _, rfl, rfl, ?_⟩
      have eN : V.int ((n : Int) + 1) = V.int (((n + 1 : Nat) : Int)) := rfl
      rw [eN]
      have jA : (Z.acc D (.lst zs)).J H2 := ⟨jP.1, hyP⟩
      have rxA : Rep (Z.acc D (.lst zs)) H2 (tmP t) x := accE_rep rxP
      have hrA : RepL (Z.acc D (.lst zs)) H2 (us'.map tmP) zs := accE_repL hrP
      refine zq_when (Z := Z.acc D (.lst zs)) (b := false) (eb_test (er_I0 (er_var (t := .i ((n + 1 : Nat) : Int)) rfl ?_) er_i fun _ => ?_)) jA (fun z => by cases z) fun _ H3 g3 j3 => ?_
      · rfl
      · show V.bl (decide (((n + 1 : Nat) : Int) > 9)) = V.bl false
        rw [decide_eq_false (by omega)]
      have rx3 := rxA.mono g3
      by_cases ht : t = .inn
      · subst ht
        refine z_if (Z := Z.acc D (.lst zs)) (B := (· = false)) (Eb.imp (eb_not (c := true) (eb_test (er_isi (t := .s "in") (c := true) (er_var rx3 ?_) (fun a e => by cases e) ks))) fun b e => e) j3 fun b H4 g4 j4 e => ?_
        · rfl
        subst e
        refine iteF ?_
        refine z_when (Z := Z.acc D (.lst zs)) (b := false) (Eb.imp (eb_test (er_neS (a := "in") (b := "in") (er_var (rx3.mono g4) ?_) er_s)) fun b e => by rw [e]; simp) j4 (fun z => by cases z) fun _ H5 g5 j5 => ?_
        · rfl
        have g25 := (g3.trans g4).trans g5
        exact ⟨sizes us', by omega, us', n + 1, some x, rfl, accE_j j5, g0P.trans (accE_gr g25), by omega, rfl, zs, j5.2, repL_accE (hrA.mono g25)⟩
      · obtain ⟨w0, rest, ew⟩ : ∃ w rest, tmP t = .u (.s w :: rest) := by
          cases t with
          | inn => exact absurd rfl ht
          | one i hi t => exact ⟨_, _, rfl⟩
          | late s t => exact ⟨_, _, rfl⟩
          | by4 a b c d x y => exact ⟨_, _, rfl⟩
          | two s x y => exact ⟨_, _, rfl⟩
        refine z_if (Z := Z.acc D (.lst zs)) (B := (· = true)) (Eb.imp (eb_not (c := false) (eb_test (er_isi (t := tmP t) (c := false) (er_var rx3 ?_) (fun a e => by rw [ew] at e; cases e) (by rw [ew]; exact ku)))) fun b e => e) j3 fun b H4 g4 j4 e => ?_
        · rfl
        subst e
        refine iteT ?_
        have rx4 := rx3.mono g4
        refine zq_when (Z := Z.acc D (.lst zs)) (b := false) (Eb.imp (eb_not (c := true) (eb_test (er_call (S := (· = .b true)) rfl (ea_c (er_var rx4 ?_) ea_nil) fun ts e => ⟨t, ht, by omega, e, rfl⟩))) fun b e => e) j4 (fun z => by cases z) fun _ H5 g5 j5 => ?_
        · rfl
        have rx5 := rx4.mono g5
        refine ⟨_, rfl, Or.inl ⟨rfl, _, SqL.of j5.2⟩, ?_⟩
        refine Ea.run1 (Z := Z.acc D (.lst zs)) (er_call (S := (· = .u (kids t))) rfl (ea_c (er_var rx5 ?_) ea_nil) fun ts e => ⟨t, ht, by omega, e, rfl⟩) j5 fun v H6 g6 j6 r6 => ?_
        · rfl
        obtain ⟨b, ws, rfl, nb, hb, rb⟩ := r6
        rw [kidsT_eq] at rb
        have hzl : zs.length ≤ 100 := by
          have := hrA.length
          rw [List.length_map] at this
          have h2 : us'.length ≤ sizes us' := len_sizes us'
          omega
        have hwl : ws.length ≤ 100 := by
          have := rb.length
          rw [List.length_map] at this
          have h2 := len_sizes (kidsT t)
          have h3 := kidsT_size t
          omega
        refine ⟨D, b, zs, ws, rfl, rfl, j6.2, SqT.of hb, Nat.le_trans (by omega : zs.length + ws.length ≤ 200) (by decide), ?_⟩
        have g26 := ((g3.trans g4).trans g5).trans g6
        have gE : Gr (Z.acc D (.lst zs)) H6 (upd H6 D (.lst (zs ++ ws))) := Gr.putacc
        have h3 := kidsT_size t
        refine ⟨sizes (us' ++ kidsT t), by rw [sizes_app]; omega, us' ++ kidsT t, n + 1, some x, rfl, ⟨Z.jn nD (.inr ⟨_, j6.2⟩) j6.1, _, upd_same⟩, g0P.trans (accE_gr (g26.trans gE)), by rw [sizes_app]; omega, rfl, zs ++ ws, upd_same, ?_⟩
        rw [List.map_append]
        exact RepL.app (repL_accE (hrA.mono (g26.trans gE))) (repL_accE (rb.mono gE))
end
end Fy
/-! L14 -/
namespace Fy
open PySem PySem.Spec PyProof.Rows L2 LamX
/-- terms are no stations, no yards -/
structure Tx2 (K : PySem.W.Frag) : Prop where
  tS : PySem.W.kitOne K (.type "tuple") (.ref (He.ga K "Station")) = some false
  tY : PySem.W.kitOne K (.type "tuple") (.ref (He.ga K "Yard")) = some false
  sS : PySem.W.kitOne K (.type "str") (.ref (He.ga K "Station")) = some false
  sY : PySem.W.kitOne K (.type "str") (.ref (He.ga K "Yard")) = some false
theorem er_isiC {Z : Ez} {te : TE} {σ : L2.St} {H : Hp} {t : PT} {C : Addr} {c : Bool} (ha : Er Z te σ H (· = t)) (hp : ∀ a, t ≠ .r a) (hk : PySem.W.kitOne Z.K (.type (tyN t)) (.ref C) = some c) : Er Z (tCB (rIsi Z.K) (tCons te (tCons (tC (.ref C)) tNil))) σ H (· = .b c) := fun H1 g j Q q =>
  ha H1 g j _ fun u v H2 g2 j2 e r => by
    subst e
    exact ⟨v, .ref C, _, _, c, rfl, .own C, rep_ty r hp, hk, q _ _ H2 g2 j2 rfl rfl⟩
theorem tm_ty (t : Tm) : (∀ a, tmP t ≠ .r a) ∧ (tyN (tmP t) = "str" ∨ tyN (tmP t) = "tuple") := by
  cases t with
  | inn => exact ⟨fun a e => (by cases e), .inl rfl⟩
  | one i h t => exact ⟨fun a e => (by cases e), .inr rfl⟩
  | late s t => exact ⟨fun a e => (by cases e), .inr rfl⟩
  | by4 a b c d x y => exact ⟨fun a e => (by cases e), .inr rfl⟩
  | two s x y => exact ⟨fun a e => (by cases e), .inr rfl⟩
section
variable {P : Program} {w : World} {K : PySem.W.Frag} {mg : Str → Option Value} {base : Heap}
def pre_written : Ez → List PT → (PT → Prop) → Prop := fun Z ts P => ∃ t : Tm, t.size ≤ 9 ∧ ts = [tmP t] ∧ P (.s (tmT t ++ ("\n" : Str)))
theorem sc_written : FnScope ["entry"] ["entry"] (defScope s_written) := ⟨rfl, rfl, rfl, by decide +kernel, rfl, by decide +kernel, by decide +kernel⟩
theorem ok_written (T : Tx K mg) (T2 : Tx2 K) : Has P w K mg base CX0 14 "written" ["entry"] (spR K pre_written) := by
  obtain ⟨f, fd, F, g⟩ := T.d_written
  refine ⟨f, fd, g, F.kp, F.bindsN (ps := ["entry"]) (fun _ _ _ _ _ _ us hl => match us, hl with | [_], _ => rfl), ?_⟩
  refine F.ok sc_written (fun vs H Q E h => ?_) (fun cdv A outer s H vs Q E hr h => ?_)
  · obtain ⟨Z, ts, P', _, _, rs, ⟨_, _, rfl, _⟩, _⟩ := h
    exact rs.length
  · obtain ⟨Z, ts, P', rfl, j, rs, ⟨tm, hsz, rfl, hP⟩, k⟩ := h
    obtain ⟨v0, _, rfl, r0, rfl⟩ := rs
    refine ⟨_, PSs.nox (pss_cons (ps_if (pt_val (pe_callB (r := rIsi Z.K) call_isi (by rfl) T.n_isinstance boot_isinstance (pa_cons (pv 0) (pa_cons (pe_glob (v := .ref (He.ga Z.K "Station")) (by rfl) T.g_Station rfl) pa_nil)))) (pss_one ps_never) pss_nil)
      (pss_cons (ps_if (pt_val (pe_callB (r := rIsi Z.K) call_isi (by rfl) T.n_isinstance boot_isinstance (pa_cons (pv 0) (pa_cons (pe_glob (v := .ref (He.ga Z.K "Yard")) (by rfl) T.g_Yard rfl) pa_nil)))) (pss_one ps_never) pss_nil)
      (pss_cons (ps_if (pt_val (pe_has (ok_is_term T) (hr.mono (by decide)) pass0 (pa_cons (pv 0) pa_nil))) (pss_one (ps_ret (pe_op op_add_str (pe_has (ok_term_text T 9) (hr.mono (by decide)) pass0 (pa_cons (pv 0) pa_nil)) (pe_gs T.c_LINE_END)))) pss_nil)
      (pss_cons ps_never
      (pss_one ps_never))))), ?_⟩
    obtain ⟨hp, hty⟩ := tm_ty tm
    have eS : PySem.W.kitOne Z.K (.type (tyN (tmP tm))) (.ref (He.ga Z.K "Station")) = some false := by
      rcases hty with e | e
      · rw [e]; exact T2.sS
      · rw [e]; exact T2.tS
    have eY : PySem.W.kitOne Z.K (.type (tyN (tmP tm))) (.ref (He.ga Z.K "Yard")) = some false := by
      rcases hty with e | e
      · rw [e]; exact T2.sY
      · rw [e]; exact T2.tY
    refine zq_when (b := false) (eb_test (er_isiC (t := tmP tm) (c := false) (er_var r0 ?_) hp eS)) j (fun z => by cases z) fun _ H1 g1 j1 => ?_
    · rfl
    have r1 := r0.mono g1
    refine zq_when (b := false) (eb_test (er_isiC (t := tmP tm) (c := false) (er_var r1 ?_) hp eY)) j1 (fun z => by cases z) fun _ H2 g2 j2 => ?_
    · rfl
    have r2 := r1.mono g2
    refine zq_when (b := true) (eb_test (er_call (S := (· = .b true)) rfl (ea_c (er_var r2 ?_) ea_nil) fun ts e => ⟨tm, hsz, e, rfl⟩)) j2 (fun _ H3 g3 j3 => ?_) fun z => by cases z
    · rfl
    have r3 := r2.mono g3
    have hl := tmT_len tm
    have c1 : ("\n" : Str).length = 1 := by decide +kernel
    refine z_ret (er_catS (a := tmT tm) (b := "\n") (er_call (S := (· = .s (tmT tm))) rfl (ea_c (er_var r3 ?_) ea_nil) fun ts e => ⟨tmP tm, e, .inr ⟨tm, rfl, hsz⟩, by decide, by decide, by rw [txP_tm]⟩) er_s (sz2 (by omega))) j3 fun t v H4 g4 j4 e r4 => ?_
    · rfl
    subst e
    exact k _ _ _ (((g1.trans g2).trans g3).trans g4) j4 hP r4
end
end Fy
/-! Tw -/
/-! terms, plain: a weight of signs that all forms share, and no odd form has -/
namespace Fy
open PySem
def wtL : List (Nat × Int) := [(40, -16), (41, 19), (44, 8), (48, -14), (49, -14), (97, 3), (98, 15), (99, 13), (101, -25), (102, -16), (103, 4), (104, -2), (105, -5), (107, 15), (108, 12), (110, 4), (111, -20), (112, 25), (116, 13), (117, -13), (119, 1), (121, 23)]
def wt (c : Nat) : Int := (wtL.lookup c).getD 1001
def ph (l : List Nat) : Int := (l.map wt).sum
theorem lookup_in {α β : Type} [BEq α] [LawfulBEq α] {k : α} {v : β} : ∀ {l : List (α × β)}, l.lookup k = some v → (k, v) ∈ l
  | [], h => by cases h
  | (a, b) :: l, h => by
    rw [List.lookup_cons] at h
    cases e : k == a with
    | true =>
      rw [e] at h
      cases h
      rw [eq_of_beq e]
      exact List.mem_cons_self
    | false =>
      rw [e] at h
      exact List.mem_cons_of_mem _ (lookup_in h)
theorem wtL_ne : ∀ p ∈ wtL, p.2 ≠ 0 := by decide
theorem wt_ne (c : Nat) : wt c ≠ 0 := by
  unfold wt
  cases h : wtL.lookup c with
  | none => decide
  | some v => exact wtL_ne _ (lookup_in h)
theorem ph_app (a b : List Nat) : ph (a ++ b) = ph a + ph b := by
  unfold ph
  rw [List.map_append, List.sum_append]
theorem ph_cons (c : Nat) (l : List Nat) : ph (c :: l) = wt c + ph l := rfl
theorem ph_nil : ph [] = 0 := rfl
theorem wt_sign {c : Nat} (h : isSign c = true) : wt c = -14 := by
  have h : (c == 48 || c == 49) = true := h
  rcases Bool.or_eq_true_iff.mp h with h | h
  · rw [eq_of_beq h]
    decide
  · rw [eq_of_beq h]
    decide
theorem ph_signs : ∀ {l : List Nat}, l.all isSign = true → ph l = -14 * (l.length : Int)
  | [], _ => rfl
  | c :: l, h => by
    rw [List.all_cons, Bool.and_eq_true] at h
    rw [ph_cons, wt_sign h.1, ph_signs h.2, List.length_cons]
    omega
theorem chop_ph {c : Nat} {l r : List Nat} (h : chop c l = some r) : ph l = wt c + ph r := by
  cases l with
  | nil => cases h
  | cons d r' =>
    have h : (if d = c then some r' else none) = some r := h
    by_cases e : d = c
    · rw [if_pos e] at h
      cases h
      rw [e, ph_cons]
    · rw [if_neg e] at h
      cases h
theorem signsM_ph {m : Nat} {l r : List Nat} (h : signsM m l = some r) : ph l = -14 * (m : Int) + 8 + ph r := by
  unfold signsM at h
  split at h
  · rename_i c
    have h1 := chop_ph h
    have h2 := ph_signs c.2
    rw [List.length_take, Nat.min_eq_left c.1] at h2
    have h3 := ph_app (l.take m) (l.drop m)
    rw [List.take_append_drop] at h3
    have h4 : wt 44 = 8 := by decide
    omega
  · cases h
def hdC (w : Str) : Int := if w = "late" then -6 else if w = "by" then -48 else 0
theorem headM_ph {w : Str} {l r : List Nat} (h : headM w l = some r) : ph l = hdC w + ph r := by
  unfold headM at h
  unfold hdC
  split at h
  · rename_i e
    rw [if_pos e]
    have := signsM_ph h
    omega
  · rename_i e
    rw [if_neg e]
    split at h
    · rename_i e
      rw [if_pos e]
      have := signsM_ph h
      omega
    · rename_i e
      rw [if_neg e]
      cases h
      omega
theorem loopM_ph {g : Nat → List Nat → Option (List Nat × Nat)} (hg : ∀ left l s, g left l = some s → ph l = -1 + ph s.1) : ∀ (k : Nat) (b : Bool) (l : List Nat) (left : Nat) (s : List Nat × Nat), loopM g k b l left = some s → (1 ≤ k ∨ b = false) → ph l = 7 * (k : Int) - (if b = true then 8 else 0) + ph s.1
  | 0, b, l, left, s, h, hb => by
    cases h
    rcases hb with hb | hb
    · omega
    · rw [hb]
      simp
  | k + 1, b, l, left, s, h, _ => by
    obtain ⟨l', h1, h⟩ := Option.bind_eq_some_iff.mp h
    obtain ⟨s', h2, h⟩ := Option.bind_eq_some_iff.mp h
    have e2 := hg _ _ _ h2
    have e3 := loopM_ph hg k false _ _ s h (.inr rfl)
    rw [if_neg (by decide)] at e3
    cases b with
    | true =>
      cases h1
      rw [if_pos rfl]
      omega
    | false =>
      have e1 := chop_ph h1
      have h4 : wt 44 = 8 := by decide
      rw [if_neg (by decide)]
      omega
theorem partsL_ph : ∀ p ∈ partsL, ph (TL.tl p.1) + -16 + hdC p.1 + (7 * (p.2 : Int) - 8) + 19 = -1 ∧ 1 ≤ p.2 := by decide +kernel
theorem tl_mk' (l : List Nat) : TL.tl (mk l) = l := rfl
theorem nodeM_ph : ∀ (f left : Nat) (l : List Nat) (s : List Nat × Nat), nodeM f left l = some s → ph l = -1 + ph s.1
  | 0, _, _, _, h => by cases h
  | f + 1, 0, _, _, h => by cases h
  | f + 1, left + 1, l, s, h => by
    have hd := ph_app (l.takeWhile isLet) (l.dropWhile isLet)
    rw [List.takeWhile_append_dropWhile] at hd
    rw [nodeM_step] at h
    split at h
    · rename_i e
      cases h
      have e2 : l.takeWhile isLet = TL.tl ("in" : Str) := by rw [← e]
      have e3 : ph (TL.tl ("in" : Str)) = -1 := by decide +kernel
      rw [e2, e3] at hd
      exact hd
    · obtain ⟨k, h1, h⟩ := Option.bind_eq_some_iff.mp h
      obtain ⟨l2, h2, h⟩ := Option.bind_eq_some_iff.mp h
      obtain ⟨l3, h3, h⟩ := Option.bind_eq_some_iff.mp h
      obtain ⟨s2, h4, h⟩ := Option.bind_eq_some_iff.mp h
      obtain ⟨r, h5, h⟩ := Option.map_eq_some_iff.mp h
      subst h
      have a1 := partsL_ph _ (lookup_in h1)
      have a2 := chop_ph h2
      have a3 := headM_ph h3
      have a4 := loopM_ph (nodeM_ph f) k true l3 left s2 h4 (.inl a1.2)
      have a5 := chop_ph h5
      have b1 : wt 40 = -16 := by decide
      have b2 : wt 41 = 19 := by decide
      have a1 := a1.1
      rw [tl_mk'] at a1
      rw [if_pos rfl] at a4
      dsimp only at *
      omega
/-! forms are read -/
def Stop (r : List Nat) : Prop := ∀ c r', r = c :: r' → isLet c = false
theorem stop_nil : Stop [] := fun _ _ h => by cases h
theorem stop_cons {c : Nat} {r : List Nat} (h : isLet c = false) : Stop (c :: r) := fun _ _ e => by
  cases e
  exact h
theorem tw_app {p : Nat → Bool} : ∀ {w r : List Nat}, w.all p = true → (∀ c r', r = c :: r' → p c = false) → (w ++ r).takeWhile p = w ∧ (w ++ r).dropWhile p = r
  | [], [], _, _ => ⟨rfl, rfl⟩
  | [], c :: r, _, h => by
    have h := h c r rfl
    exact ⟨by rw [List.nil_append, List.takeWhile_cons_of_neg (by simp [h])], by rw [List.nil_append, List.dropWhile_cons_of_neg (by simp [h])]⟩
  | c :: w, r, hw, h => by
    rw [List.all_cons, Bool.and_eq_true] at hw
    obtain ⟨a, b⟩ := tw_app hw.2 h
    exact ⟨by rw [List.cons_append, List.takeWhile_cons_of_pos hw.1, a], by rw [List.cons_append, List.dropWhile_cons_of_pos hw.1, b]⟩
theorem chop_eq (c : Nat) (r : List Nat) : chop c (c :: r) = some r := if_pos rfl
theorem mk_tl' (z : Str) : mk (TL.tl z) = z := TL.ext_tl rfl
/-- a word, a bracket -/
theorem node_word {f left k : Nat} {w : Str} {r : List Nat} (hw : (TL.tl w).all isLet = true) (hin : ¬ w = "in") (hk : partsL.lookup w = some k) :
    nodeM (f + 1) (left + 1) (TL.tl w ++ 40 :: r) = (headM w r).bind fun l3 => (loopM (nodeM f) k true l3 left).bind fun s => (chop 41 s.1).map fun r => (r, s.2) := by
  obtain ⟨a, b⟩ := tw_app (p := isLet) (w := TL.tl w) (r := 40 :: r) hw (stop_cons (by decide))
  rw [nodeM_step, a, b, mk_tl', if_neg hin, hk, Option.bind_some, chop_eq, Option.bind_some]
theorem loop1 {g : Nat → List Nat → Option (List Nat × Nat)} {l : List Nat} {left : Nat} {s : List Nat × Nat} (h : g left l = some s) : loopM g 1 true l left = some s := by
  show ((some l).bind fun l' => (g left l').bind fun s => some (s.1, s.2)) = _
  rw [Option.bind_some, h]
  rfl
theorem loop2 {g : Nat → List Nat → Option (List Nat × Nat)} {l l2 : List Nat} {left left2 : Nat} {s : List Nat × Nat} (h : g left l = some (44 :: l2, left2)) (h2 : g left2 l2 = some s) : loopM g 2 true l left = some s := by
  show ((some l).bind fun l' => (g left l').bind fun s => (chop 44 s.1).bind fun l' => (g s.2 l').bind fun s => some (s.1, s.2)) = _
  rw [Option.bind_some, h, Option.bind_some, chop_eq, Option.bind_some, h2]
  rfl
theorem w1_facts : ∀ i < 5, (TL.tl (w1.getD i "")).all isLet = true ∧ ¬ w1.getD i "" = "in" ∧ partsL.lookup (w1.getD i "") = some 1 ∧ ¬ w1.getD i "" = "late" ∧ ¬ w1.getD i "" = "by" := by decide +kernel
theorem w2_facts : ∀ s, (TL.tl (w2 s)).all isLet = true ∧ ¬ w2 s = "in" ∧ partsL.lookup (w2 s) = some 2 ∧ ¬ w2 s = "late" ∧ ¬ w2 s = "by" := by decide +kernel
theorem wl_facts : (TL.tl ("late" : Str)).all isLet = true ∧ ¬ ("late" : Str) = "in" ∧ partsL.lookup ("late" : Str) = some 1 ∧ (TL.tl ("by" : Str)).all isLet = true ∧ ¬ ("by" : Str) = "in" ∧ partsL.lookup ("by" : Str) = some 2 ∧ ¬ ("by" : Str) = "late" := by decide +kernel
theorem sg_facts : ∀ s, (TL.tl (sg s)).length = 1 ∧ (TL.tl (sg s)).all isSign = true := by decide +kernel
theorem mix_facts : ∀ a b c d, (TL.tl (mix a b c d)).length = 4 ∧ (TL.tl (mix a b c d)).all isSign = true := by decide +kernel
theorem head_plain {w : Str} {l : List Nat} (h1 : ¬ w = "late") (h2 : ¬ w = "by") : headM w l = some l := by
  unfold headM
  rw [if_neg h1, if_neg h2]
theorem signs_go {m : Nat} {z r : List Nat} (hl : z.length = m) (hs : z.all isSign = true) : signsM m (z ++ 44 :: r) = some r := by
  unfold signsM
  rw [← hl, if_pos ⟨by simp, by rw [List.take_left]; exact hs⟩, List.drop_left]
  exact chop_eq _ _
theorem lit_tl : TL.tl ("(" : Str) = [40] ∧ TL.tl (")" : Str) = [41] ∧ TL.tl ("," : Str) = [44] ∧ TL.tl ("late(" : Str) = TL.tl ("late" : Str) ++ [40] ∧ TL.tl ("by(" : Str) = TL.tl ("by" : Str) ++ [40] ∧ (TL.tl ("in" : Str)).all isLet = true := by decide +kernel
theorem node_tm : ∀ (t : Tm) (f left : Nat) (r : List Nat), t.size ≤ f → t.size ≤ left → Stop r → nodeM f left (TL.tl (tmT t) ++ r) = some (r, left - t.size)
  | .inn, f, left, r, hf, hl, hr => by
    obtain ⟨f, rfl⟩ := Nat.exists_eq_add_of_le' (show 1 ≤ f from hf)
    obtain ⟨left, rfl⟩ := Nat.exists_eq_add_of_le' (show 1 ≤ left from hl)
    obtain ⟨a, b⟩ := tw_app (p := isLet) (w := TL.tl ("in" : Str)) (r := r) lit_tl.2.2.2.2.2 hr
    show nodeM (f + 1) (left + 1) (TL.tl ("in" : Str) ++ r) = _
    rw [nodeM_step, a, b, mk_tl', if_pos rfl]
    rfl
  | .one i h t, f, left, r, hf, hl, hr => by
    have hf : t.size + 1 ≤ f := hf
    have hl : t.size + 1 ≤ left := hl
    obtain ⟨f, rfl⟩ := Nat.exists_eq_add_of_le' (show 1 ≤ f by omega)
    obtain ⟨left, rfl⟩ := Nat.exists_eq_add_of_le' (show 1 ≤ left by omega)
    obtain ⟨c1, c2, c3, c4, c5⟩ := w1_facts i h
    have ih := node_tm t f left (41 :: r) (by omega) (by omega) (stop_cons (by decide))
    have e : TL.tl (tmT (.one i h t)) ++ r = TL.tl (w1.getD i "") ++ 40 :: (TL.tl (tmT t) ++ 41 :: r) := by
      show TL.tl (w1.getD i "" ++ ("(" : Str) ++ tmT t ++ (")" : Str)) ++ r = _
      simp only [TL.tl_append, lit_tl.1, lit_tl.2.1, List.append_assoc, List.cons_append, List.nil_append]
    rw [e, node_word c1 c2 c3, head_plain c4 c5, Option.bind_some, loop1 ih, Option.bind_some, chop_eq]
    show some (r, left - t.size) = some (r, left + 1 - (t.size + 1))
    rw [Nat.add_sub_add_right]
  | .late s t, f, left, r, hf, hl, hr => by
    have hf : t.size + 1 ≤ f := hf
    have hl : t.size + 1 ≤ left := hl
    obtain ⟨f, rfl⟩ := Nat.exists_eq_add_of_le' (show 1 ≤ f by omega)
    obtain ⟨left, rfl⟩ := Nat.exists_eq_add_of_le' (show 1 ≤ left by omega)
    have ih := node_tm t f left (41 :: r) (by omega) (by omega) (stop_cons (by decide))
    have e : TL.tl (tmT (.late s t)) ++ r = TL.tl ("late" : Str) ++ 40 :: (TL.tl (sg s) ++ 44 :: (TL.tl (tmT t) ++ 41 :: r)) := by
      show TL.tl (("late(" : Str) ++ sg s ++ ("," : Str) ++ tmT t ++ (")" : Str)) ++ r = _
      simp only [TL.tl_append, lit_tl.2.2.2.1, lit_tl.2.2.1, lit_tl.2.1, List.append_assoc, List.cons_append, List.nil_append]
    have hh : headM "late" (TL.tl (sg s) ++ 44 :: (TL.tl (tmT t) ++ 41 :: r)) = some (TL.tl (tmT t) ++ 41 :: r) := by
      unfold headM
      rw [if_pos rfl]
      exact signs_go (sg_facts s).1 (sg_facts s).2
    rw [e, node_word wl_facts.1 wl_facts.2.1 wl_facts.2.2.1, hh, Option.bind_some, loop1 ih, Option.bind_some, chop_eq]
    show some (r, left - t.size) = some (r, left + 1 - (t.size + 1))
    rw [Nat.add_sub_add_right]
  | .by4 a b c d x y, f, left, r, hf, hl, hr => by
    have hf : x.size + y.size + 1 ≤ f := hf
    have hl : x.size + y.size + 1 ≤ left := hl
    obtain ⟨f, rfl⟩ := Nat.exists_eq_add_of_le' (show 1 ≤ f by omega)
    obtain ⟨left, rfl⟩ := Nat.exists_eq_add_of_le' (show 1 ≤ left by omega)
    have ih2 := node_tm y f (left - x.size) (41 :: r) (by omega) (by omega) (stop_cons (by decide))
    have ih := node_tm x f left (44 :: (TL.tl (tmT y) ++ 41 :: r)) (by omega) (by omega) (stop_cons (by decide))
    have e : TL.tl (tmT (.by4 a b c d x y)) ++ r = TL.tl ("by" : Str) ++ 40 :: (TL.tl (mix a b c d) ++ 44 :: (TL.tl (tmT x) ++ 44 :: (TL.tl (tmT y) ++ 41 :: r))) := by
      show TL.tl (("by(" : Str) ++ mix a b c d ++ ("," : Str) ++ tmT x ++ ("," : Str) ++ tmT y ++ (")" : Str)) ++ r = _
      simp only [TL.tl_append, lit_tl.2.2.2.2.1, lit_tl.2.2.1, lit_tl.2.1, List.append_assoc, List.cons_append, List.nil_append]
    have hh : headM "by" (TL.tl (mix a b c d) ++ 44 :: (TL.tl (tmT x) ++ 44 :: (TL.tl (tmT y) ++ 41 :: r))) = some (TL.tl (tmT x) ++ 44 :: (TL.tl (tmT y) ++ 41 :: r)) := by
      unfold headM
      rw [if_neg wl_facts.2.2.2.2.2.2, if_pos rfl]
      exact signs_go (mix_facts a b c d).1 (mix_facts a b c d).2
    rw [e, node_word wl_facts.2.2.2.1 wl_facts.2.2.2.2.1 wl_facts.2.2.2.2.2.1, hh, Option.bind_some, loop2 ih ih2, Option.bind_some, chop_eq]
    show some (r, left - x.size - y.size) = some (r, left + 1 - (x.size + y.size + 1))
    rw [Nat.add_sub_add_right, Nat.sub_sub]
  | .two s x y, f, left, r, hf, hl, hr => by
    have hf : x.size + y.size + 1 ≤ f := hf
    have hl : x.size + y.size + 1 ≤ left := hl
    obtain ⟨f, rfl⟩ := Nat.exists_eq_add_of_le' (show 1 ≤ f by omega)
    obtain ⟨left, rfl⟩ := Nat.exists_eq_add_of_le' (show 1 ≤ left by omega)
    obtain ⟨c1, c2, c3, c4, c5⟩ := w2_facts s
    have ih2 := node_tm y f (left - x.size) (41 :: r) (by omega) (by omega) (stop_cons (by decide))
    have ih := node_tm x f left (44 :: (TL.tl (tmT y) ++ 41 :: r)) (by omega) (by omega) (stop_cons (by decide))
    have e : TL.tl (tmT (.two s x y)) ++ r = TL.tl (w2 s) ++ 40 :: (TL.tl (tmT x) ++ 44 :: (TL.tl (tmT y) ++ 41 :: r)) := by
      show TL.tl (w2 s ++ ("(" : Str) ++ tmT x ++ ("," : Str) ++ tmT y ++ (")" : Str)) ++ r = _
      simp only [TL.tl_append, lit_tl.1, lit_tl.2.2.1, lit_tl.2.1, List.append_assoc, List.cons_append, List.nil_append]
    rw [e, node_word c1 c2 c3, head_plain c4 c5, Option.bind_some, loop2 ih ih2, Option.bind_some, chop_eq]
    show some (r, left - x.size - y.size) = some (r, left + 1 - (x.size + y.size + 1))
    rw [Nat.add_sub_add_right, Nat.sub_sub]
theorem tm_node {t : Tm} (h : t.size ≤ 9) : nodeM 10 9 (TL.tl (tmT t)) = some ([], 9 - t.size) := by
  have := node_tm t 10 9 [] (by omega) h stop_nil
  rwa [List.append_nil] at this
theorem tm_ph {t : Tm} (h : t.size ≤ 9) : ph (TL.tl (tmT t)) = -1 := by
  have := nodeM_ph _ _ _ _ (tm_node h)
  exact this
/-! odd forms -/
theorem phS_ins : ∀ s ∈ insS, ph (TL.tl s) ≠ 0 := by decide +kernel
theorem phS_end : ∀ s ∈ endS, ph (TL.tl s) ≠ 0 := by decide +kernel
theorem ph_lits : ph (TL.tl ("not(" : Str)) = -19 ∧ ph (TL.tl ("," : Str)) = 8 ∧ ph (TL.tl (")" : Str)) = 19 ∧ ph (TL.tl ("late(" : Str)) = -13 := by decide +kernel
theorem odd_ph {l : List Nat} {o : Str} (hl : ph l = -1) (h : OddF l o) : ph (TL.tl o) ≠ -1 := by
  have e1 : ∀ {a b : Str}, ph (TL.tl (a ++ mk l ++ b)) = ph (TL.tl a) + -1 + ph (TL.tl b) := fun {a b} => by
    rw [TL.tl_append, TL.tl_append, ph_app, ph_app, tl_mk', hl]
  rcases h with ⟨k, hk, rfl⟩ | ⟨k, hk, s, hs, rfl⟩ | ⟨s, hs, rfl⟩ | h | h
  · rw [TL.tl_append, ph_app, tl_mk', tl_mk']
    have h1 := ph_app (l.take k) (l.drop k)
    rw [List.take_append_drop, List.drop_eq_getElem_cons hk, ph_cons, hl] at h1
    have := wt_ne l[k]
    omega
  · rw [TL.tl_append, TL.tl_append, ph_app, ph_app]
    show ph (l.take k) + ph (TL.tl s) + ph (l.drop k) ≠ -1
    have h1 := ph_app (l.take k) (l.drop k)
    rw [List.take_append_drop, hl] at h1
    have := phS_ins s hs
    omega
  · rw [TL.tl_append, ph_app, tl_mk', hl]
    have := phS_end s hs
    omega
  · obtain ⟨c1, c2, c3, c4⟩ := ph_lits
    simp only [nest1, List.mem_cons, List.not_mem_nil, or_false] at h
    rcases h with rfl | rfl | rfl | rfl
    · rw [TL.tl_append, ph_app, tl_mk', hl, c1]
      omega
    · rw [TL.tl_append, TL.tl_append, ph_app, ph_app, tl_mk', hl, c2]
      omega
    · rw [TL.tl_append, TL.tl_append, TL.tl_append, TL.tl_append, ph_app, ph_app, ph_app, ph_app, tl_mk', hl, c1, c2, c3]
      omega
    · rw [e1, c4, c3]
      omega
  · have key : ∀ a b : Str, ph (TL.tl a) + ph (TL.tl b) ≠ 0 → ph (TL.tl (a ++ mk l ++ b)) ≠ -1 := fun a b h => by
      rw [e1]
      omega
    simp only [nest2, nest3, List.mem_append, List.mem_cons, List.not_mem_nil, or_false] at h
    rcases h with (rfl | rfl | rfl | rfl) | rfl | rfl | rfl | rfl
    · exact key _ _ (by decide +kernel)
    · exact key _ _ (by decide +kernel)
    · exact key _ _ (by decide +kernel)
    · exact key _ _ (by decide +kernel)
    · exact key _ _ (by decide +kernel)
    · exact key _ _ (by decide +kernel)
    · exact key _ _ (by decide +kernel)
    · exact key _ _ (by decide +kernel)
/-! rows of one word -/
theorem spl_one {s : Nat} : ∀ {l acc x : List Nat}, TL.spl [s] 0 acc l = [x] → x = acc ++ l
  | [], acc, x, h => by
    rw [TL.spl_nil] at h
    cases h
    rw [List.append_nil]
  | c :: r, acc, x, h => by
    cases hp : TL.pre [s] (c :: r) with
    | true =>
      rw [TL.spl_hit hp] at h
      injection h with h1 h2
      exact absurd h2 (spl_small s r []).1
    | false =>
      rw [TL.spl_miss hp] at h
      rw [spl_one h, List.append_assoc]
      rfl
theorem split_eq (z : Str) : Txt.split z " " = (TL.spl [32] 0 [] (TL.tl z)).map mk := by
  have := SX.split_S (a := TL.tl z) (b := [32]) (by simp) (by decide)
  rw [sp_eq, ← this]
theorem split_one {z x : Str} (h : Txt.split z " " = [x]) : x = z := by
  rw [split_eq] at h
  cases e : TL.spl [32] 0 [] (TL.tl z) with
  | nil =>
    rw [e] at h
    cases h
  | cons a r =>
    rw [e] at h
    injection h with h1 h2
    have hr : r = [] := List.map_eq_nil_iff.mp h2
    subst hr
    have := spl_one e
    rw [← h1, this]
    exact mk_tl' z
theorem split_self {z : Str} (h : 32 ∉ TL.tl z) : Txt.split z " " = [z] := split_of [z] (by simp) (by simpa using h) rfl
/-- no row is taken but by its weight -/
theorem takeR_ph {z : Str} (h : ph (TL.tl z) ≠ -1) : takeR (Txt.split z " ") false = none := by
  unfold takeR
  by_cases hl : (Txt.split z " ").length = 1
  · obtain ⟨x, hx⟩ := List.length_eq_one_iff.mp hl
    have e := split_one hx
    subst e
    rw [hx, if_neg (by simp)]
    have e2 : nodeM 10 9 (([x] : List Str).getD 0 "").cps.toList = nodeM 10 9 (TL.tl x) := rfl
    rw [e2]
    cases hn : nodeM 10 9 (TL.tl x) with
    | none => rfl
    | some s =>
      obtain ⟨r, m⟩ := s
      cases r with
      | nil => exact absurd (nodeM_ph _ _ _ _ hn) h
      | cons c r => rfl
  · rw [if_pos (.inr hl)]
end Fy
/-! Tw2 -/
/-! terms, plain: what reading makes of the law's texts -/
namespace Fy
open PySem
abbrev stepR : List Str → Int → Bool → Option Bool := fun zs _ s => takeR zs s
theorem readRL_run {rows : List Str} {rest : Str} : readRL (rows ++ [rest]) = match runM stepR (rows.map fun z => Txt.split z " ") 1 false with
    | .error n => some n
    | .ok s => if rest ≠ "" ∨ s = false then some ((rows.length : Int) + 1) else none := by
  unfold readRL readM
  have e : (rows ++ [rest]).getLastD "" = rest := by simp
  rw [List.dropLast_concat, e]
  have e3 : runM (fun zs _ (s : Bool) => takeR zs s) (rows.map fun z => Txt.split z " ") 1 false = runM stepR (rows.map fun z => Txt.split z " ") 1 false := rfl
  rw [e3]
  cases runM stepR (rows.map fun z => Txt.split z " ") 1 false with
  | error n => rfl
  | ok s => rfl
theorem readRL_one {z rest : Str} {o : Option Bool} (h : takeR (Txt.split z " ") false = o) : readRL [z, rest] = match o with
    | none => some 1
    | some s => if rest ≠ "" ∨ s = false then some 2 else none := by
  have e := readRL_run (rows := [z]) (rest := rest)
  have e' : ([z] : List Str) ++ [rest] = [z, rest] := rfl
  rw [e'] at e
  rw [e]
  cases o with
  | none =>
    have : runM stepR ([z].map fun z => Txt.split z " ") 1 false = .error 1 := by
      rw [List.map_cons]
      simp only [runM, h]
    rw [this]
  | some s =>
    have : runM stepR ([z].map fun z => Txt.split z " ") 1 false = .ok s := by
      rw [List.map_cons, List.map_nil]
      simp only [runM, h]
    rw [this]
    rfl
theorem readRL_two {z y rest : Str} (h : takeR (Txt.split z " ") false = some true) : readRL [z, y, rest] = some 2 := by
  have h2 : takeR (Txt.split y " ") true = none := by
    unfold takeR
    rw [if_pos (.inl rfl)]
  have e := readRL_run (rows := [z, y]) (rest := rest)
  have e' : ([z, y] : List Str) ++ [rest] = [z, y, rest] := rfl
  rw [e'] at e
  have : runM stepR ([z, y].map fun z => Txt.split z " ") 1 false = .error 2 := by
    rw [List.map_cons, List.map_cons, List.map_nil]
    simp only [runM, h, h2]
    rfl
  rw [e, this]
theorem readRL_none {z : Str} : readRL [z] = some 1 := by
  have e := readRL_run (rows := []) (rest := z)
  have e' : ([] : List Str) ++ [z] = [z] := rfl
  rw [e'] at e
  rw [e]
  show (if z ≠ "" ∨ false = false then some (((([] : List Str).length : Nat) : Int) + 1) else none) = _
  rw [if_pos (.inr rfl)]
  rfl
/-- the signs of forms -/
theorem w1_cl : ∀ i < 5, Cl (w1.getD i "") := by unfold Cl; decide +kernel
theorem w2_cl : ∀ s, Cl (w2 s) := by unfold Cl; decide +kernel
theorem sg_cl : ∀ s, Cl (sg s) := by unfold Cl; decide +kernel
theorem mix_cl : ∀ a b c d, Cl (mix a b c d) := by unfold Cl; decide +kernel
theorem lit_cl : Cl ("in" : Str) ∧ Cl ("(" : Str) ∧ Cl (")" : Str) ∧ Cl ("," : Str) ∧ Cl ("late(" : Str) ∧ Cl ("by(" : Str) := by unfold Cl; decide +kernel
theorem Cl.app {a b : Str} (h1 : Cl a) (h2 : Cl b) : Cl (a ++ b) := by
  refine ⟨?_, ?_⟩
  · rw [TL.tl_append]
    intro h
    exact (List.mem_append.mp h).elim h1.1 h2.1
  · rw [TL.tl_append]
    intro h
    exact (List.mem_append.mp h).elim h1.2 h2.2
theorem tm_cl : ∀ t : Tm, Cl (tmT t)
  | .inn => lit_cl.1
  | .one i h t => (((w1_cl i h).app lit_cl.2.1).app (tm_cl t)).app lit_cl.2.2.1
  | .late s t => (((lit_cl.2.2.2.2.1.app (sg_cl s)).app lit_cl.2.2.2.1).app (tm_cl t)).app lit_cl.2.2.1
  | .by4 a b c d x y => (((((lit_cl.2.2.2.2.2.app (mix_cl a b c d)).app lit_cl.2.2.2.1).app (tm_cl x)).app lit_cl.2.2.2.1).app (tm_cl y)).app lit_cl.2.2.1
  | .two s x y => (((((w2_cl s).app lit_cl.2.1).app (tm_cl x)).app lit_cl.2.2.2.1).app (tm_cl y)).app lit_cl.2.2.1
theorem take_tm {t : Tm} (h : t.size ≤ 9) : takeR (Txt.split (tmT t) " ") false = some true := by
  rw [split_self (tm_cl t).1]
  have e := tm_node h
  show (if (false = true ∨ ([tmT t] : List Str).length ≠ 1) then none else match nodeM 10 9 (TL.tl (tmT t)) with
    | some ([], _) => some true
    | _ => none) = _
  rw [if_neg (by simp), e]
/-- no end of line in odd forms -/
theorem odd_nl {l : List Nat} {o : Str} (hl : 10 ∉ l) (h : OddF l o) : 10 ∉ TL.tl o := by
  have ap : ∀ {a b : Str}, 10 ∉ TL.tl a → 10 ∉ TL.tl b → 10 ∉ TL.tl (a ++ b) := fun h1 h2 h => by
    rw [TL.tl_append] at h
    exact (List.mem_append.mp h).elim h1 h2
  have i1 : ∀ s ∈ insS, 10 ∉ TL.tl s := by decide +kernel
  have i2 : ∀ s ∈ endS, 10 ∉ TL.tl s := by decide +kernel
  have hm : 10 ∉ TL.tl (mk l) := hl
  have lt : ∀ k, 10 ∉ TL.tl (mk (l.take k)) := fun k h => hl (List.mem_of_mem_take h)
  have ld : ∀ k, 10 ∉ TL.tl (mk (l.drop k)) := fun k h => hl (List.mem_of_mem_drop h)
  rcases h with ⟨k, hk, rfl⟩ | ⟨k, hk, s, hs, rfl⟩ | ⟨s, hs, rfl⟩ | h | h
  · exact ap (lt _) (ld _)
  · exact ap (ap (lt _) (i1 s hs)) (ld _)
  · exact ap hm (i2 s hs)
  · simp only [nest1, List.mem_cons, List.not_mem_nil, or_false] at h
    rcases h with rfl | rfl | rfl | rfl
    · exact ap (by decide +kernel) hm
    · exact ap (ap hm (by decide +kernel)) hm
    · exact ap (ap (ap (ap (by decide +kernel) hm) (by decide +kernel)) hm) (by decide +kernel)
    · exact ap (ap (by decide +kernel) hm) (by decide +kernel)
  · simp only [nest2, nest3, List.mem_append, List.mem_cons, List.not_mem_nil, or_false] at h
    rcases h with (rfl | rfl | rfl | rfl) | rfl | rfl | rfl | rfl
    all_goals exact ap (ap (by decide +kernel) hm) (by decide +kernel)
theorem odd_len {l : List Nat} {o : Str} (hl : l.length ≤ 100) (h : OddF l o) : o.length ≤ 300 := by
  have i1 : ∀ s ∈ insS, s.length ≤ 20 := by decide +kernel
  have i2 : ∀ s ∈ endS, s.length ≤ 20 := by decide +kernel
  have hm : (mk l).length = l.length := mk_len l
  have lt : ∀ k, (mk (l.take k)).length ≤ 100 := fun k => by rw [mk_len, List.length_take]; omega
  have ld : ∀ k, (mk (l.drop k)).length ≤ 100 := fun k => by rw [mk_len, List.length_drop]; omega
  have n1 : ("not(" : Str).length = 4 ∧ ("," : Str).length = 1 ∧ (")" : Str).length = 1 := by decide +kernel
  have key : ∀ {a b : Str}, a.length ≤ 50 → b.length ≤ 50 → (a ++ mk l ++ b).length ≤ 300 := fun h1 h2 => by
    rw [app_len, app_len]
    omega
  rcases h with ⟨k, hk, rfl⟩ | ⟨k, hk, s, hs, rfl⟩ | ⟨s, hs, rfl⟩ | h | h
  · have := lt k
    have := ld (k + 1)
    rw [app_len]
    omega
  · have := lt k
    have := ld k
    have := i1 s hs
    rw [app_len, app_len]
    omega
  · have := i2 s hs
    rw [app_len]
    omega
  · simp only [nest1, List.mem_cons, List.not_mem_nil, or_false] at h
    rcases h with rfl | rfl | rfl | rfl
    · rw [app_len]
      omega
    · rw [app_len, app_len]
      omega
    · rw [app_len, app_len, app_len, app_len]
      omega
    · exact key (by decide +kernel) (by decide +kernel)
  · simp only [nest2, nest3, List.mem_append, List.mem_cons, List.not_mem_nil, or_false] at h
    rcases h with (rfl | rfl | rfl | rfl) | rfl | rfl | rfl | rfl
    all_goals exact key (by decide +kernel) (by decide +kernel)
/-- a text of one line, its end of line behind it -/
theorem line_ok {z : Str} (hl : z.length ≤ 600) (hn : 10 ∉ TL.tl z) : SplitOk (z ++ ("\n" : Str)) ∧ readR (z ++ ("\n" : Str)) = readRL [z, ""] := by
  have h := whole_ok (zs := [z]) (by simp) fun y hy => by
    rw [List.mem_singleton.mp hy]
    exact ⟨hl, hn⟩
  have e : whole [z] = z ++ ("\n" : Str) := by
    refine TL.ext_tl ?_
    rw [tl_whole, TL.tl_append, nl_eq]
    simp
  rw [e] at h
  exact ⟨h.1, h.2.2⟩
theorem joined_ok {zs : List Str} {y : Str} (hne : zs ≠ []) (hl : zs.length ≤ 900) (hz : ∀ z ∈ zs, z.length ≤ 600 ∧ 10 ∉ TL.tl z) (e : TL.tl y = TL.joinL [10] (zs.map TL.tl)) : SplitOk y ∧ readR y = readRL zs := by
  have e2 : y = Txt.join "\n" zs := TL.ext_tl (by rw [TL.join_eq, TL.tl_join, nl_eq]; exact e)
  rw [e2]
  have := bare_ok hne hl hz
  exact ⟨this.1, this.2.2⟩
theorem odd_due {t : Tm} (h : t.size ≤ 9) {o : Str} (ho : OddF (TL.tl (tmT t)) o) : SplitOk (o ++ ("\n" : Str)) ∧ readR (o ++ ("\n" : Str)) = some 1 := by
  have hl : (TL.tl (tmT t)).length ≤ 100 := by
    have := tmT_len t
    rw [TL.len_tl] at this
    omega
  have h1 := line_ok (Nat.le_trans (odd_len hl ho) (by decide)) (odd_nl (tm_cl t).2 ho)
  refine ⟨h1.1, ?_⟩
  rw [h1.2, readRL_one (takeR_ph (odd_ph (tm_ph h) ho))]
/-- the texts of the law's dues, and the lines -/
def duesT (z : Str) : List (Str × Int) := [(z, 1), (z ++ ("\n\n" : Str), 2), (z ++ ("\nin\n" : Str), 2), (z ++ ("\nx" : Str), 2), ("\n", 1), ("", 1), (("\n" : Str) ++ z, 1)]
theorem empty_bad : takeR (Txt.split "" " ") false = none := takeR_ph (by decide +kernel)
theorem nl_lits : TL.tl ("\n\n" : Str) = [10, 10] ∧ TL.tl ("\nin\n" : Str) = 10 :: (TL.tl ("in" : Str) ++ [10]) ∧ TL.tl ("\nx" : Str) = 10 :: TL.tl ("x" : Str) ∧ TL.tl ("\n" : Str) = [10] ∧ TL.tl ("" : Str) = [] := by decide +kernel
theorem dues_ok {t : Tm} (h : t.size ≤ 9) : ∀ x ∈ duesT (tmT t), SplitOk x.1 ∧ readR x.1 = some x.2 := by
  have hz : (tmT t).length ≤ 600 ∧ 10 ∉ TL.tl (tmT t) := ⟨by have := tmT_len t; omega, (tm_cl t).2⟩
  have h0 : ("" : Str).length ≤ 600 ∧ 10 ∉ TL.tl ("" : Str) := by decide +kernel
  have hx : ("x" : Str).length ≤ 600 ∧ 10 ∉ TL.tl ("x" : Str) := by decide +kernel
  have hi : ("in" : Str).length ≤ 600 ∧ 10 ∉ TL.tl ("in" : Str) := by decide +kernel
  have tk := take_tm h
  obtain ⟨n1, n2, n3, n4, n5⟩ := nl_lits
  have xne : ("x" : Str) ≠ "" := by decide +kernel
  intro x hm
  simp only [duesT, List.mem_cons, List.not_mem_nil, or_false] at hm
  rcases hm with rfl | rfl | rfl | rfl | rfl | rfl | rfl
  · have := joined_ok (zs := [tmT t]) (y := tmT t) (by simp) (by simp) (all_cons hz all_nil) rfl
    exact ⟨this.1, by rw [this.2, readRL_none]⟩
  · have := joined_ok (zs := [tmT t, "", ""]) (y := tmT t ++ ("\n\n" : Str)) (by simp) (by simp) (all_cons hz (all_cons h0 (all_cons h0 all_nil))) (by
      rw [TL.tl_append, n1]
      show _ = TL.tl (tmT t) ++ ([10] ++ (TL.tl ("" : Str) ++ ([10] ++ TL.tl ("" : Str))))
      rw [n5]
      rfl)
    exact ⟨this.1, by rw [this.2, readRL_two tk]⟩
  · have := joined_ok (zs := [tmT t, "in", ""]) (y := tmT t ++ ("\nin\n" : Str)) (by simp) (by simp) (all_cons hz (all_cons hi (all_cons h0 all_nil))) (by
      rw [TL.tl_append, n2]
      show _ = TL.tl (tmT t) ++ ([10] ++ (TL.tl ("in" : Str) ++ ([10] ++ TL.tl ("" : Str))))
      rw [n5]
      rfl)
    exact ⟨this.1, by rw [this.2, readRL_two tk]⟩
  · have := joined_ok (zs := [tmT t, "x"]) (y := tmT t ++ ("\nx" : Str)) (by simp) (by simp) (all_cons hz (all_cons hx all_nil)) (by
      rw [TL.tl_append, n3]
      rfl)
    refine ⟨this.1, ?_⟩
    rw [this.2, readRL_one tk]
    exact if_pos (.inl xne)
  · have := joined_ok (zs := ["", ""]) (y := "\n") (by simp) (by simp) (all_cons h0 (all_cons h0 all_nil)) (by
      rw [n4]
      show _ = TL.tl ("" : Str) ++ ([10] ++ TL.tl ("" : Str))
      rw [n5]
      rfl)
    exact ⟨this.1, by rw [this.2, readRL_one empty_bad]⟩
  · have := joined_ok (zs := [""]) (y := "") (by simp) (by simp) (all_cons h0 all_nil) rfl
    exact ⟨this.1, by rw [this.2, readRL_none]⟩
  · have := joined_ok (zs := ["", tmT t]) (y := ("\n" : Str) ++ tmT t) (by simp) (by simp) (all_cons h0 (all_cons hz all_nil)) (by
      rw [TL.tl_append, n4]
      show _ = TL.tl ("" : Str) ++ ([10] ++ TL.tl (tmT t))
      rw [n5]
      rfl)
    exact ⟨this.1, by rw [this.2, readRL_one empty_bad]⟩
/-- nine nodes, and ten -/
def nine : Str := Txt.mul "not(" 8 ++ ("in" : Str) ++ Txt.mul ")" 8
def nineT : Tm := .one 0 (by decide) (.one 0 (by decide) (.one 0 (by decide) (.one 0 (by decide) (.one 0 (by decide) (.one 0 (by decide) (.one 0 (by decide) (.one 0 (by decide) .inn)))))))
theorem nine_eq : TL.tl nine = TL.tl (tmT nineT) := by decide +kernel
theorem nine_len : nine.length ≤ 100 ∧ 10 ∉ TL.tl nine := by decide +kernel
theorem form_due {t : Tm} (h : t.size ≤ 9) : SplitOk (tmT t ++ ("\n" : Str)) ∧ readR (tmT t ++ ("\n" : Str)) = none := by
  have h1 := line_ok (z := tmT t) (by have := tmT_len t; omega) (tm_cl t).2
  refine ⟨h1.1, ?_⟩
  rw [h1.2, readRL_one (take_tm h)]
  exact if_neg (by simp)
theorem nine_due : SplitOk (nine ++ ("\n" : Str)) ∧ readR (nine ++ ("\n" : Str)) = none := by
  have e : nine = tmT nineT := TL.ext_tl nine_eq
  rw [e]
  exact form_due (by decide)
def ten : Str := ("twice(" : Str) ++ nine ++ (")\n" : Str)
theorem ten_due : SplitOk ten ∧ readR ten = some 1 := by
  have e : ten = (("twice(" : Str) ++ nine ++ (")" : Str)) ++ ("\n" : Str) := TL.ext_tl (by
    have : TL.tl (")\n" : Str) = TL.tl (")" : Str) ++ TL.tl ("\n" : Str) := by decide +kernel
    unfold ten
    rw [TL.tl_append, TL.tl_append, TL.tl_append, TL.tl_append, TL.tl_append, this]
    simp)
  have hc : 32 ∉ TL.tl (("twice(" : Str) ++ nine ++ (")" : Str)) := by decide +kernel
  have h1 := line_ok (z := ("twice(" : Str) ++ nine ++ (")" : Str)) (by decide +kernel) (by decide +kernel)
  rw [e]
  refine ⟨h1.1, ?_⟩
  rw [h1.2]
  have : nodeM 10 9 (TL.tl (("twice(" : Str) ++ nine ++ (")" : Str))) = none := by decide +kernel
  have e2 : takeR (Txt.split (("twice(" : Str) ++ nine ++ (")" : Str)) " ") false = none := by
    rw [split_self hc]
    show (if (false = true ∨ ([("twice(" : Str) ++ nine ++ (")" : Str)] : List Str).length ≠ 1) then none else match nodeM 10 9 (TL.tl (("twice(" : Str) ++ nine ++ (")" : Str))) with
      | some ([], _) => some true
      | _ => none) = _
    rw [if_neg (by simp), this]
  rw [readRL_one e2]
end Fy
/-! L15 -/
namespace Fy
open PySem PySem.Spec PyProof.Rows L2 LamX
def rMulS : L2.R2 := fun x y H Q => ∃ (i : Str) (n : Int), x = .str i ∧ y = .int n ∧ MulOk i n ∧ Q (.str (Txt.mul i n)) H
theorem op_mulS {X : Cx} : OpR X (binaryOp .Mult) rMulS := by
  intro pins s σ H x y v u Q I rx ry h
  obtain ⟨i, n, rfl, rfl, hok, q⟩ := h
  obtain ⟨t, rfl⟩ := rx
  obtain ⟨t', rfl⟩ := ry
  exact SB.mul hok fun t' k => ⟨.str (Txt.mul i n), H, I.tok _, ⟨_, rfl⟩, q⟩
theorem er_mulS {Z : Ez} {σ : L2.St} {H : Hp} {ta tb : TE} {a : Str} {n : Int} (ha : Er Z ta σ H (· = .s a)) (hb : Er Z tb σ H (· = .i n)) (hok : MulOk a n) : Er Z (tOp rMulS ta tb) σ H (· = .s (Txt.mul a n)) :=
  er_op ha hb fun _ _ x y H1 _ j e1 e2 rx ry Q q => by
    subst e1 e2
    exact ⟨a, n, rx, ry, hok, q _ _ H1 Gr.refl j rfl rfl⟩
/-- a comprehension: what is under way is a list -/
theorem er_lcL {Z : Ez} {wi : TI} {g : TG} {tt : TT} {te : TE} {vs : List Nat} {σ : L2.St} {H : Hp} {P : List PT → Prop} {f : PT → Bool} {R : PT → PT → Prop} (hi : Ei Z wi σ H P) (hl : ∀ ts, P ts → ts.length ≤ sizeLine)
    (hg : ∀ ts D yy t x H1 (Kt : L2.St → Hp → Prop), P ts → t ∈ ts → Fresh H D → Gr Z H H1 → (Z.acc D (.lst yy)).J H1 → Rep (Z.acc D (.lst yy)) H1 t x →
      (∀ σ2, wipe σ2 vs = wipe σ vs → Eb (Z.acc D (.lst yy)) tt σ2 H1 (· = f t) → (f t = true → Er (Z.acc D (.lst yy)) te σ2 H1 (R t)) → Kt σ2 H1) → g x (wipe σ vs) H1 Kt) :
    Er Z (tLc wi g tt te vs) σ H (fun t => ∃ ts us, P ts ∧ t = .l us ∧ Paired R (ts.filter f) us) := by
  intro H0 g0 j0 Q q
  refine hi H0 g0 j0 _ fun J ts xs H1 g1 j1 p rs S => ?_
  intro D hD
  have hl1 : xs.length = ts.length := rs.length
  have gH1 : Gr Z H H1 := g0.trans g1
  have hDH : Fresh H D := gH1.back j1 hD
  have hD1 : Fresh H1 D := Fresh.of hD
  refine ⟨fun i m H' => m = ts.length - i ∧ i ≤ ts.length ∧ Gr Z H1 H' ∧ Z.J H' ∧ ∃ ys us, H' D = some (.lst ys) ∧ RepL (Z.acc D (.lst [])) H' us ys ∧ ys.length ≤ i ∧ Paired R ((ts.take i).filter f) us,
    ⟨ts.length, by simp, Nat.zero_le _, Gr.new hD, Z.jnew j1 hD, [], [], upd_same, rfl, Nat.le_refl _, .nil⟩, ?_⟩
  rintro i m H' ⟨rfl, hile, gg, jj, ys, us, hd, ru, hyl, hp⟩
  by_cases hlt : i < ts.length
  · refine .inr ⟨S.go i H' gg (by omega), fun H' => i + 1 ≤ ts.length ∧ Gr Z H1 H' ∧ Z.J H' ∧ ∃ ys us, H' D = some (.lst ys) ∧ RepL (Z.acc D (.lst [])) H' us ys ∧ ys.length ≤ i + 1 ∧ Paired R ((ts.take (i + 1)).filter f) us, fun H' p' => ⟨ts.length - (i + 1), by omega, rfl, p'⟩, fun x H2 y => ?_⟩
    obtain ⟨e, hx⟩ := S.yld i H' x H2 gg (by omega) y
    subst e
    obtain ⟨t, ht, rt⟩ := rs.get' hx
    have rt2 : Rep (Z.acc D (.lst ys)) H2 t x := (rt.acc hD1).mono gg.acc
    have htk : ts.take (i + 1) = ts.take i ++ [t] := by rw [List.take_add_one, ht]; rfl
    refine hg ts D ys t x H2 _ p (List.mem_of_getElem? ht) hDH (gH1.trans gg) ⟨jj, hd⟩ rt2 fun σ2 hw hb he => ⟨hw, ?_⟩
    refine hb H2 Gr.refl ⟨jj, hd⟩ _ fun b H3 g3 j3 eb => ?_
    have gg3 : Gr Z H1 H3 := Gr.unacc hD1 gg g3
    subst eb
    cases hf : f t with
    | true =>
      rw [if_pos rfl]
      refine he hf H3 g3 j3 _ fun w v H4 g4 j4 pw rw4 => ?_
      refine ⟨ys, j4.2, by have := hl ts p; omega, hlt, Gr.putn hD1 (Gr.unacc hD1 gg3 g4), Z.jn (Z.fresh j1 hD) (.inr ⟨_, j4.2⟩) j4.1, ys ++ [v], us ++ [w], upd_same, ?_, by rw [List.length_append]; simp; omega, ?_⟩
      · have g5 : Gr (Z.acc D (.lst ys)) H2 (upd H4 D (.lst (ys ++ [v]))) := (g3.trans g4).trans Gr.putacc
        exact RepL.app ((RepL.reacc (u := .lst ys) ru).mono g5).reacc (RepL.one (rw4.mono Gr.putacc).reacc)
      · rw [htk, List.filter_append]
        refine paired_app hp ?_
        rw [List.filter_cons_of_pos hf]
        exact .cons pw .nil
    | false =>
      rw [if_neg (by decide)]
      refine ⟨hlt, gg3, j3.1, ys, us, j3.2, (RepL.reacc (u := .lst ys) ru).mono g3 |>.reacc, by omega, ?_⟩
      rw [htk, List.filter_append, List.filter_cons_of_neg (by simp [hf]), List.filter_nil, List.append_nil]
      exact hp
  · have e : i = ts.length := by omega
    subst e
    rw [List.take_length] at hp
    refine .inl ⟨by rw [← hl1]; exact S.stop H' gg, q (.l us) (.ref D) H' (g1.trans gg) jj ⟨ts, us, p, rfl, hp⟩ ⟨D, ys, rfl, Z.fresh j1 hD, hd, ru.unacc⟩⟩
/-- .. in a comprehension's block: K named -/
theorem pe_toldK {X : Cx} {K : PySem.W.Frag} {mg : Str → Option Value} {base : Heap} {x : Str} {k : Nat} {params : Arguments} {body : Expr} {scope : Scope} {t : XK → TE} {p lpos pos : Pos} (T : Tx K mg) (LA : LamAt base K mg) (hK : X.K = K) (hM : X.mg = mg) (hB : X.base = base) (hx : x ∈ lamNames) (hcode : X.env.code = .ref (He.cT X.K (x, none)).1) (hq : X.env.qual = x ++ (".<locals>." : Str))
    (hg : Gl X "_law_told") (hr : Room (k + 2) X.A) (L : LamS X.env.scope scope) (hdef : defaultsOf params X.env = ([], [])) (hbind : ∀ (q : Str) (cl : List (Str × Addr)) (pm cv ctv : Value), bindArgs (PySem.W.kla_fn "<lambda>" q params body scope cl pm cv ctv) ⟨[], []⟩ = pure [])
    (hbody : ∀ (A : Around) (outer : List Env) (s : Shared) (H : Hp) (E : XK) (f c' : Addr), Room k (A.deeper (lamEnv X scope s.heap.objs.size f c')) → PE (lamCx X A outer s H E scope f c') body (t E)) :
    PE X (.Call (.Name "_law_told" p) [.Lambda params body scope lpos] [] pos) (tLam (lamT K) (TTold92 K) t) := by
  subst hK hM hB
  exact pe_told T LA hx hcode hq hg hr L hdef hbind hbody
def duP (x : Str × Int) : PT := .u [.s x.1, .i x.2]
def duR : PT → PT
  | .u [_, u] => u
  | t => t
def duV : List PT := [.i 1, .i 2, .i 2, .i 2, .i 1, .i 1, .i 1]
theorem duV_sh : ShP (.l duV) := ⟨rfl, by decide +kernel⟩
theorem duV_eq : PyData.eqv (datP (.l duV)) (datP (.l duV)) = true := by decide +kernel
theorem dues_snd (z : Str) : (duesT z).map (fun x => PT.i x.2) = duV := rfl
theorem mulOk8 : MulOk "not(" 8 ∧ MulOk ")" 8 := by unfold MulOk; decide +kernel
section
variable {P : Program} {w : World} {K : PySem.W.Frag} {mg : Str → Option Value} {base : Heap}
def pre_termsr (K : PySem.W.Frag) : Ez → List PT → (PT → Prop) → Prop := fun Z ts P => ∃ (p : Addr) (t : Tm), LawZ (lamT K) Z ∧ HasPot Z p ∧ t.size ≤ 9 ∧ ts = [.r p, .s (tmT t)] ∧ P (.b true)
theorem sc__law_terms_right : FnScope ["_law_pot_here", "_law_form", "_law_turn", "_law_odd", "_law_dues", "_law_shown", "_law_due", "_law_nine"] ["_law_pot_here", "_law_form"] (defScope s__law_terms_right) := ⟨rfl, rfl, rfl, by decide +kernel, rfl, by decide +kernel, by decide +kernel⟩
theorem ok__law_terms_right (T : Tx K mg) (PA : PartsAt w K mg) (LA : LamAt base K mg) : Has P w K mg base CX0 20 "_law_terms_right" ["_law_pot_here", "_law_form"] (spR K (pre_termsr K)) := by
  obtain ⟨f, fd, F, g⟩ := T.d__law_terms_right
  have ef := T.x_ga "_law_terms_right" (by simp) f g
  subst ef
  refine ⟨_, fd, g, F.kp, F.bindsN (ps := ["_law_pot_here", "_law_form"]) (fun _ _ _ _ _ _ us hl => match us, hl with | [_, _], _ => rfl), ?_⟩
  refine okC F sc__law_terms_right (fun vs H Q E h => ?_) (fun A outer s H vs Q E hr h => ?_)
  · obtain ⟨Z, ts, P', _, _, rs, ⟨p, t, _, _, _, rfl, _⟩, _⟩ := h
    exact rs.length
  · obtain ⟨Z, ts, P', rfl, j, rs, ⟨p, tm, hz, hpot, hsz, rfl, hP⟩, k⟩ := h
    obtain ⟨vp, _, rfl, rp, vf, _, rfl, rf, rfl⟩ := rs
    refine ⟨_, PSs.nox (pss_cons (ps_for PassesOwn.never rfl (pi_range1 rfl T.n_range (pa_cons pe_int pa_nil)) (pg_name (i := 2) sc__law_terms_right.nd rfl (Or.inl rfl)) (pss_cons (ps_set (i := 3) sc__law_terms_right.nd rfl (Or.inr rfl) (pe_has (ok__law_odd_term T) (hr.mono (by decide)) pass0 (pa_cons (pv 0) (pa_cons (pv 1) pa_nil))))
      (pss_cons (ps_if (pt_cmpR op_ne (pe_told (x := "_law_terms_right") (k := 17) T LA (by simp [lamNames]) rfl rfl (by rfl) (hr.mono (by decide)) (lamS_by (sc := defScope s__law_terms_right) (by decide +kernel)) (by rfl) (fun _ _ _ _ _ => rfl) (fun A outer s H E f c' hr => (pe_has (ok_read_term T PA) (hr.mono (by decide)) (passes_call (takes_of rfl rfl rfl rfl) (fun _ _ _ _ h => h)) (pa_cons (pe_op op_add_str (pv 3) pe_str) pa_nil)))) pe_int (nomark _)) (pss_one (ps_ret pe_bl)) pss_nil)
      (pss_one (ps_if (pt_cmpR op_ne (pe_told (x := "_law_terms_right") (k := 17) T LA (by simp [lamNames]) rfl rfl (by rfl) (hr.mono (by decide)) (lamS_by (sc := defScope s__law_terms_right) (by decide +kernel)) (by rfl) (fun _ _ _ _ _ => rfl) (fun A outer s H E f c' hr => (pe_hasK (hk_read_term T PA) (hr.mono (by decide)) (passes_call (takes_of rfl rfl rfl rfl) (fun _ _ _ _ h => h)) (pe_op op_add_str (pv 3) pe_str)))) pe_int (nomark _)) (pss_one (ps_ret pe_bl)) pss_nil)))))
      (pss_cons (ps_set (i := 4) sc__law_terms_right.nd rfl (Or.inl rfl) (pe_lst (pa_cons (pe_tup (pa_cons (pv 1) (pa_cons pe_int pa_nil))) (pa_cons (pe_tup (pa_cons (pe_op op_add_str (pv 1) pe_str) (pa_cons pe_int pa_nil))) (pa_cons (pe_tup (pa_cons (pe_op op_add_str (pv 1) pe_str) (pa_cons pe_int pa_nil))) (pa_cons (pe_tup (pa_cons (pe_op op_add_str (pv 1) pe_str) (pa_cons pe_int pa_nil))) (pa_cons (pe_tup (pa_cons pe_str (pa_cons pe_int pa_nil))) (pa_cons (pe_tup (pa_cons pe_str (pa_cons pe_int pa_nil))) (pa_cons (pe_tup (pa_cons (pe_op op_add_str pe_str (pv 1)) (pa_cons pe_int pa_nil))) pa_nil)))))))))
      (pss_cons (ps_if (pt_cmpR (op_neD hr.units) (pe_lc (own := [("_law_shown", 5), ("_law_due", 6)]) (g := gTup Z.K 2 (gCons (gName 5) (gCons (gName 6) gNil))) (tt := tYes) rfl sc__law_terms_right.nd (pi_listK (K := Z.K) (pv 4)) (blkOk_by (N := ["_law_pot_here", "_law_form", "_law_turn", "_law_odd", "_law_dues", "_law_shown", "_law_due", "_law_nine"]) (sc := defScope s__law_terms_right) (by decide +kernel)) (fun _ _ _ _ _ => pg_tup rfl (pgs_cons (pg_name (i := 5) sc__law_terms_right.nd rfl (Or.inr rfl)) (pgs_cons (pg_name (i := 6) sc__law_terms_right.nd rfl (Or.inl rfl)) pgs_nil))) (fun _ _ _ _ _ => pts_nil) (fun _ _ _ _ _ => (pe_toldK (K := Z.K) (x := "_law_terms_right") (k := 17) T LA rfl rfl rfl (by simp [lamNames]) rfl rfl (by rfl) (hr.mono (by decide)) (lamS_by (by kernel_rfl)) (by rfl) (fun _ _ _ _ _ => rfl) (fun A outer s H E f c' hr => (pe_has (ok_read_term T PA) (hr.mono (by decide)) (passes_call (takes_of rfl rfl rfl rfl) (fun _ _ _ _ h => h)) (pa_cons (pv 5) pa_nil)))))) (pe_lc (own := [("_law_shown", 5), ("_law_due", 6)]) (g := gTup Z.K 2 (gCons (gName 5) (gCons (gName 6) gNil))) (tt := tYes) rfl sc__law_terms_right.nd (pi_listK (K := Z.K) (pv 4)) (blkOk_by (N := ["_law_pot_here", "_law_form", "_law_turn", "_law_odd", "_law_dues", "_law_shown", "_law_due", "_law_nine"]) (sc := defScope s__law_terms_right) (by decide +kernel)) (fun _ _ _ _ _ => pg_tup rfl (pgs_cons (pg_name (i := 5) sc__law_terms_right.nd rfl (Or.inl rfl)) (pgs_cons (pg_name (i := 6) sc__law_terms_right.nd rfl (Or.inl rfl)) pgs_nil))) (fun _ _ _ _ _ => pts_nil) (fun _ _ _ _ _ => (pv 6))) (nomark _)) (pss_one (ps_ret pe_bl)) pss_nil)
      (pss_cons (ps_set (i := 7) sc__law_terms_right.nd rfl (Or.inr rfl) (pe_op op_add_str (pe_op op_add_str (pe_op op_mulS pe_str pe_int) pe_str) (pe_op op_mulS pe_str pe_int)))
      (pss_cons (ps_if (pt_cmpR op_ne (pe_told (x := "_law_terms_right") (k := 17) T LA (by simp [lamNames]) rfl rfl (by rfl) (hr.mono (by decide)) (lamS_by (sc := defScope s__law_terms_right) (by decide +kernel)) (by rfl) (fun _ _ _ _ _ => rfl) (fun A outer s H E f c' hr => (pe_has (ok_read_term T PA) (hr.mono (by decide)) (passes_call (takes_of rfl rfl rfl rfl) (fun _ _ _ _ h => h)) (pa_cons (pe_op op_add_str (pe_op op_add_str pe_str (pv 7)) pe_str) pa_nil)))) pe_int (nomark _)) (pss_one (ps_ret pe_bl)) pss_nil)
      (pss_cons (ps_if (pt_cmpR op_ne (pe_told (x := "_law_terms_right") (k := 17) T LA (by simp [lamNames]) rfl rfl (by rfl) (hr.mono (by decide)) (lamS_by (sc := defScope s__law_terms_right) (by decide +kernel)) (by rfl) (fun _ _ _ _ _ => rfl) (fun A outer s H E f c' hr => (pe_has (ok_read_term T PA) (hr.mono (by decide)) (passes_call (takes_of rfl rfl rfl rfl) (fun _ _ _ _ h => h)) (pa_cons (pe_op op_add_str (pv 7) pe_str) pa_nil)))) pe_str (nomark _)) (pss_one (ps_ret pe_bl)) pss_nil)
      (pss_one (ps_ret (pe_cmpR op_eq (pe_told (x := "_law_terms_right") (k := 17) T LA (by simp [lamNames]) rfl rfl (by rfl) (hr.mono (by decide)) (lamS_by (sc := defScope s__law_terms_right) (by decide +kernel)) (by rfl) (fun _ _ _ _ _ => rfl) (fun A outer s H E f c' hr => (pe_has (ok_read_term T PA) (hr.mono (by decide)) (passes_call (takes_of rfl rfl rfl rfl) (fun _ _ _ _ h => h)) (pa_cons (pe_op op_add_str (pv 1) pe_str) pa_nil)))) pe_str (nomark _)))))))))), ?_⟩
    have hfl : (tmT tm).length ≤ 200 := by
      have := tmT_len tm
      omega
    have c1 : ("\n" : Str).length = 1 := by decide +kernel
    refine zq_for (Z := Z) (P := fun ts => ts.length = 6) (fun ts i σ' H' => ∃ o2 o3, σ' = [some vp, some vf, o2, o3, none, none, none, none])
      (fun H3 g3 j3 Q q => ei_range1 (A := fun n => n = 6) (Er.imp er_i fun t e => ⟨_, e, rfl⟩) (fun n e => by omega) H3 g3 j3 Q fun J ts vs H4 g4 j4 ⟨n, e1, e2⟩ rs S => q J ts vs H4 g4 j4 (by rw [e2, e1]; simp) rs S) j (fun ts H10 g10 j10 e => ⟨none, none, rfl⟩) (fun ts i t x σ' H' e ht g' j' rx ⟨o2, o3, es⟩ N hN => ?_) (fun ts σ' H' e g' j' ⟨o2, o3, es⟩ => ?_)
    · subst es
      show tSeq _ _ _ _ _
      refine zq_asg (P := fun t => ∃ o, t = .s o ∧ OddF (TL.tl (tmT tm)) o) (er_call rfl (ea_c (t := .r p) (er_var (rp.mono g') ?_) (ea_c (t := .s (mk (TL.tl (tmT tm)))) (er_var (by rw [mk_tl']; exact rf.mono g') ?_) ea_nil)) fun ts e => ⟨p, _, hpot, e, fun z => ?_, by rw [← TL.len_tl]; exact hfl, fun o ho => ⟨o, rfl, ho⟩⟩) j' fun t v3 H3 g3 j3 ⟨o, e, ho⟩ r3 => ?_
      · rfl
      · rfl
      · have h1 := tm_ph hsz
        rw [z] at h1
        exact absurd h1 (by decide)
      subst e
      have hd := odd_due hsz ho
      have hol : o.length ≤ 300 := odd_len (by have := tmT_len tm; rw [TL.len_tl] at this; omega) ho
      refine zq_when (b := false) (Eb.imp (eb_test (er_neTold (a := some 1) (b := some 1) (Er.imp (er_told hz (z := o ++ ("\n" : Str)) (er_catS (er_var (t := .s o) r3 ?_) er_s (sz2 (by omega))) hd.1) ?_) (er_c fun _ => rfl))) ?_) j3 (fun z => by cases z) fun _ H4 g4 j4 => ?_
      · rfl
      · intro t e
        rw [e, hd.2]
      · intro b e
        rw [e]
        simp
      refine z_when (b := false) (Eb.imp (eb_test (er_neTold (a := some 1) (b := some 1) (Er.imp (er_told hz (z := o ++ ("\n" : Str)) (er_catS (er_var (t := .s o) (r3.mono g4) ?_) er_s (sz2 (by omega))) hd.1) ?_) (er_c fun _ => rfl))) ?_) j4 (fun z => by cases z) fun _ H5 g5 j5 => ?_
      · rfl
      · intro t e
        rw [e, hd.2]
      · intro b e
        rw [e]
        simp
      exact hN _ H5 ((g3.trans g4).trans g5) j5 ⟨_, _, rfl⟩
    · subst es
      have fv : ∀ {σ : L2.St} {H9 : Hp}, Gr Z H' H9 → σ[1]? = some (some vf) → Er Z (tVar 1) σ H9 (· = .s (tmT tm)) := fun g h1 => er_var (rf.mono (g'.trans g)) h1
      have p2 : ∀ {te : TE} {σ : L2.St} {H9 : Hp} {z : Str} {n : Int}, Er Z te σ H9 (· = .s z) → Er Z (tTup (tCons te (tCons (tC (.int n)) tNil))) σ H9 (· = duP (z, n)) := fun h => er_tupc (ea_c h (ea_c er_i ea_nil)) (show 2 ≤ sizeLine by decide)
      have pa : ∀ {y : Str} {σ : L2.St} {H9 : Hp}, y.length ≤ 50 → Gr Z H' H9 → σ[1]? = some (some vf) → Er Z (tOp aS (tVar 1) (tC (.str y))) σ H9 (· = .s (tmT tm ++ y)) := fun hy g h1 => er_catS (fv g h1) er_s (sz2 (by omega))
      refine zq_asg (er_lstc (us := (duesT (tmT tm)).map duP) (ea_c (p2 (fv Gr.refl rfl)) (ea_c (p2 (pa (by decide +kernel) Gr.refl rfl)) (ea_c (p2 (pa (by decide +kernel) Gr.refl rfl)) (ea_c (p2 (pa (by decide +kernel) Gr.refl rfl)) (ea_c (p2 er_s) (ea_c (p2 er_s) (ea_c (p2 (er_catS er_s (fv Gr.refl rfl) (sz2 (by omega)))) ea_nil))))))) (show 7 ≤ sizeLine by decide)) j' fun t v4 H4 g4 j4 e r4 => ?_
      subst e
      have g04 := g'.trans g4
      have fin2 : ∀ {R : PT → PT} {t : PT}, (∀ x ∈ duesT (tmT tm), R (duP x) = .i x.2) → (∃ ts us, ts = (duesT (tmT tm)).map duP ∧ t = .l us ∧ Paired (fun t u => u = R t) (ts.filter fun _ => true) us) → t = .l duV := fun {R t} hR ⟨ts, us, e1, e2, hp⟩ => by
        rw [filter_yes] at hp
        rw [e2, paired_map hp, e1, List.map_map, ← dues_snd (tmT tm)]
        congr 1
        exact List.map_congr_left fun x hx => hR x hx
      refine zq_when (b := false) (Eb.imp (eb_test (er_neD (t := .l duV) (u := .l duV)
        (Er.imp (er_lcL (P := (· = (duesT (tmT tm)).map duP)) (f := fun _ => true) (R := fun t u => u = duR t) (ei_listc (er_var r4 ?_)) ?_ ?_) fun t h => fin2 (fun x _ => rfl) h)
        (Er.imp (er_lcL (P := (· = (duesT (tmT tm)).map duP)) (f := fun _ => true) (R := fun t u => u = duR t) (ei_listc (er_var r4 ?_)) ?_ ?_) fun t h => fin2 (fun x _ => rfl) h) duV_sh duV_sh)) fun b e => ?_) j4 (fun z => by cases z) fun _ H5 g5 j5 => ?_
      · rfl
      · rintro ts rfl
        exact (show 7 ≤ sizeLine by decide)
      · intro ts D yy t x H1' Kt e ht hD gg jj rx kk
        subst e
        obtain ⟨y, hy, rfl⟩ := List.mem_map.mp ht
        have hd := dues_ok hsz y hy
        refine g_pair (Z := Z.acc D (.lst yy)) rx fun v w rv rw' => ?_
        refine kk _ rfl (fun H2 g2 j2 Q q => q true H2 Gr.refl j2 rfl) fun _ => ?_
        refine Er.imp (er_told (Z := Z.acc D (.lst yy)) (hz.acc fun ps z => by cases z) (z := y.1) (er_var rv ?_) hd.1) fun t e => ?_
        · rfl
        · rw [e, hd.2]
          rfl
      · rfl
      · rintro ts rfl
        exact (show 7 ≤ sizeLine by decide)
      · intro ts D yy t x H1' Kt e ht hD gg jj rx kk
        subst e
        obtain ⟨y, hy, rfl⟩ := List.mem_map.mp ht
        refine g_pair (Z := Z.acc D (.lst yy)) rx fun v w rv rw' => ?_
        refine kk _ rfl (fun H2 g2 j2 Q q => q true H2 Gr.refl j2 rfl) fun _ => er_var rw' ?_
        rfl
      · rw [e, duV_eq]
        rfl
      have hm8 := mulOk8
      refine zq_asg (er_catS (a := Txt.mul "not(" 8 ++ ("in" : Str)) (b := Txt.mul ")" 8) (er_catS (er_mulS er_s er_i hm8.1) er_s (by decide +kernel)) (er_mulS er_s er_i hm8.2) (by decide +kernel)) j5 fun t v7 H6 g6 j6 e r7 => ?_
      have e : t = .s nine := e
      subst e
      have nl := nine_len.1
      refine zq_when (b := false) (Eb.imp (eb_test (er_neTold (a := some 1) (b := some 1) (Er.imp (er_told hz (z := ten) (er_catS (er_catS er_s (er_var (t := .s nine) r7 ?_) (by decide +kernel)) er_s (by decide +kernel)) ten_due.1) ?_) (er_c fun _ => rfl))) ?_) j6 (fun z => by cases z) fun _ H7 g7 j7 => ?_
      · rfl
      · intro t e
        rw [e, ten_due.2]
      · intro b e
        rw [e]
        simp
      refine zq_when (b := false) (Eb.imp (eb_test (er_neTold (a := none) (b := none) (Er.imp (er_told hz (z := nine ++ ("\n" : Str)) (er_catS (er_var (t := .s nine) (r7.mono g7) ?_) er_s (by decide +kernel)) nine_due.1) ?_) (er_c fun _ => rfl))) ?_) j7 (fun z => by cases z) fun _ H8 g8 j8 => ?_
      · rfl
      · intro t e
        rw [e, nine_due.2]
      · intro b e
        rw [e]
        simp
      have fd' := form_due hsz
      have g48 := (((g4.trans g5).trans g6).trans g7).trans g8
      refine z_ret (er_eqTold (a := none) (b := none) (Er.imp (er_told hz (z := tmT tm ++ ("\n" : Str)) (er_catS (fv g48 ?_) er_s (sz2 (by omega))) fd'.1) ?_) (er_c fun _ => rfl)) j8 fun t v9 H9 g9 j9 e r9 => ?_
      · rfl
      · intro t e
        rw [e, fd'.2]
      · subst e
        exact k _ v9 H9 ((g'.trans g48).trans g9) j9 hP r9
end
end Fy
/-! L16 -/
namespace Fy
open PySem PySem.Spec PyProof.Rows L2 LamX
theorem steady_lst {Z : Ez} {H1 : Hp} {a : Addr} {xs : List V} (na : ¬ Z.M a) (h1 : H1 a = some (.lst xs)) : SteadyG (Gr Z) (Itl Z.K a) xs H1 :=
  ⟨fun i H' e l => ⟨xs, xs[i], SqL.of (e.lst h1 na), by simp [l]⟩, fun i H' x H2 e _ y => ⟨y.1, y.2 xs (SqL.of (e.lst h1 na))⟩, fun H' e => ⟨xs, SqL.of (e.lst h1 na), Nat.le_refl _⟩⟩
/-- a loop over items that are there -/
theorem z_loop {Z : Ez} {J : It} {g : TG} {tb : TS} {σ : L2.St} {H1 : Hp} {dn : Ends} {ts : List PT} {vs : List V} (I : Nat → L2.St → Hp → Prop) (S : SteadyG (Gr Z) J vs H1) (rs : RepL Z H1 ts vs) (j1 : Z.J H1) (h0 : I 0 σ H1)
    (hs : ∀ i t x σ' H', ts[i]? = some t → Gr Z H1 H' → Z.J H' → Rep Z H' t x → I i σ' H' → ∀ N : L2.St → Hp → Prop, (∀ σ3 H3, Gr Z H' H3 → Z.J H3 → I (i + 1) σ3 H3 → N σ3 H3) → g x σ' H' fun σ'' H'' => tb { dn with nx := N, ct := N, bk := dn.nx } σ'' H'')
    (hk : ∀ σ' H', Gr Z H1 H' → Z.J H' → I ts.length σ' H' → dn.nx σ' H') :
    ∃ W : Nat → Nat → L2.St → Hp → Prop, (∃ m, W 0 m σ H1) ∧ ∀ i m σ H, W i m σ H →
      (J.stop i H ∧ dn.nx σ H) ∨ (J.go i H ∧ ∃ N : L2.St → Hp → Prop, (∀ σ' H', N σ' H' → ∃ m', m' < m ∧ W (i + 1) m' σ' H') ∧ ∀ x H', J.yld i H x H' → g x σ H' fun σ2 H2 => tb { dn with nx := N, ct := N, bk := dn.nx } σ2 H2) := by
  have hl : vs.length = ts.length := rs.length
  refine ⟨fun i m σ' H' => m = ts.length - i ∧ i ≤ ts.length ∧ Gr Z H1 H' ∧ Z.J H' ∧ I i σ' H', ⟨ts.length, by omega, by omega, Gr.refl, j1, h0⟩, ?_⟩
  rintro i m σ' H' ⟨rfl, hi', g', j', inv⟩
  by_cases hlt : i < ts.length
  · refine .inr ⟨S.go i H' g' (by omega), fun σ3 H3 => i + 1 ≤ ts.length ∧ Gr Z H1 H3 ∧ Z.J H3 ∧ I (i + 1) σ3 H3, fun σ3 H3 h => ⟨ts.length - (i + 1), by omega, rfl, h⟩, fun x H2 y => ?_⟩
    obtain ⟨e, hx⟩ := S.yld i H' x H2 g' (by omega) y
    subst e
    obtain ⟨t, ht, rt⟩ := rs.get' hx
    exact hs i t x σ' H2 ht g' j' (rt.mono g') inv _ fun σ3 H3 g3 j3 i3 => ⟨by omega, g'.trans g3, j3, i3⟩
  · have e : i = ts.length := by omega
    subst e
    exact .inl ⟨by rw [← hl]; exact S.stop H' g', hk σ' H' g' j' inv⟩
/-- no text: d is a dict -/
def NoS (d : Addr) (t : PT) : Prop := (∀ z, t ≠ .s z) ∧ ∀ a, t = .r a → a = d
theorem noS_not {Z : Ez} {d : Addr} {t : PT} {v : V} {H1 : Hp} (h : NoS d t) (r : Rep Z H1 t v) (hd : H1 d = some (.dK [])) : notStr Z.K H1 v := by
  have k : ∀ {x : V} {n : String}, TyX Z.K H1 x (.type n) → kitB n "str" = some false → notStr Z.K H1 x := fun a b => ⟨_, a, kit_ty b⟩
  cases t with
  | i n => rw [show v = _ from r]; exact k (.base (.int _)) (by decide +kernel)
  | s z => exact absurd rfl (h.1 z)
  | b c => rw [show v = _ from r]; exact k (.base (.bl _)) (by decide +kernel)
  | n => rw [show v = _ from r]; exact k (.base .non) (by decide +kernel)
  | l ts =>
    obtain ⟨a, xs, rfl, na, h1, r1⟩ := r
    exact k (.base (.lst h1)) (by decide +kernel)
  | u ts =>
    obtain ⟨a, xs, rfl, na, h1, r1⟩ := r
    exact k (.base (.tup h1)) (by decide +kernel)
  | r a =>
    have := h.2 a rfl
    subst this
    rw [show v = _ from r]
    exact k (.base (.dK hd)) (by decide +kernel)
section
variable {P : Program} {w : World} {K : PySem.W.Frag} {mg : Str → Option Value} {base : Heap}
def pre_right (K : PySem.W.Frag) : Ez → List PT → (PT → Prop) → Prop := fun Z ts P => ∃ p : Addr, LawZ (lamT K) Z ∧ HasPot Z p ∧ ts = [.r p] ∧ P (.b true)
theorem sc__law_right : FnScope ["_law_pot_here", "_law_table_here", "_law_turn", "_law_term_here", "_law_form", "_law_odd", "_law_told_here"] ["_law_pot_here"] (defScope s__law_right) := ⟨rfl, rfl, rfl, by decide +kernel, rfl, by decide +kernel, by decide +kernel⟩
theorem ok__law_right (T : Tx K mg) (T2 : Tx2 K) (PA : PartsAt w K mg) (LA : LamAt base K mg) : Has P w K mg base CX0 21 "_law_right" ["_law_pot_here"] (spR K (pre_right K)) := by
  obtain ⟨f, fd, F, g⟩ := T.d__law_right
  have ef := T.x_ga "_law_right" (by simp) f g
  subst ef
  refine ⟨_, fd, g, F.kp, F.bindsN (ps := ["_law_pot_here"]) (fun _ _ _ _ _ _ us hl => match us, hl with | [_], _ => rfl), ?_⟩
  refine okC F sc__law_right (fun vs H Q E h => ?_) (fun A outer s H vs Q E hr h => ?_)
  · obtain ⟨Z, ts, P', _, _, rs, ⟨p, _, _, rfl, _⟩, _⟩ := h
    exact rs.length
  · obtain ⟨Z, ts, P', rfl, j, rs, ⟨p, hz, hpot, rfl, hP⟩, k⟩ := h
    obtain ⟨vp, _, rfl, rp, rfl⟩ := rs
    refine ⟨_, PSs.nox (pss_cons (ps_set (i := 1) sc__law_right.nd rfl (Or.inl rfl) (pe_has (ok__law_table T) (hr.mono (by decide)) pass0 (pa_cons (pv 0) (pa_cons pe_int pa_nil))))
      (pss_cons (ps_for PassesOwn.never rfl (pi_range1 rfl T.n_range (pa_cons pe_int pa_nil)) (pg_name (i := 2) sc__law_right.nd rfl (Or.inl rfl)) (pss_one (ps_if (pt_not (pt_val (pe_has (ok__law_tables_right T PA LA) (hr.mono (by decide)) pass0 (pa_cons (pv 0) (pa_cons (pv 1) pa_nil))))) (pss_one (ps_ret pe_bl)) pss_nil)))
      (pss_cons (ps_asg (pe_has (ok__law_term T 9) (hr.mono (by decide)) pass0 (pa_cons (pv 0) (pa_cons (pe_op op_add pe_int (pe_has (ok__law_draw T) (hr.mono (by decide)) pass0 (pa_cons (pv 0) (pa_cons pe_int pa_nil)))) pa_nil))) (pg_tup rfl (pgs_cons (pg_name (i := 3) sc__law_right.nd rfl (Or.inl rfl)) (pgs_cons (pg_name (i := 4) sc__law_right.nd rfl (Or.inl rfl)) pgs_nil))))
      (pss_cons (ps_if ((pw_or (pt_not (pt_val (pe_has (ok__law_terms_right T PA LA) (hr.mono (by decide)) pass0 (pa_cons (pv 0) (pa_cons (pv 4) pa_nil))))) (pw_or1 (pt_cmpR op_ne (pe_has (ok_written T T2) (hr.mono (by decide)) pass0 (pa_cons (pv 3) pa_nil)) (pe_op op_add_str (pv 4) pe_str) (nomark _)))).pt) (pss_one (ps_ret pe_bl)) pss_nil)
      (pss_cons (ps_for PassesOwn.never rfl (pi_listK (K := Z.K) (pe_lst (pa_cons pe_non (pa_cons pe_int (pa_cons pe_bl (pa_cons (pe_lst pa_nil) (pa_cons (pv 1) (pa_cons (pe_ifExp (pt_cmpR (op_neD hr.units) (pv 3) pe_str (nomark _)) (pv 3) pe_int) (pa_cons pe_dnewK pa_nil))))))))) (pg_name (i := 5) sc__law_right.nd rfl (Or.inr rfl)) (pss_cons (ps_set (i := 6) sc__law_right.nd rfl (Or.inl rfl) (pe_lst (pa_cons (pe_told (x := "_law_right") (k := 17) T LA (by simp [lamNames]) rfl rfl (by rfl) (hr.mono (by decide)) (lamS_by (sc := defScope s__law_right) (by decide +kernel)) (by rfl) (fun _ _ _ _ _ => rfl) (fun A outer s H E f c' hr => (pe_has (ok_read_table T PA) (hr.mono (by decide)) (passes_call (takes_of rfl rfl rfl rfl) (fun _ _ _ _ h => h)) (pa_cons (pv 5) pa_nil)))) pa_nil)))
      (pss_cons (ps_expr (pe_bm PySem.F.plainAttrs_list PySem.F.slot_list_append PySem.F.type_list_append mt_append (pv 6) (pa_cons (pe_told (x := "_law_right") (k := 17) T LA (by simp [lamNames]) rfl rfl (by rfl) (hr.mono (by decide)) (lamS_by (sc := defScope s__law_right) (by decide +kernel)) (by rfl) (fun _ _ _ _ _ => rfl) (fun A outer s H E f c' hr => (pe_has (ok_read_term T PA) (hr.mono (by decide)) (passes_call (takes_of rfl rfl rfl rfl) (fun _ _ _ _ h => h)) (pa_cons (pv 5) pa_nil)))) pa_nil)))
      (pss_one (ps_if (pt_cmpR (op_neD hr.units) (pv 6) (pe_lst (pa_cons pe_int (pa_cons pe_int pa_nil))) (nomark _)) (pss_one (ps_ret pe_bl)) pss_nil)))))
      (pss_one (ps_ret pe_bl))))))), ?_⟩
    have noT : ∀ {xs : List V} (ps : Array Value), HO.lst xs ≠ .tbl ps := fun ps z => by cases z
    refine zq_asg (er_call (S := fun u => ∃ f rows, u = tabP f rows ∧ TabOk f rows) rfl (ea_c (er_var (t := .r p) rp ?_) (ea_c er_i ea_nil)) fun ts e => ⟨p, hpot, e, fun f rows h => ⟨f, rows, rfl, h⟩⟩) j fun t vt H1 g1 j1 ⟨fs, rows, e, hT⟩ rt => ?_
    · rfl
    subst e
    refine zq_for (Z := Z) (P := fun ts => ts.length = 4) (fun ts i σ' H' => ∃ o2, σ' = [some vp, some vt, o2, none, none, none, none])
      (fun H3 g3 j3 Q q => ei_range1 (A := fun n => n = 4) (Er.imp er_i fun t e => ⟨_, e, rfl⟩) (fun n e => by omega) H3 g3 j3 Q fun J ts vs H4 g4 j4 ⟨n, e1, e2⟩ rs S => q J ts vs H4 g4 j4 (by rw [e2, e1]; simp) rs S) j1 (fun ts H10 g10 j10 e => ⟨none, rfl⟩) (fun ts i t x σ' H' e ht g' j' rx ⟨o2, es⟩ N hN => ?_) (fun ts σ' H' e g' j' ⟨o2, es⟩ => ?_)
    · subst es
      show tIfS _ _ tNext _ _ _
      refine z_when (b := false) (Eb.imp (eb_not (c := true) (eb_test (er_call (S := (· = .b true)) rfl (ea_c (er_var (t := .r p) ((rp.mono g1).mono g') ?_) (ea_c (er_var (t := tabP fs rows) (rt.mono g') ?_) ea_nil)) fun ts e => ⟨p, fs, rows, hz, hpot, e, hT, rfl⟩))) fun b e => e) j' (fun z => by cases z) fun _ H5 g5 j5 => ?_
      · rfl
      · rfl
      exact hN _ H5 g5 j5 ⟨_, rfl⟩
    subst es
    have g1' := g1.trans g'
    have rpA := rp.mono g1'
    have rtA := rt.mono g'
    refine zq_asgG (P := fun u => ∃ tm : Tm, u = pairP tm ∧ tm.size ≤ 9) (er_call rfl (ea_2 (P := fun t => t = .r p) (R := fun u => ∃ m : Nat, u = .i (m : Int) ∧ 1 ≤ m ∧ m ≤ 9) (er_var (t := .r p) rpA ?_) (er_I0P (A := fun a => a = 1) (B := fun b => 0 ≤ b ∧ b < 9) (Er.imp er_i fun t e => ⟨1, e, rfl⟩) (er_draw (n := 9) hpot (er_var (t := .r p) rpA ?_) er_i (by decide) (by decide)) ?_)) ?_) j' fun t v0 H2 g2 j2 ⟨tm, e, hsz⟩ r0 => ?_
    · rfl
    · rfl
    · rintro a b H9 rfl ⟨h0, h1⟩
      exact ⟨_, ⟨(1 + b).toNat, rfl, by omega, by omega⟩, by show V.int (1 + b) = V.int _; congr 1; omega⟩
    · rintro ts ⟨t, u, rfl, rfl, m, rfl, hm1, hm9⟩
      exact ⟨p, m, hpot, rfl, hm1, hm9, by decide, fun t ht => ⟨t, rfl, by omega⟩⟩
    subst e
    refine g_pair r0 fun vtm vfm rtm rfm => ?_
    have g12 := g1'.trans g2
    have rp2 := rpA.mono g2
    have rt2 := rtA.mono g2
    have c1 : ("\n" : Str).length = 1 := by decide +kernel
    have hfl : (tmT tm).length ≤ 200 := by
      have := tmT_len tm
      omega
    refine zq_when (b := false) (Eb.imp (eb_or (a := false) (b := false) (eb_not (c := true) (eb_test (er_call (S := (· = .b true)) rfl (ea_c (er_var (t := .r p) rp2 ?_) (ea_c (er_var (t := .s (tmT tm)) rfm ?_) ea_nil)) fun ts e => ⟨p, tm, hz, hpot, hsz, e, rfl⟩)))
      fun _ => eb_test (Er.imp (er_neS (a := tmT tm ++ ("\n" : Str)) (b := tmT tm ++ ("\n" : Str)) (er_call rfl (ea_c (er_var (t := tmP tm) rtm ?_) ea_nil) fun ts e => ⟨tm, hsz, e, rfl⟩) (er_catS (er_var (t := .s (tmT tm)) rfm ?_) er_s (sz2 (by omega)))) fun t e => by rw [e]; simp)) fun b e => e) j2 (fun z => by cases z) fun _ H3 g3 j3 => ?_
    · rfl
    · rfl
    · rfl
    · rfl
    have rt3 := rt2.mono g3
    have rtm3 := rtm.mono g3
    have g13 := g12.trans g3
    show tSeq _ _ _ _ _
    refine ⟨Nat.zero_le _, fun e he => ⟨_, rfl, ?_⟩⟩
    have gE : Gr Z H3 (upd H3 e (.lst [])) := Gr.new he
    have jE : Z.J (upd H3 e (.lst [])) := Z.jnew j3 he
    have rE : Rep Z (upd H3 e (.lst [])) (.l []) (.ref e) := ⟨e, [], rfl, Z.fresh j3 he, upd_same, rfl⟩
    generalize upd H3 e (.lst []) = H4 at gE jE rE ⊢
    refine Er.run (P := fun u => (∀ z, u ≠ .s z) ∧ ∀ a, u ≠ .r a) (er_if (c := !PyData.eqv (datP (tmP tm)) (datP (.s "in"))) (eb_test (er_neD (t := tmP tm) (u := .s "in") (er_var (rtm3.mono gE) ?_) er_s (tm_sh (by omega)) in_sh)) (fun hc => ?_) fun hc => ?_) jE fun t6 v6 H5 g5 j5 h6 r6 => ?_
    · rfl
    · refine Er.imp (er_var (t := tmP tm) (rtm3.mono gE) ?_) fun u e => ?_
      · rfl
      · subst e
        cases tm with
        | inn => exact absurd hc (by decide +kernel)
        | one i h t => exact ⟨fun z e => (by cases e), fun z e => (by cases e)⟩
        | late s t => exact ⟨fun z e => (by cases e), fun z e => (by cases e)⟩
        | by4 a b c d x y => exact ⟨fun z e => (by cases e), fun z e => (by cases e)⟩
        | two s x y => exact ⟨fun z e => (by cases e), fun z e => (by cases e)⟩
    · refine Er.imp er_i fun u e => ?_
      subst e
      exact ⟨fun z e => (by cases e), fun z e => (by cases e)⟩
    refine fun d hd => ⟨(show 7 ≤ sizeLine by decide), fun q hq => ⟨q, rfl, ⟨_, SqL.of upd_same⟩, ?_⟩⟩
    have ndq : d ≠ q := ne_of_none upd_same hq
    have hd2 : (upd (upd H5 d (.dK [])) q (.lst [.non, .int 0, .bl true, .ref e, vt, v6, .ref d])) d = some (.dK []) := by rw [upd_ne ndq]; exact upd_same
    have gQ : Gr Z H5 (upd (upd H5 d (.dK [])) q (.lst [.non, .int 0, .bl true, .ref e, vt, v6, .ref d])) := (Gr.new hd).trans (Gr.new hq)
    have jQ : (Z.acc d (.dK [])).J (upd (upd H5 d (.dK [])) q (.lst [.non, .int 0, .bl true, .ref e, vt, v6, .ref d])) := ⟨Z.jnew (Z.jnew j5 hd) hq, hd2⟩
    have nq : ¬ (Z.acc d (.dK [])).M q := fun z => z.elim (fun z => ndq z.symm) (Z.fresh (Z.jnew j5 hd) hq)
    have hq2 : (upd (upd H5 d (.dK [])) q (.lst [.non, .int 0, .bl true, .ref e, vt, v6, .ref d])) q = some (.lst [.non, .int 0, .bl true, .ref e, vt, v6, .ref d]) := upd_same
    have up : ∀ {t v}, Rep Z H5 t v → Rep (Z.acc d (.dK [])) (upd (upd H5 d (.dK [])) q (.lst [.non, .int 0, .bl true, .ref e, vt, v6, .ref d])) t v := fun r => (r.acc (Fresh.of hd)).mono (Gr.acc gQ)
    have hsRep : RepL (Z.acc d (.dK [])) (upd (upd H5 d (.dK [])) q (.lst [.non, .int 0, .bl true, .ref e, vt, v6, .ref d])) [.n, .i 0, .b true, .l [], tabP fs rows, t6, .r d] [.non, .int 0, .bl true, .ref e, vt, v6, .ref d] :=
      ⟨_, _, rfl, rfl, _, _, rfl, rfl, _, _, rfl, rfl, _, _, rfl, up (rE.mono g5), _, _, rfl, up ((rt3.mono gE).mono g5), _, _, rfl, up r6, _, _, rfl, rfl, rfl⟩
    have gAll : Gr Z H (upd (upd H5 d (.dK [])) q (.lst [.non, .int 0, .bl true, .ref e, vt, v6, .ref d])) := ((g13.trans gE).trans g5).trans gQ
    generalize upd (upd H5 d (.dK [])) q (.lst [.non, .int 0, .bl true, .ref e, vt, v6, .ref d]) = H6 at hd2 gQ jQ hq2 up hsRep gAll ⊢
    have hall : ∀ t ∈ [PT.n, .i 0, .b true, .l [], tabP fs rows, t6, .r d], NoS d t := by
      refine all_cons ⟨fun z e => (by cases e), fun z e => (by cases e)⟩ (all_cons ⟨fun z e => (by cases e), fun z e => (by cases e)⟩ (all_cons ⟨fun z e => (by cases e), fun z e => (by cases e)⟩ (all_cons ⟨fun z e => (by cases e), fun z e => (by cases e)⟩ (all_cons ⟨fun z e => (by cases e), fun z e => (by cases e)⟩ (all_cons ⟨h6.1, fun a e => absurd e (h6.2 a)⟩ (all_cons ⟨fun z e => (by cases e), fun a e => (by cases e; rfl)⟩ all_nil))))))
    have hz2 : LawZ (lamT Z.K) (Z.acc d (.dK [])) := hz.acc fun ps z => by cases z
    refine z_loop (Z := Z.acc d (.dK [])) (fun i σ' H' => ∃ o5 o6, σ' = [some vp, some vt, o2, some vtm, some vfm, o5, o6]) (steady_lst nq hq2) hsRep jQ ⟨none, none, rfl⟩ (fun i t x σ' H' ht g' j' rx ⟨o5, o6, es⟩ N hN => ?_) fun σ' H' g' j' ⟨o5, o6, es⟩ => ?_
    · subst es
      have hns := hall t (List.mem_of_getElem? ht)
      have hnot : ∀ {Z2 : Ez}, Z2.K = Z.K → (∀ H, Z2.J H → H d = some (.dK [])) → ∀ t' v H1, t' = t → Rep Z2 H1 t' v → Z2.J H1 → notStr Z2.K H1 v := fun hK hJ t' v H1 e r j => by
        subst e
        exact noS_not hns r (hJ _ j)
      show tSeq _ _ _ _ _
      refine zq_newL (Z := Z.acc d (.dK [])) (Ps := (· = [PT.i 0])) (ea_c (er_toldN hz2 (P := (· = t)) (er_var rx ?_) (hnot rfl fun H j => j.2)) ea_nil) ?_ j' ?_
      · rfl
      · rintro ts rfl
        exact (show 1 ≤ sizeLine by decide)
      rintro ts vs H7 L g7 j7 rfl rs7 hL
      have nL : ¬ (Z.acc d (.dK [])).M L := (Z.acc d (.dK [])).fresh j7 hL
      have gL : Gr (Z.acc d (.dK [])) H7 (upd H7 L (.lst vs)) := Gr.new hL
      have jL : ((Z.acc d (.dK [])).accE L).J (upd H7 L (.lst vs)) := ⟨(Z.acc d (.dK [])).jnew j7 hL, vs, upd_same⟩
      have hyL : (upd H7 L (.lst vs)) L = some (.lst vs) := upd_same
      have ruL : RepL ((Z.acc d (.dK [])).accE L) (upd H7 L (.lst vs)) [.i 0] vs := repL_accE (o := .lst []) ((rs7.acc (Fresh.of hL)).mono (Gr.acc gL))
      have rxL : Rep ((Z.acc d (.dK [])).accE L) (upd H7 L (.lst vs)) t x := rep_accE (o := .lst []) (((rx.mono g7).acc (Fresh.of hL)).mono (Gr.acc gL))
      have hvl : vs.length = 1 := rs7.length
      refine z_append (Z := Z.acc d (.dK [])) (R := (· = PT.i 0)) (D := L) (d := 6) rfl jL nL hyL ruL (by omega) (fun o jo => ?_) ?_
      · have eo : o = .lst vs := by
          have := jo.2
          rw [hyL] at this
          exact (Option.some.inj this).symm
        subst eo
        refine er_toldN (Z := (Z.acc d (.dK [])).acc L (.lst vs)) (hz2.acc fun ps z => by cases z) (P := (· = t)) (er_var (accE_rep rxL) ?_) (hnot rfl fun H j => j.1.2)
        rfl
      · rintro u v H8 g8 j8 rfl hy8 ru8
        have gF : Gr (Z.acc d (.dK [])) H7 H8 := Gr.unaccE (Fresh.of hL) gL g8
        have rl : Rep (Z.acc d (.dK [])) H8 (.l [.i 0, .i 0]) (.ref L) := ⟨L, _, rfl, nL, hy8, repL_unaccE ru8⟩
        have sh2 : ShP (.l [.i 0, .i 0]) := ⟨rfl, by decide +kernel⟩
        have eq2 : PyData.eqv (datP (.l [.i 0, .i 0])) (datP (.l [.i 0, .i 0])) = true := by decide +kernel
        dsimp only
        refine z_when (Z := Z.acc d (.dK [])) (b := false) (Eb.imp (eb_test (er_neD (t := .l [.i 0, .i 0]) (u := .l [.i 0, .i 0]) (er_var rl ?_) (er_lstc (ea_c er_i (ea_c er_i ea_nil)) (show 2 ≤ sizeLine by decide)) sh2 sh2)) fun b e => by rw [e, eq2]; rfl) j8.1 (fun z => by cases z) fun _ H9 g9 j9 => ?_
        · rfl
        exact hN _ H9 ((g7.trans gF).trans g9) j9 ⟨_, _, rfl⟩
    · subst es
      exact k _ _ _ (((g13.trans gE).trans g5).trans (Gr.unacc (Fresh.of hd) gQ g')) j'.1 hP rfl
end
end Fy
/-! L17 -/
namespace Fy
open PySem PySem.Spec PyProof.Rows L2 LamX
/-! one more pot -/
def Ez.pot (Z : Ez) (p : Addr) : Ez where
  K := Z.K
  M := fun a => a = p ∨ Z.M a
  J := fun H => Z.J H ∧ PotAt H p
  jm := fun {H H'} h k => ⟨Z.jm h.1 fun a u e m => k a u e (m.elim (fun m => .inl (.inr m)) .inr), by
    obtain ⟨b, m, e, r⟩ := h.2
    exact ⟨b, m, k p _ e (.inl (.inl rfl)), r⟩⟩
  jd := fun {H a} h m => by
    rcases m with rfl | m
    · obtain ⟨b, m, e, r⟩ := h.2
      exact ⟨_, e⟩
    · exact Z.jd h.1 m
theorem hasPot_pot {Z : Ez} {p : Addr} (nM : ¬ Z.M p) : HasPot (Z.pot p) p where
  m := .inl rfl
  at_ := fun H j => j.2
  put := fun H b m j h1 h2 h3 => ⟨by
    obtain ⟨b', m', e, r⟩ := j.2
    exact Z.jn nM (.inr ⟨_, e⟩) j.1, b, m, upd_same, h1, h2, h3⟩
theorem LawZ.pot {T : List (Addr × Str)} {Z : Ez} (h : LawZ T Z) {p : Addr} : LawZ T (Z.pot p) where
  tabs := fun H j => h.tabs H j.1
  ext := fun H H1 j e t => ⟨h.ext H H1 j.1 e t, by
    obtain ⟨b, m, q, r⟩ := j.2
    exact ⟨b, m, e _ _ q fun ps z => (by cases z), r⟩⟩
/-- the script, that stands -/
structure HasScr (Z : Ez) (a : Addr) (ns : List Int) : Prop where
  sq : ∀ H, Z.J H → SqL Z.K H a (ns.map V.int)
theorem HasScr.acc {Z : Ez} {a D : Addr} {o : HO} {ns : List Int} (h : HasScr Z a ns) : HasScr (Z.acc D o) a ns := ⟨fun H j => h.sq H j.1⟩
section
variable {P : Program} {w : World} {K : PySem.W.Frag} {mg : Str → Option Value} {base : Heap}
def sp_pot (K : PySem.W.Frag) : Sp := fun vs H Q _ => ∃ (a : Addr) (ns : List Int) (k : Nat), vs = [.ref a, .int (k : Int)] ∧ SqL K H a (ns.map V.int) ∧ k ≤ 100 ∧ ∀ (p : Addr) (b m : Int), H p = none → 0 ≤ b → 0 ≤ m → m < 2 ^ 32 → Q (.ref p) (upd H p (.lst [.int b, .int m]))
theorem sc__law_pot : FnScope ["_law_script", "_law_k", "_law_cell"] ["_law_script", "_law_k"] (defScope s__law_pot) := ⟨rfl, rfl, rfl, by decide +kernel, rfl, by decide +kernel, by decide +kernel⟩
theorem ok__law_pot (T : Tx K mg) : Has P w K mg base CX0 1 "_law_pot" ["_law_script", "_law_k"] (sp_pot K) := by
  obtain ⟨f, fd, F, g⟩ := T.d__law_pot
  refine ⟨f, fd, g, F.kp, F.bindsN (ps := ["_law_script", "_law_k"]) (fun _ _ _ _ _ _ us hl => match us, hl with | [_, _], _ => rfl), ?_⟩
  refine F.ok sc__law_pot (fun vs H Q E h => ?_) (fun cdv A outer s H vs Q E hr h => ?_)
  · obtain ⟨a, ns, n, rfl, _⟩ := h
    rfl
  · obtain ⟨a, ns, n, rfl, hS, hn, k⟩ := h
    refine ⟨_, PSs.nox (pss_cons (ps_set (i := 2) sc__law_pot.nd rfl (Or.inl rfl) (pe_ifExp (pt_cmpR op_lt (pv 1) (pe_callB (r := rLenSq K) call_lenK (by rfl) T.n_len boot_len (pa_cons (pv 0) pa_nil)) (nomark _)) (pe_callB call_abs (by rfl) T.n_abs b_abs (pa_cons (pe_ix (r := rIxL K) ix_list (pv 0) (pv 1) (fun _ _ => rfl)) pa_nil)) (pe_op op_add (pe_op op_mul pe_int (pv 1)) pe_int)))
      (pss_one (ps_ret (pe_lst (pa_cons (pe_callB (call_max2 rfl) (by rfl) T.n_max b_max (pa_cons pe_int (pa_cons (pe_op op_sub (pv 2) (pe_op op_pow pe_int pe_int)) pa_nil))) (pa_cons (pe_op op_add (pe_op op_mod (pe_callTy call_int1 (by rfl) T.n_int b_int (pa_cons (pe_op op_add (pe_op op_add (pe_op op_mul (pe_op op_mod (pe_callTy call_int1 (by rfl) T.n_int b_int (pa_cons (pv 2) pa_nil)) pe_int) pe_int) (pe_op op_mul pe_int (pv 1))) pe_int) pa_nil)) pe_int) pe_int) pa_nil)))))), ?_⟩
    have mulOk : ∀ {i k : Int}, 0 ≤ i → i < 2 ^ 32 → CMul i k := fun h1 h2 => .inl ⟨by omega, by omega⟩
    have mx : ∀ x : Int, 0 ≤ (if x > 0 then x else 0) := fun x => by
      split
      · omega
      · omega
    refine ⟨_, rfl, _, rfl, a, _, rfl, .inl hS, _, _, rfl, rfl, _, rfl, ?_⟩
    rw [List.length_map]
    by_cases hk : n < ns.length
    · rw [decide_eq_true (by omega : (n : Int) < (ns.length : Int))]
      refine iteT ?_
      refine ⟨_, rfl, _, rfl, a, _, (n : Int), V.int ns[n], rfl, rfl, hS, atI_nat (j := n) (by simp [hk]), _, rfl, ?_⟩
      · refine ⟨_, rfl, _, _, rfl, rfl, (show (0 : Int) ≤ 18 ∧ (18 : Int) ≤ 1000000 ∧ (10 : Int).natAbs < 2 ^ 64 by decide), _, _, rfl, rfl, _, _, rfl, ?_⟩
        refine ⟨_, rfl, .inl ⟨_, rfl, _, _, rfl, rfl, (show (0 : Int) < 2147483549 by decide), _, _, rfl, rfl, mulOk (Int.emod_nonneg _ (by decide)) (Int.lt_trans (Int.emod_lt_of_pos _ (by decide)) (by decide)), ?_⟩⟩
        refine ⟨_, rfl, _, _, rfl, rfl, mulOk (by decide) (by decide), _, _, rfl, rfl, _, _, rfl, rfl, .inl ⟨_, rfl, _, _, rfl, rfl, (show (0 : Int) < 2147483563 by decide), _, _, rfl, rfl, (show 2 ≤ sizeLine by decide), fun p hp => ?_⟩⟩
        refine k p _ _ hp (mx _) ?_ ?_
        · have := Int.emod_nonneg ((if ns[n] < 0 then -ns[n] else ns[n]) % 2147483549 * 40163 + 5039 * (n : Int) + 23) (show (2147483563 : Int) ≠ 0 by decide)
          omega
        · have := Int.emod_lt_of_pos ((if ns[n] < 0 then -ns[n] else ns[n]) % 2147483549 * 40163 + 5039 * (n : Int) + 23) (show (0 : Int) < 2147483563 by decide)
          omega
    · rw [decide_eq_false (by omega : ¬ (n : Int) < (ns.length : Int))]
      refine iteF ?_
      refine ⟨_, rfl, _, _, rfl, rfl, mulOk (by decide) (by decide), _, _, rfl, rfl, ?_⟩
      · refine ⟨_, rfl, _, _, rfl, rfl, (show (0 : Int) ≤ 18 ∧ (18 : Int) ≤ 1000000 ∧ (10 : Int).natAbs < 2 ^ 64 by decide), _, _, rfl, rfl, _, _, rfl, ?_⟩
        refine ⟨_, rfl, .inl ⟨_, rfl, _, _, rfl, rfl, (show (0 : Int) < 2147483549 by decide), _, _, rfl, rfl, mulOk (Int.emod_nonneg _ (by decide)) (Int.lt_trans (Int.emod_lt_of_pos _ (by decide)) (by decide)), ?_⟩⟩
        refine ⟨_, rfl, _, _, rfl, rfl, mulOk (by decide) (by decide), _, _, rfl, rfl, _, _, rfl, rfl, .inl ⟨_, rfl, _, _, rfl, rfl, (show (0 : Int) < 2147483563 by decide), _, _, rfl, rfl, (show 2 ≤ sizeLine by decide), fun p hp => ?_⟩⟩
        refine k p _ _ hp (mx _) ?_ ?_
        · have := Int.emod_nonneg ((41 * (n : Int) + 23) % 2147483549 * 40163 + 5039 * (n : Int) + 23) (show (2147483563 : Int) ≠ 0 by decide)
          omega
        · have := Int.emod_lt_of_pos ((41 * (n : Int) + 23) % 2147483549 * 40163 + 5039 * (n : Int) + 23) (show (0 : Int) < 2147483563 by decide)
          omega
end
end Fy
/-! L18 -/
namespace Fy
open PySem PySem.Spec PyProof.Rows L2 LamX
theorem tabs_mono {T : List (Addr × Str)} {H H' : Hp} (t : Tabs T H) (k : ∀ a o, H a = some o → ((∃ c q, o = LamX.CodeO c q) ∨ ∃ ps, o = .tbl ps) → H' a = some o) : Tabs T H' := fun p hp => by
  obtain ⟨ps, h1, h2, h3⟩ := t p hp
  refine ⟨ps, k _ _ h1 (.inr ⟨ps, rfl⟩), h2, fun pos cv hc => ?_⟩
  obtain ⟨c, e1, e2⟩ := h3 pos cv hc
  exact ⟨c, e1, k _ _ e2 (.inl ⟨c, _, rfl⟩)⟩
/-- the script at a, whose record is u; the tables T -/
def Ez.scr (K : PySem.W.Frag) (T : List (Addr × Str)) (a : Addr) (u : Option HO) : Ez where
  K := K
  M := fun b => b = a ∧ u ≠ none
  J := fun H => (∀ o, u = some o → H a = some o) ∧ Tabs T H
  jm := fun {H H'} h k => ⟨fun o e => k a o (h.1 o e) (.inl ⟨rfl, by rw [e]; simp⟩), tabs_mono h.2 fun b o e m => k b o e (m.elim (fun m => .inr (.inl m)) fun m => .inr (.inr m))⟩
  jd := fun {H b} h m => by
    obtain ⟨rfl, hu⟩ := m
    cases u with
    | none => exact absurd rfl hu
    | some o => exact ⟨o, h.1 o rfl⟩
theorem scr_pick {K : PySem.W.Frag} {a : Addr} {H0 : Hp} {xs : List V} (hS : SqL K H0 a xs) : ∃ u : Option HO, (∀ o, u = some o → H0 a = some o) ∧ (∀ H : Hp, (∀ o, u = some o → H a = some o) → SqL K H a xs) ∧ ∀ o ps, u = some o → o ≠ .tbl ps := by
  rcases hS with (h | ⟨o, h⟩) | h
  · exact ⟨some (.lst xs), fun o e => by rw [← e]; exact h, fun H k => .inl (.inl (k _ rfl)), fun o ps e z => by subst z; cases e⟩
  · exact ⟨some (.frz o (.lst xs)), fun o e => by rw [← e]; exact h, fun H k => .inl (.inr ⟨o, k _ rfl⟩), fun o ps e z => by subst z; cases e⟩
  · exact ⟨none, fun o e => (by cases e), fun H k => .inr h, fun o ps e => (by cases e)⟩
theorem scr_law {K : PySem.W.Frag} {T : List (Addr × Str)} {a : Addr} {u : Option HO} (hN : ∀ o ps, u = some o → o ≠ .tbl ps) : LawZ T (Ez.scr K T a u) where
  tabs := fun H j => j.2
  ext := fun H H1 j e t => ⟨fun o hu => e _ _ (j.1 o hu) fun ps => hN o ps hu, t⟩
section
variable {Z : Ez} {σ : L2.St} {H : Hp}
theorem er_lenScr {a : Addr} {ns : List Int} {i : Nat} (hs : HasScr Z a ns) (h : σ[i]? = some (some (.ref a))) : Er Z (tCB (rLenSq Z.K) (tCons (tVar i) tNil)) σ H (· = .i (ns.length : Int)) := fun H1 g j Q q =>
  ⟨_, h, a, _, rfl, .inl (hs.sq H1 j), q (.i ns.length) _ H1 Gr.refl j rfl (by show V.int _ = V.int _; rw [List.length_map])⟩
theorem er_max {ta tb : TE} {x y : Int} (ha : Er Z ta σ H (· = .i x)) (hb : Er Z tb σ H (· = .i y)) : Er Z (tCB (fun xs H Q => ∃ i j, xs = [.int i, .int j] ∧ Q (.int (if j > i then j else i)) H) (tCons ta (tCons tb tNil))) σ H (· = .i (if y > x then y else x)) :=
  er_cb (ea_2 ha hb) fun ts vs H1 _ j ⟨t, u, e, e1, e2⟩ rs Q q => by
    subst e e1 e2
    obtain ⟨v, _, rfl, rv, v2, _, rfl, rv2, rfl⟩ := rs
    exact ⟨x, y, by rw [show v = _ from rv, show v2 = _ from rv2], q _ _ H1 Gr.refl j rfl rfl⟩
theorem er_min {ta tb : TE} {x y : Int} (ha : Er Z ta σ H (· = .i x)) (hb : Er Z tb σ H (· = .i y)) : Er Z (tCB (fun xs H Q => ∃ i j, xs = [.int i, .int j] ∧ Q (.int (if j < i then j else i)) H) (tCons ta (tCons tb tNil))) σ H (· = .i (if y < x then y else x)) :=
  er_cb (ea_2 ha hb) fun ts vs H1 _ j ⟨t, u, e, e1, e2⟩ rs Q q => by
    subst e e1 e2
    obtain ⟨v, _, rfl, rv, v2, _, rfl, rv2, rfl⟩ := rs
    exact ⟨x, y, by rw [show v = _ from rv, show v2 = _ from rv2], q _ _ H1 Gr.refl j rfl rfl⟩
/-- right(pot(script, k)) -/
theorem er_rightPot {T : List (Addr × Str)} {a : Addr} {ns : List Int} {E E' : XK} {i j : Nat} {n : Nat} (hz : LawZ (lamT Z.K) Z) (hs : HasScr Z a ns) (h : σ[i]? = some (some (.ref a))) (hj : σ[j]? = some (some (.int (n : Int)))) (hn : n ≤ 100) :
    Er Z (tCall (spR Z.K (pre_right Z.K)) [] E (tCons (tCall (sp_pot Z.K) [] E' (tCons (tVar i) (tCons (tVar j) tNil))) tNil)) σ H (· = .b true) := fun H1 g jj Q q => by
  refine ⟨_, h, _, hj, a, ns, n, rfl, hs.sq H1 jj, hn, fun p b m hp hb hm hm2 => ?_⟩
  have nM : ¬ Z.M p := Z.fresh jj hp
  have jP : (Z.pot p).J (upd H1 p (.lst [.int b, .int m])) := ⟨Z.jnew jj hp, b, m, upd_same, hb, hm, hm2⟩
  refine ⟨Z.pot p, [.r p], (· = .b true), rfl, jP, ⟨_, _, rfl, rfl, rfl⟩, ⟨p, hz.pot, hasPot_pot nM, rfl, rfl⟩, fun t v H2 g2 j2 e r => ?_⟩
  subst e
  refine q _ v H2 (fun x o e n t => ?_) j2.1 rfl r
  have np : x ≠ p := ne_of_none e hp
  exact g2 x o (by rw [upd_ne np]; exact e) (fun z => z.elim np n) t
end
section
variable {P : Program} {w : World} {K : PySem.W.Frag} {mg : Str → Option Value} {base : Heap}
def sp_law (K : PySem.W.Frag) : Sp := fun vs H Q _ => ∃ (a : Addr) (ns : List Int), vs = [.ref a] ∧ SqL K H a (ns.map V.int) ∧ ns.length ≤ 63 ∧ Tabs (lamT K) H ∧ ∀ H', Q (.bl true) H'
theorem sc_law : FnScope ["_law_script", "_law_k"] ["_law_script"] (defScope s_law) := ⟨rfl, rfl, rfl, by decide +kernel, rfl, by decide +kernel, by decide +kernel⟩
theorem ok_law (T : Tx K mg) (T2 : Tx2 K) (PA : PartsAt w K mg) (LA : LamAt base K mg) {f : Addr} {fd : FuncData} (F : FunD K "law" "law" (defArgs s_law) (defBody s_law) (defScope s_law) [] [] f fd) : FnOk P w K mg base CX0 22 f fd ["_law_script"] (sp_law K) := by
  refine F.ok sc_law (fun vs H Q E h => ?_) (fun cdv A outer s H vs Q E hr h => ?_)
  · obtain ⟨a, ns, rfl, _⟩ := h
    rfl
  · obtain ⟨a, ns, rfl, hS, hn, hT, k⟩ := h
    obtain ⟨u, hu1, hu2, hu3⟩ := scr_pick hS
    refine ⟨_, PSs.nox (pss_one (ps_ret (pe_and (pe_has0 (ok__law_sixty_right T PA LA) (hr.mono (by decide)) pass0) (pe_one (pe_callB (r := rAll K) (cr_all rfl) (by rfl) T.n_all b_all (pa_cons (pe_lc (own := [("_law_k", 1)]) (g := gName 1) (tt := tYes) rfl sc_law.nd (pi_range1 rfl T.n_range (pa_cons (pe_callB (call_max2 rfl) (by rfl) T.n_max b_max (pa_cons pe_int (pa_cons (pe_callB (call_min2 rfl) (by rfl) T.n_min b_min (pa_cons pe_int (pa_cons (pe_callB (r := rLenSq K) call_lenK (by rfl) T.n_len boot_len (pa_cons (pv 0) pa_nil)) pa_nil))) pa_nil))) pa_nil)) (blkOk_by (N := ["_law_script", "_law_k"]) (sc := defScope s_law) (by decide +kernel)) (fun _ _ _ _ _ => pg_name (i := 1) sc_law.nd rfl (Or.inl rfl)) (fun _ _ _ _ _ => pts_nil) (fun _ _ _ _ _ => (pe_has (ok__law_right T T2 PA LA) (hr.mono (by decide)) pass0 (pa_cons (pe_has (ok__law_pot T) (hr.mono (by decide)) pass0 (pa_cons (pv 0) (pa_cons (pv 1) pa_nil))) pa_nil)))) pa_nil)))))), ?_⟩
    have hs : HasScr (Ez.scr K (lamT K) a u) a ns := ⟨fun H j => hu2 H j.1⟩
    have hz : LawZ (lamT K) (Ez.scr K (lamT K) a u) := scr_law hu3
    have j : (Ez.scr K (lamT K) a u).J H := ⟨hu1, hT⟩
    refine z_ret (Z := Ez.scr K (lamT K) a u) (P := (· = .b true)) (er_andV (a := true) (b := true) ?_ fun _ => ?_) j fun t v H1 g1 j1 e r => ?_
    · exact er_call rfl ea_nil fun ts e => ⟨hz, e, rfl⟩
    · have hm : ∃ m : Nat, m ≤ 3 ∧ (if (if (ns.length : Int) < 3 then (ns.length : Int) else 3) > 1 then (if (ns.length : Int) < 3 then (ns.length : Int) else 3) else 1) = (m : Int) := by
        by_cases h1 : (ns.length : Int) < 3
        · rw [if_pos h1]
          by_cases h2 : (ns.length : Int) > 1
          · rw [if_pos h2]
            exact ⟨ns.length, by omega, rfl⟩
          · rw [if_neg h2]
            exact ⟨1, by decide, rfl⟩
        · rw [if_neg h1]
          exact ⟨3, by decide, rfl⟩
      obtain ⟨m, hm3, hm⟩ := hm
      refine Er.imp (er_all (bs := (List.range m).map fun _ => true) (Er.imp (er_lcL (P := (· = (List.range m).map fun i => PT.i (0 + ((i : Nat) : Int)))) (f := fun _ => true) (R := fun t u => u = (fun _ => PT.b true) t)
        (fun H3 g3 j3 Q q => ei_range1 (A := fun x => x = (m : Int)) (Er.imp (er_max er_i (er_min er_i (er_lenScr hs rfl))) fun t e => ⟨_, e, hm⟩) (fun x e => by omega) H3 g3 j3 Q fun J ts vs H4 g4 j4 ⟨x, e1, e2⟩ rs S => q J ts vs H4 g4 j4 (by rw [e2, e1]; rfl) rs S) ?_ ?_) ?_)) ?_
      · rintro ts rfl
        rw [List.length_map, List.length_range]
        exact Nat.le_trans hm3 (by decide)
      · intro ts D yy t x H1' Kt e ht hD gg jj rx kk
        subst e
        obtain ⟨i, hi, rfl⟩ := List.mem_map.mp ht
        have hi := List.mem_range.mp hi
        have ex : x = .int (i : Int) := by
          have : x = .int (0 + (i : Int)) := rx
          rw [this]
          congr 1
          omega
        subst ex
        refine kk _ rfl (fun H2 g2 j2 Q q => q true H2 Gr.refl j2 rfl) fun _ => ?_
        exact er_rightPot (T := lamT K) (Z := (Ez.scr K (lamT K) a u).acc D (.lst yy)) (hz.acc fun ps z => by cases z) hs.acc rfl rfl (by omega)
      · rintro t ⟨ts, us, rfl, rfl, hp⟩
        rw [filter_yes] at hp
        rw [paired_map hp, List.map_map, List.map_map]
        rfl
      · intro t e
        rw [e]
        congr 1
        rw [List.all_map]
        exact List.all_eq_true.mpr fun _ _ => rfl
    · subst e
      rw [show v = _ from r]
      exact k H1
end
end Fy
/-! En -/
/-! what the head says, and the end -/
namespace Fy
open PySem PySem.Spec PyProof.Rows L2 LamX
theorem exAt {K : PySem.W.Frag} (h : hEx K = true) (i : Nat) {b : Bool} (e : (exL K)[i]? = some b := by rfl) : b = true :=
  List.all_eq_true.mp (show (exL K).all id = true from h) b (List.mem_of_getElem? e)
section
variable {P : Program} {w : World} {K : PySem.W.Frag} {mg : Str → Option Value} {h : Heap}
theorem defAt {x : Str} {st : Stmt} (d : ∃ fd, FunD K (dG x st).name (dG x st).qual (dG x st).params (dG x st).body (dG x st).scope ((dG x st).dvs K) ((dG x st).kws K) (He.fAd K (dG x st).at_) fd) (g : mg x = some (.ref (He.ga K x))) : DefAt K mg x st := by
  obtain ⟨fd, F⟩ := d
  exact ⟨_, fd, F, g⟩
theorem methAt {C m q : Str} {st : Stmt} (d : ∃ fd, FunD K (dM C m q st).name (dM C m q st).qual (dM C m q st).params (dM C m q st).body (dM C m q st).scope ((dM C m q st).dvs K) ((dM C m q st).kws K) (He.fAd K (dM C m q st).at_) fd) (g : Meth K (He.ga K C) m (He.ma K (He.ga K C) m)) : MethAt K mg C m q st := by
  obtain ⟨fd, F⟩ := d
  exact ⟨fd, F, g⟩
theorem dec {p : Prop} [Decidable p] (h : decide p = true) : p := of_decide_eq_true h
theorem ex_exits (m : hEx K = true) : ∃ mc u, ClX.CRead K (He.ga K "Yard") mc ∧ ClX.CVal K (He.ga K "Yard") mc "MOST_EXITS" (.int 3) u := by
  obtain ⟨v, e, r⟩ := cfV_ok (exAt m 6)
  exact ⟨.type "type", v, ⟨exAt m 4, He.eqO_ok (exAt m 5)⟩, ⟨e, He.relB_ok r⟩⟩
theorem ex_fe (m : hEx K = true) : ∃ mc, ClX.CRead K (He.ga K "FlowError") mc ∧ ClX.CVal K (He.ga K "FlowError") mc "__init__" (.ref (He.ma K (He.ga K "FlowError") "__init__")) (.ref (He.ma K (He.ga K "FlowError") "__init__")) := by
  obtain ⟨v, e, r⟩ := cfV_ok (exAt m 16)
  have r : v = .ref (He.ma K (He.ga K "FlowError") "__init__") := dec r
  subst r
  exact ⟨.type "type", ⟨exAt m 14, He.eqO_ok (exAt m 15)⟩, ⟨e, rfl⟩⟩
theorem ex_ve (m : hEx K = true) : PySem.W.findCls K (.type "ValueError") (.type "type") "__init__" = some (.val (.builtin "ValueError.__init__")) := by
  obtain ⟨v, e, r⟩ := cfV_ok (exAt m 17)
  rw [dec r] at e
  exact e
theorem tx_of (X : K.In h) (G : h.Ns mainGlobals mg) (c : He.SaysD hFa hFn K) (m : hEx K = true) : Tx K mg where
  n_isinstance := He.free_ok X G (c.fact 0 (f := .free "isinstance") rfl)
  n_str := He.free_ok X G (c.fact 1 (f := .free "str") rfl)
  n_int := He.free_ok X G (c.fact 2 (f := .free "int") rfl)
  n_tuple := He.free_ok X G (c.fact 3 (f := .free "tuple") rfl)
  n_list := He.free_ok X G (c.fact 4 (f := .free "list") rfl)
  n_bool := He.free_ok X G (c.fact 5 (f := .free "bool") rfl)
  n_len := He.free_ok X G (c.fact 6 (f := .free "len") rfl)
  n_all := He.free_ok X G (c.fact 7 (f := .free "all") rfl)
  n_any := He.free_ok X G (c.fact 8 (f := .free "any") rfl)
  n_range := He.free_ok X G (c.fact 9 (f := .free "range") rfl)
  n_enumerate := He.free_ok X G (c.fact 10 (f := .free "enumerate") rfl)
  n_abs := He.free_ok X G (c.fact 11 (f := .free "abs") rfl)
  n_max := He.free_ok X G (c.fact 12 (f := .free "max") rfl)
  n_min := He.free_ok X G (c.fact 13 (f := .free "min") rfl)
  n_divmod := He.free_ok X G (c.fact 14 (f := .free "divmod") rfl)
  n_ValueError := He.free_ok X G (c.fact 15 (f := .free "ValueError") rfl)
  c_SIGNS := ⟨He.glo_ok X G (c.fact 16 (f := .glo "SIGNS") rfl), fun H => He.tupB_ok (x := "SIGNS") (vs := [.str "0", .str "1"]) (exAt m 0) H⟩
  c_EMPTY := He.str_ok X G (c.fact 17 (f := .str "EMPTY" "-") rfl)
  c_FIGURES := He.str_ok X G (c.fact 18 (f := .str "FIGURES" "0123456789") rfl)
  c_LINE_END := He.str_ok X G (c.fact 19 (f := .str "LINE_END" "\n") rfl)
  c_LETTERS := He.str_ok X G (c.fact 20 (f := .str "LETTERS" "abcdefghijklmnopqrstuvwxyz") rfl)
  c_MOST_PLACES := He.int_ok X G (c.fact 21 (f := .int "MOST_PLACES" 60) rfl)
  c_MOST_NODES_readers := He.int_ok X G (c.fact 22 (f := .int "MOST_NODES_readers" 9) rfl)
  c_MOST_NODES_terms := He.int_ok X G (c.fact 23 (f := .int "MOST_NODES_terms" 9) rfl)
  c_IN := He.str_ok X G (c.fact 24 (f := .str "IN" "in") rfl)
  c_LATE := He.str_ok X G (c.fact 25 (f := .str "LATE" "late") rfl)
  c_BY := He.str_ok X G (c.fact 26 (f := .str "BY" "by") rfl)
  c_KEEP := He.str_ok X G (c.fact 27 (f := .str "KEEP" "keep") rfl)
  c_THEN := He.str_ok X G (c.fact 28 (f := .str "THEN" "then") rfl)
  c_OF_ONE := ⟨He.glo_ok X G (c.fact 29 (f := .glo "OF_ONE") rfl), fun H => He.tupB_ok (x := "OF_ONE") (vs := [.str "not", .str "twice", .str "half", .str "change", .str "count"]) (exAt m 1) H⟩
  c_OF_TWO := ⟨He.glo_ok X G (c.fact 30 (f := .glo "OF_TWO") rfl), fun H => He.tupB_ok (x := "OF_TWO") (vs := [.str "keep", .str "then"]) (exAt m 2) H⟩
  d_is_sign := defAt (c.def_ 0 (d := dG "is_sign" s_is_sign) rfl) (He.glo_ok X G (c.fact 32 (f := .glo "is_sign") rfl))
  d_is_text := defAt (c.def_ 1 (d := dG "is_text" s_is_text) rfl) (He.glo_ok X G (c.fact 33 (f := .glo "is_text") rfl))
  d_is_number := defAt (c.def_ 2 (d := dG "is_number" s_is_number) rfl) (He.glo_ok X G (c.fact 34 (f := .glo "is_number") rfl))
  d_is_text_word := defAt (c.def_ 3 (d := dG "is_text_word" s_is_text_word) rfl) (He.glo_ok X G (c.fact 35 (f := .glo "is_text_word") rfl))
  d_text_in := defAt (c.def_ 4 (d := dG "text_in" s_text_in) rfl) (He.glo_ok X G (c.fact 36 (f := .glo "text_in") rfl))
  d_parts_of := defAt (c.def_ 5 (d := dG "parts_of" s_parts_of) rfl) (He.glo_ok X G (c.fact 37 (f := .glo "parts_of") rfl))
  d_has_shape := defAt (c.def_ 6 (d := dG "has_shape" s_has_shape) rfl) (He.glo_ok X G (c.fact 38 (f := .glo "has_shape") rfl))
  d_is_term := defAt (c.def_ 7 (d := dG "is_term" s_is_term) rfl) (He.glo_ok X G (c.fact 39 (f := .glo "is_term") rfl))
  d_term_text := defAt (c.def_ 8 (d := dG "term_text" s_term_text) rfl) (He.glo_ok X G (c.fact 40 (f := .glo "term_text") rfl))
  d_written := defAt (c.def_ 9 (d := dG "written" s_written) rfl) (He.glo_ok X G (c.fact 41 (f := .glo "written") rfl))
  d_read_by := defAt (c.def_ 10 (d := dG "read_by" s_read_by) rfl) (He.glo_ok X G (c.fact 42 (f := .glo "read_by") rfl))
  d_read_table := defAt (c.def_ 11 (d := dG "read_table" s_read_table) rfl) (He.glo_ok X G (c.fact 43 (f := .glo "read_table") rfl))
  d_read_term := defAt (c.def_ 12 (d := dG "read_term" s_read_term) rfl) (He.glo_ok X G (c.fact 44 (f := .glo "read_term") rfl))
  d__law_pot := defAt (c.def_ 13 (d := dG "_law_pot" s__law_pot) rfl) (He.glo_ok X G (c.fact 45 (f := .glo "_law_pot") rfl))
  d__law_draw := defAt (c.def_ 14 (d := dG "_law_draw" s__law_draw) rfl) (He.glo_ok X G (c.fact 46 (f := .glo "_law_draw") rfl))
  d__law_pick := defAt (c.def_ 15 (d := dG "_law_pick" s__law_pick) rfl) (He.glo_ok X G (c.fact 47 (f := .glo "_law_pick") rfl))
  d__law_dash := defAt (c.def_ 16 (d := dG "_law_dash" s__law_dash) rfl) (He.glo_ok X G (c.fact 48 (f := .glo "_law_dash") rfl))
  d__law_table := defAt (c.def_ 17 (d := dG "_law_table" s__law_table) rfl) (He.glo_ok X G (c.fact 49 (f := .glo "_law_table") rfl))
  d__law_table_lines := defAt (c.def_ 18 (d := dG "_law_table_lines" s__law_table_lines) rfl) (He.glo_ok X G (c.fact 50 (f := .glo "_law_table_lines") rfl))
  d__law_term := defAt (c.def_ 19 (d := dG "_law_term" s__law_term) rfl) (He.glo_ok X G (c.fact 51 (f := .glo "_law_term") rfl))
  d__law_whole := defAt (c.def_ 20 (d := dG "_law_whole" s__law_whole) rfl) (He.glo_ok X G (c.fact 52 (f := .glo "_law_whole") rfl))
  d__law_told := defAt (c.def_ 21 (d := dG "_law_told" s__law_told) rfl) (He.glo_ok X G (c.fact 53 (f := .glo "_law_told") rfl))
  d__law_odd_line := defAt (c.def_ 22 (d := dG "_law_odd_line" s__law_odd_line) rfl) (He.glo_ok X G (c.fact 54 (f := .glo "_law_odd_line") rfl))
  d__law_far_place := defAt (c.def_ 23 (d := dG "_law_far_place" s__law_far_place) rfl) (He.glo_ok X G (c.fact 55 (f := .glo "_law_far_place") rfl))
  d__law_tables_right := defAt (c.def_ 24 (d := dG "_law_tables_right" s__law_tables_right) rfl) (He.glo_ok X G (c.fact 56 (f := .glo "_law_tables_right") rfl))
  d__law_sixty_right := defAt (c.def_ 25 (d := dG "_law_sixty_right" s__law_sixty_right) rfl) (He.glo_ok X G (c.fact 57 (f := .glo "_law_sixty_right") rfl))
  d__law_odd_term := defAt (c.def_ 26 (d := dG "_law_odd_term" s__law_odd_term) rfl) (He.glo_ok X G (c.fact 58 (f := .glo "_law_odd_term") rfl))
  d__law_terms_right := defAt (c.def_ 27 (d := dG "_law_terms_right" s__law_terms_right) rfl) (He.glo_ok X G (c.fact 59 (f := .glo "_law_terms_right") rfl))
  d__law_right := defAt (c.def_ 28 (d := dG "_law_right" s__law_right) rfl) (He.glo_ok X G (c.fact 60 (f := .glo "_law_right") rfl))
  d_law := defAt (c.def_ 29 (d := dG "law" s_law) rfl) (He.glo_ok X G (c.fact 61 (f := .glo "law") rfl))
  g_TableReader := He.glo_ok X G (c.fact 62 (f := .glo "TableReader") rfl)
  cl_TableReader := He.cls_ok (c.fact 63 (f := .cls "TableReader") rfl)
  mk_TableReader := He.mkr_ok (c.fact 64 (f := .mkr "TableReader") rfl)
  na_TableReader_own_first := He.noat_ok (c.fact 65 (f := .noat "TableReader" "own_first") rfl)
  na_TableReader_own_rows := He.noat_ok (c.fact 66 (f := .noat "TableReader" "own_rows") rfl)
  m_TableReader___init__ := methAt (c.def_ 30 (d := dM "TableReader" "__init__" "TableReader.__init__" s_TableReader___init__) rfl) (He.meth_ok (c.fact 67 (f := .meth "TableReader" "__init__") rfl))
  m_TableReader_take := methAt (c.def_ 31 (d := dM "TableReader" "take" "TableReader.take" s_TableReader_take) rfl) (He.meth_ok (c.fact 68 (f := .meth "TableReader" "take") rfl))
  m_TableReader_is_whole := methAt (c.def_ 32 (d := dM "TableReader" "is_whole" "TableReader.is_whole" s_TableReader_is_whole) rfl) (He.meth_ok (c.fact 69 (f := .meth "TableReader" "is_whole") rfl))
  m_TableReader_wrong_lines := methAt (c.def_ 33 (d := dM "TableReader" "wrong_lines" "TableReader.wrong_lines" s_TableReader_wrong_lines) rfl) (He.meth_ok (c.fact 70 (f := .meth "TableReader" "wrong_lines") rfl))
  m_TableReader_made := methAt (c.def_ 34 (d := dM "TableReader" "made" "TableReader.made" s_TableReader_made) rfl) (He.meth_ok (c.fact 71 (f := .meth "TableReader" "made") rfl))
  g_TermReader := He.glo_ok X G (c.fact 72 (f := .glo "TermReader") rfl)
  cl_TermReader := He.cls_ok (c.fact 73 (f := .cls "TermReader") rfl)
  mk_TermReader := He.mkr_ok (c.fact 74 (f := .mkr "TermReader") rfl)
  na_TermReader_own_term := He.noat_ok (c.fact 75 (f := .noat "TermReader" "own_term") rfl)
  na_TermReader_own_line := He.noat_ok (c.fact 76 (f := .noat "TermReader" "own_line") rfl)
  na_TermReader_own_left := He.noat_ok (c.fact 77 (f := .noat "TermReader" "own_left") rfl)
  m_TermReader___init__ := methAt (c.def_ 35 (d := dM "TermReader" "__init__" "TermReader.__init__" s_TermReader___init__) rfl) (He.meth_ok (c.fact 78 (f := .meth "TermReader" "__init__") rfl))
  m_TermReader_pass_over := methAt (c.def_ 36 (d := dM "TermReader" "pass_over" "TermReader.pass_over" s_TermReader_pass_over) rfl) (He.meth_ok (c.fact 79 (f := .meth "TermReader" "pass_over") rfl))
  m_TermReader_word := methAt (c.def_ 37 (d := dM "TermReader" "word" "TermReader.word" s_TermReader_word) rfl) (He.meth_ok (c.fact 80 (f := .meth "TermReader" "word") rfl))
  m_TermReader_signs := methAt (c.def_ 38 (d := dM "TermReader" "signs" "TermReader.signs" s_TermReader_signs) rfl) (He.meth_ok (c.fact 81 (f := .meth "TermReader" "signs") rfl))
  m_TermReader_node := methAt (c.def_ 39 (d := dM "TermReader" "node" "TermReader.node" s_TermReader_node) rfl) (He.meth_ok (c.fact 82 (f := .meth "TermReader" "node") rfl))
  m_TermReader_take := methAt (c.def_ 40 (d := dM "TermReader" "take" "TermReader.take" s_TermReader_take) rfl) (He.meth_ok (c.fact 83 (f := .meth "TermReader" "take") rfl))
  m_TermReader_is_whole := methAt (c.def_ 41 (d := dM "TermReader" "is_whole" "TermReader.is_whole" s_TermReader_is_whole) rfl) (He.meth_ok (c.fact 84 (f := .meth "TermReader" "is_whole") rfl))
  m_TermReader_wrong_lines := methAt (c.def_ 42 (d := dM "TermReader" "wrong_lines" "TermReader.wrong_lines" s_TermReader_wrong_lines) rfl) (He.meth_ok (c.fact 85 (f := .meth "TermReader" "wrong_lines") rfl))
  m_TermReader_made := methAt (c.def_ 43 (d := dM "TermReader" "made" "TermReader.made" s_TermReader_made) rfl) (He.meth_ok (c.fact 86 (f := .meth "TermReader" "made") rfl))
  g_FlowError := He.glo_ok X G (c.fact 87 (f := .glo "FlowError") rfl)
  m_FlowError___init__ := methAt (c.def_ 44 (d := dM "FlowError" "__init__" "FlowError.__init__" s_FlowError___init__) rfl) (He.meth_ok (c.fact 88 (f := .meth "FlowError" "__init__") rfl))
  g_InvalidLines := He.glo_ok X G (c.fact 89 (f := .glo "InvalidLines") rfl)
  m_InvalidLines___init__ := methAt (c.def_ 45 (d := dM "InvalidLines" "__init__" "InvalidLines.__init__" s_InvalidLines___init__) rfl) (He.meth_ok (c.fact 90 (f := .meth "InvalidLines" "__init__") rfl))
  g_Yard := He.glo_ok X G (c.fact 91 (f := .glo "Yard") rfl)
  g_Station := He.glo_ok X G (c.fact 92 (f := .glo "Station") rfl)
  y_exits := ex_exits m
  x_oex := ⟨oexB_ok (exAt m 7), He.eqO_ok (exAt m 8), dec (exAt m 9), dec (exAt m 10), exAt m 11⟩
  x_value := He.eqO_ok (exAt m 12)
  x_line := He.eqO_ok (exAt m 13)
  x_fe := ex_fe m
  x_ve := ex_ve m
  x_ty := dec (exAt m 18)
  x_xf := xfB_ok (exAt m 19)
  x_exc := ⟨(xfB_ok (exAt m 19)).ga, (xfB_ok (exAt m 19)).gg, (xfB_ok (exAt m 19)).exC, (xfB_ok (exAt m 19)).hdC, He.eqO_ok (exAt m 20), He.eqO_ok (exAt m 21), dec (exAt m 22), dec (exAt m 23)⟩
  x_exm := dec (exAt m 24)
  x_isF := dec (exAt m 25)
  x_isV := dec (exAt m 26)
  x_ga := by
    have key : ∀ {x : Str}, mg x = some (.ref (He.ga K x)) → ∀ f, mg x = some (.ref f) → f = He.ga K x := fun e f e2 => by
      rw [e] at e2
      cases e2
      rfl
    intro x hx
    simp only [List.mem_cons, List.not_mem_nil, or_false] at hx
    rcases hx with rfl | rfl | rfl | rfl
    · exact key (He.glo_ok X G (c.fact 56 (f := .glo "_law_tables_right") rfl))
    · exact key (He.glo_ok X G (c.fact 57 (f := .glo "_law_sixty_right") rfl))
    · exact key (He.glo_ok X G (c.fact 59 (f := .glo "_law_terms_right") rfl))
    · exact key (He.glo_ok X G (c.fact 60 (f := .glo "_law_right") rfl))
  x_gF := exAt m 27
  x_gI := exAt m 11
theorem tx2_of (m : hEx K = true) : Tx2 K := ⟨dec (exAt m 28), dec (exAt m 29), dec (exAt m 30), dec (exAt m 31)⟩
/-- a dict with these keys has no others -/
theorem dic_no {P : Params} {a : Addr} {ks : List Str} (e : He.dicW K a = some (He.keysIn P ks)) {z : Str} (hz : z ∉ ks) : PySem.W.nsIn K a z = some none := by
  unfold He.dicW at e
  unfold PySem.W.nsIn
  split at e
  · rename_i c es n sl q
    split at e
    · have e := Option.some.inj e
      have hk : ∀ x ∈ es.toList, ∃ y t, x.key = .str y t ∧ y ∈ ks := fun x hx => by
        have h1 : He.keyOf x ∈ He.keysIn P ks := by
          rw [← e]
          exact List.mem_map.mpr ⟨x, hx, rfl⟩
        obtain ⟨y, hy, e2⟩ := List.mem_map.mp h1
        unfold He.keyOf at e2
        split at e2
        · rename_i y' t q2
          have := Option.some.inj e2
          have : y = y' := congrArg Prod.fst this
          exact ⟨y', t, q2, this ▸ hy⟩
        · cases e2
      have h1 : es.toList.find? (·.key.isStr z) = none := List.find?_eq_none.mpr fun x hx => by
        obtain ⟨y, t, ek, hy⟩ := hk x hx
        rw [ek]
        have ne : ¬ y = z := fun q => hz (q ▸ hy)
        show ¬ (y == z) = true
        simpa using ne
      have h2 : es.toList.any (·.refKey) = false := by
        cases q2 : es.toList.any (·.refKey) with
        | false => rfl
        | true =>
          obtain ⟨x, hx, r⟩ := List.any_eq_true.mp q2
          obtain ⟨y, t, ek, hy⟩ := hk x hx
          unfold DictEntry.refKey at r
          rw [ek] at r
          cases r
      simp only [q, h1, h2]
      rfl
    · cases e
  · cases e
theorem parts_not {z : Str} (h : partsL.lookup z = none) : z ∉ partsK := fun hz => by
  have key : ∀ z ∈ partsK, (partsL.lookup z).isSome = true := by decide +kernel
  have := key z hz
  rw [h] at this
  cases this
theorem partsAt_of (X : K.In h) (G : h.Ns mainGlobals mg) (c : He.SaysT hFa hFn hTs w K) (m : hEx K = true) : PartsAt w K mg where
  kd := c.tab 0 (t := (fun K => He.ga K "PARTS", partsK)) rfl
  g := He.glo_ok X G (c.d.fact 31 (f := .glo "PARTS") rfl)
  no := fun z hz => by
    have e : hTs.map (fun t => He.dicW K (t.1 K)) = hTs.map fun t => some (He.keysIn w.params t.2) := congrArg Prod.snd c
    have e2 : He.dicW K (He.ga K "PARTS") = some (He.keysIn w.params partsK) := by
      injection e
    exact dic_no e2 (parts_not hz)
  yes := fun z k hz => by
    have hm := lookup_in hz
    have key : ∀ q ∈ partsL, (q.1, He.Dv.int (q.2 : Int)) ∈ ([("not", .int 1), ("late", .int 1), ("twice", .int 1), ("half", .int 1), ("change", .int 1), ("count", .int 1), ("by", .int 2), ("keep", .int 2), ("then", .int 2)] : List (Str × He.Dv)) := by
      intro q hq
      simp only [partsL, List.mem_cons, List.not_mem_nil, or_false] at hq
      rcases hq with rfl | rfl | rfl | rfl | rfl | rfl | rfl | rfl | rfl <;> simp
    obtain ⟨u, e, r⟩ := He.valsB_ok (exAt m 3) (key _ hm)
    cases u with
    | int i t =>
      obtain ⟨t', e'⟩ := r
      exact ⟨t', by rw [e, e']⟩
    | _ =>
      obtain ⟨t', e'⟩ := r
      cases e'
theorem lamAt_of (m : hEx K = true) {base : Heap} (tb : ∀ p ∈ lamNames.map fun x => He.cT K (x, none), TabB base mg p.1 p.2) : LamAt base K mg where
  tb := fun x hx => tb _ (List.mem_map.mpr ⟨x, hx, rfl⟩)
  hu := fun p hp q hq e => by
    have h1 := List.all_eq_true.mp (List.all_eq_true.mp (show tabsUB K = true from exAt m 32) p hp) q hq
    rw [decide_eq_true e] at h1
    exact dec h1
end
end Fy
/-! Ho -/
namespace Fy
open PySem PySem.Spec PyProof.Rows L2 LamX
theorem lawAt {w : World} {mg : Str → Option Value} {fa : Addr} {h : Heap} {K : PySem.W.Frag} (X : K.In h) (c : hSays w h K) (G : h.Ns mainGlobals mg) (hmg : mg "law" = some (.ref fa)) :
    LamX.LawAtS PySem.Challenge.rw_flowyard_k92_wrong_lines_of_tables_and_t w K C8.CX0 22 63 "_law_script" mg fa h := by
  have T := tx_of X G c.t.d c.more
  obtain ⟨f, fd, F, g⟩ := T.d_law
  have ef : f = fa := by
    have := g.symm.trans hmg
    injection this with this
    injection this
  subst ef
  refine ⟨fd, lamNames.map fun x => He.cT K (x, none), sp_law K, fun p hp => ?_, fun p hp => ?_, fun p hp => ?_, fun s u => ?_, fun H a ns hl hb hT hS => ?_, fun base Xb Gb tb => ?_⟩
  · obtain ⟨x, hx, rfl⟩ := List.mem_map.mp hp
    exact c.empty (x, none) (List.mem_map.mpr ⟨x, hx, rfl⟩)
  · obtain ⟨x, hx, rfl⟩ := List.mem_map.mp hp
    exact c.out (x, none) (List.mem_map.mpr ⟨x, hx, rfl⟩)
  · obtain ⟨x, hx, rfl⟩ := List.mem_map.mp hp
    exact PySem.W.codeHd_of_K X (c.hd (x, none) (List.mem_map.mpr ⟨x, hx, rfl⟩))
  · exact FunD.bindsA (ps := ["_law_script"]) F (fun _ _ _ _ _ _ us hl => match us, hl with | [_], _ => rfl) s [u] rfl
  · refine ⟨a, ns, rfl, hS, hl, fun p hp => ?_, fun _ => rfl⟩
    obtain ⟨x, hx, rfl⟩ := List.mem_map.mp hp
    exact TabS.nil (hT _ (List.mem_map.mpr ⟨x, hx, rfl⟩))
  · exact ok_law T (tx2_of c.more) (partsAt_of X G c.t c.more) (lamAt_of c.more tb) F
end Fy
open PySem PySem.W PySem.Calls PyProof.Rows
theorem PySem.Challenge.cw_flowyard_k92_wrong_lines_of_tables_and_t_holds : PySem.Challenge.rw_flowyard_k92_wrong_lines_of_tables_and_t.Holds := by
  w_on; o_law
  refine HandSHeadRun.head_any (r := OpenLaw.row PySem.Challenge.rw_flowyard_k92_wrong_lines_of_tables_and_t) (q := Fy.hQ) (H := Fy.hHk) (ob := Fy.hOb) (M := 9000) (loose := Fy.hNames) (d := HandSHeadRun.topDef (OpenLaw.row PySem.Challenge.rw_flowyard_k92_wrong_lines_of_tables_and_t).prog 99) (kwd := []) Fy.hOb_eq
    (by kernel_rfl) (fun s => by kernel_rfl) Fy.hRun (by kernel_rfl) (by kernel_rfl) (by kernel_rfl) (by rfl) (by first | assumption | decide +kernel) (by decide +kernel) ⟨rfl, rfl, rfl, rfl, rfl, by decide +kernel⟩ ?hw ?hc
  case hw => w_witness2
  case hc =>
    refine LamX.walk_ofTsE (l := PySem.Challenge.rw_flowyard_k92_wrong_lines_of_tables_and_t) (n := 63) (k := 22) (x := "_law_script") (CX := fun _ => C8.CX0) rfl (by decide) (by kernel_rfl) ⟨rfl, by decide, by decide⟩ ?F (fun _ _ _ _ _ z => z)
    intro w mg fa h Y G hmg0
    obtain ⟨K, KX, c⟩ := Y
    have hmg : mg ("law" : PySem.Str) = some (.ref fa) := by
      have e : (HandSHeadRun.topDef (OpenLaw.row PySem.Challenge.rw_flowyard_k92_wrong_lines_of_tables_and_t).prog 99).name = ("law" : PySem.Str) := by kernel_rfl
      rw [← e]
      exact hmg0
    exact ⟨K, KX, Fy.lawAt KX c G hmg⟩
