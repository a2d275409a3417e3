import PyProof.Rows.All
import Wide.All
import OpenK.AllK
import Wide.FinOn
import HandS.ForMost
import HandS.ForExc
import HandS.Lambda
import HandS.ExcInit
import HandS.ExcCtx
import HandS.Hot
import KE.KExcIs
import HandS.ExcIs
import HandS.ExcField
import HandS.Wide
import HandS.Zip
import HandS.Style
import HandS.TupLe
import HandS.TupAny
import HandS.Steps
import HandS.IsInst
import HandS.SortInts
import HandS.HeadHook4
import HandS.Head0
import HandS.Head1
import HandS.Head2
import HandS.HeadEnd
import HandS.HeadWalk
import PySem.Challenge.RW_toldties_k78_sketches_as_texts
import HandS.RaiseMore
import KE.DataMinMax
import HandS.Defaults
import HandS.More
import HandS.HotCalls
import HandS.SetFor
import HandS.Strs
import HandS.EndTab
set_option Elab.async false
set_option linter.all false
set_option maxRecDepth 100000
set_option maxHeartbeats 2000000
/-! EB: what the head's run looks at, ahead of all else -/
namespace DL
open PySem PySem.Spec PyProof.Rows L2 LamX
abbrev D := PyData
mutual
def dqB (K : PySem.W.Frag) : Value → D → Bool
  | .none, .none => true
  | .bool b, .bool c => b == c
  | .int i _, .int j => decide (i = j)
  | .str x _, .str y => decide (x = y) && PyData.strOk y
  | .ref a, .tuple ds => (match K.lookup a with
    | some ⟨.type c, _, .seq its _, _⟩ => decide (c = "tuple") && (decide (its.size ≤ sizeLine) && dqAllB K its.toList ds)
    | _ => false)
  | _, _ => false
def dqAllB (K : PySem.W.Frag) : List Value → List D → Bool
  | [], [] => true
  | v :: vs, d :: ds => dqB K v d && dqAllB K vs ds
  | _, _ => false
end
def gcB (K : PySem.W.Frag) (x : Str) (d : D) : Bool := match PySem.W.nsIn K mainGlobals x with
  | some (some u) => dqB K u d
  | _ => false
def gkB (K : PySem.W.Frag) (a : Addr) (kvs : List (Str × D)) : Bool := kvs.all fun q => match PySem.W.nsIn K a q.1 with
  | some (some u) => (match kvs.lookup q.1 with
    | some d => dqB K u d
    | none => false)
  | _ => false
def oexB (K : PySem.W.Frag) (C : Addr) : Bool := (match K.lookup C with
  | some ⟨.type t, _, .cls cd, sl⟩ => decide (t = "type") && (match cd.mro, sl.toList with
    | .ref C' :: bm, [_, _, _, _, some (.builtin n), _] => decide (C' = C) && (decide (n = "ValueError.__new__") && (!cd.hasDel && (cd.hasDict && PySem.HandSPX.refsVE bm)))
    | _, _ => false)
  | _ => false) && (decide (PySem.W.findIn K (.ref C) "__setattr__" = some (some (.builtin "object.__setattr__"))) && (decide (PySem.W.subIn K (.ref C) (.type "BaseException") = some true) && (decide (PySem.W.typeIn K (.ref C) = some (.type "type")) && PySem.W.keepIn K (.ref C))))
def excCB (K : PySem.W.Frag) (C : Addr) : Bool := decide (PySem.W.findIn K (.ref C) "__getattribute__" = some (some (.builtin "BaseException.__getattribute__"))) && (decide (PySem.W.findIn K (.ref C) "__getattr__" = some none) && (decide (PySem.W.subIn K (.ref C) (.type "BaseException") = some true) && (PySem.W.hasDictIn K C &&
  (decide (PySem.W.findIn K (.ref C) "__class__" = some (some (.builtin "object.__class__"))) && (decide (PySem.W.specialIn K (.builtin "object.__class__") "__get__" = some (some (.builtin "getset_descriptor.__get__"))) && (decide (PySem.W.takesIn K (.builtin "object.__class__") = some true) && decide (PySem.W.mroIn K C (.type "object") = some true)))))))
/-- an error class x, its base R, the others ns -/
def errB (K : PySem.W.Frag) (R : Str) (ns : List Str) (x : Str) : Bool := oexB K (He.ga K x) && (excCB K (He.ga K x) && (xfB K (He.ga K x) && (decide (PySem.W.findIn K (.ref (He.ga K x)) "what" = some none) && (decide (PySem.W.findIn K (.ref (He.ga K x)) "__init__" = some (some (.ref (He.ma K (He.ga K R) "__init__")))) &&
  (decide (PySem.W.exmOne K (.ref (He.ga K x)) (.ref (He.ga K R)) = some true) && ns.all fun n => decide (PySem.W.kitOne K (.ref (He.ga K x)) (.ref (He.ga K n)) = some (decide (x = n))))))))
end DL

set_option maxRecDepth 100000
set_option maxHeartbeats 0
namespace K78
open PySem PySem.Spec PyProof.Rows L2 LamX DL
def top (i : Nat) : Stmt := PySem.Challenge.pw_toldties_k78_sketches_as_texts.main.body.getD i (.Pass ⟨0, 0, 0, 0⟩)
def frees : List Str := ["len", "max", "min", "sum", "all", "any", "int", "str", "tuple", "list", "bool", "range", "zip", "isinstance", "sorted", "set", "ValueError"]
def d_WORD_LEAVES : D := .tuple [.str ("order" : Str), .str ("nest" : Str), .str ("span" : Str)]
def kv_LEAF_TOPS : List (Str × D) := [(("far" : Str), .int 12), (("rank" : Str), .int 12), (("dial" : Str), .int 13)]
def kv_PART_PLACES : List (Str × D) := [(("twin" : Str), .tuple [.int 1]), (("product" : Str), .tuple [.int 1, .int 2]), (("part" : Str), .tuple [.int 1]), (("lump" : Str), .tuple [.int 1])]
def kv_PART_LENGTHS : List (Str × D) := [(("twin" : Str), .int 2), (("product" : Str), .int 3), (("part" : Str), .int 3), (("lump" : Str), .int 3)]
def hnames : List Str := [("BadSketch" : Str), ("BadText" : Str), ("TooMany" : Str), ("WrongLine" : Str)]
def meth0 : Stmt → Stmt
  | .ClassDef _ _ _ (m :: _) .. => m
  | s => s
abbrev s_init : Stmt := meth0 (top 1)
def tfs : List He.Defn := [("_law_sx_thing_right", none), ("_law_sx_text_right", none), ("law", none)]
def dd (x : Str) (i : Nat) : He.DefD := ⟨(x, none), x, x, defArgs (top i), defBody (top i), defScope (top i), [], []⟩
def ddI : He.DefD := ⟨("Refused", some "__init__"), "__init__", "Refused.__init__", defArgs s_init, defBody s_init, defScope s_init, [], []⟩
def fnL : List He.DefD := [dd "whole_in" 6, dd "are_kind_numbers" 15, dd "are_rising_kinds" 16, dd "made_of" 17, dd "depth_of" 18, dd "is_sketch" 19, dd "asked_text" 24, dd "lines_of" 25, dd "words_of" 26, dd "number_of" 27, dd "list_word" 28, dd "lot_word" 29, dd "lot_text" 30, dd "number_from" 31, dd "asked_end" 32, dd "is_leaf" 35, dd "told_parts" 36, dd "sketch_text" 37, dd "unit_from" 38, dd "listed_from" 39, dd "put_behind" 40, dd "unit_begun" 41, dd "gone_on" 42, dd "sketch_words" 43, dd "read_sketch" 44, dd "_law_tq_is_whole" 46, dd "_law_tq_same" 47, dd "_law_pool" 48, dd "_law_take" 49, dd "_law_one" 50, dd "_law_tt_figures" 51, dd "_law_tt_within" 52, dd "_law_tt_listed" 53, dd "_law_tt_line" 54, dd "_law_tt_list_word" 55, dd "_law_tt_lines" 56, dd "_law_tt_wrong" 57, dd "_law_tt_end" 58, dd "_law_tt_one_line" 59, dd "_law_tt_is_leaf" 60, dd "_law_tt_sketch" 61, dd "_law_tt_parts_of" 62, dd "_law_tt_deep" 63, dd "_law_tt_leaves" 64, dd "_law_tt_unit_in" 65, dd "_law_tt_sketch_in" 66, dd "_law_tt_sketch_read" 67, dd "_law_tt_word_drawn" 68, dd "_law_tt_otherwise" 69, dd "_law_tt_leaf_drawn" 70, dd "_law_tt_list_drawn" 71, dd "_law_tt_sketch_drawn" 72, dd "_law_tt_more_brackets" 73, dd "_law_sx_heard" 74, dd "_law_sx_is_within" 75, dd "_law_sx_is_list" 76, dd "_law_sx_is_part" 77, dd "_law_sx_is_own" 78, dd "_law_sx_bent" 79, dd "_law_sx_thing_right" 80, dd "_law_sx_text_right" 81, dd "_law_sx_deep" 82, dd "_law_sx_wide" 83, dd "_law_sx_planted_right" 84, dd "law" 85, ddI]
def gloL : List Str := [("whole_in" : Str), ("are_kind_numbers" : Str), ("are_rising_kinds" : Str), ("made_of" : Str), ("depth_of" : Str), ("is_sketch" : Str), ("asked_text" : Str), ("lines_of" : Str), ("words_of" : Str), ("number_of" : Str), ("list_word" : Str), ("lot_word" : Str), ("lot_text" : Str), ("number_from" : Str), ("asked_end" : Str), ("is_leaf" : Str), ("told_parts" : Str), ("sketch_text" : Str), ("unit_from" : Str), ("listed_from" : Str), ("put_behind" : Str), ("unit_begun" : Str), ("gone_on" : Str), ("sketch_words" : Str), ("read_sketch" : Str), ("_law_tq_is_whole" : Str), ("_law_tq_same" : Str), ("_law_pool" : Str), ("_law_take" : Str), ("_law_one" : Str), ("_law_tt_figures" : Str), ("_law_tt_within" : Str), ("_law_tt_listed" : Str), ("_law_tt_line" : Str), ("_law_tt_list_word" : Str), ("_law_tt_lines" : Str), ("_law_tt_wrong" : Str), ("_law_tt_end" : Str), ("_law_tt_one_line" : Str), ("_law_tt_is_leaf" : Str), ("_law_tt_sketch" : Str), ("_law_tt_parts_of" : Str), ("_law_tt_deep" : Str), ("_law_tt_leaves" : Str), ("_law_tt_unit_in" : Str), ("_law_tt_sketch_in" : Str), ("_law_tt_sketch_read" : Str), ("_law_tt_word_drawn" : Str), ("_law_tt_otherwise" : Str), ("_law_tt_leaf_drawn" : Str), ("_law_tt_list_drawn" : Str), ("_law_tt_sketch_drawn" : Str), ("_law_tt_more_brackets" : Str), ("_law_sx_heard" : Str), ("_law_sx_is_within" : Str), ("_law_sx_is_list" : Str), ("_law_sx_is_part" : Str), ("_law_sx_is_own" : Str), ("_law_sx_bent" : Str), ("_law_sx_thing_right" : Str), ("_law_sx_text_right" : Str), ("_law_sx_deep" : Str), ("_law_sx_wide" : Str), ("_law_sx_planted_right" : Str), ("law" : Str), ("Refused" : Str), ("TooMany" : Str), ("BadSketch" : Str), ("BadText" : Str), ("WrongLine" : Str), ("LEAF_TOPS" : Str), ("PART_PLACES" : Str), ("PART_LENGTHS" : Str)]
def faL : List He.Fa := gloL.map He.Fa.glo ++ frees.map He.Fa.free
def tsL : List He.Tab := [(fun K => He.ga K "LEAF_TOPS", kv_LEAF_TOPS.map (·.1)), (fun K => He.ga K "PART_PLACES", kv_PART_PLACES.map (·.1)), (fun K => He.ga K "PART_LENGTHS", kv_PART_LENGTHS.map (·.1))]
def vV (K : PySem.W.Frag) : Bool := match PySem.W.findCls K (.type "ValueError") (.type "type") "__init__" with
  | some (.val (.builtin b)) => decide (b = "ValueError.__init__")
  | _ => false
theorem vV_ok {K : PySem.W.Frag} (h : vV K = true) : PySem.W.findCls K (.type "ValueError") (.type "type") "__init__" = some (.val (.builtin "ValueError.__init__")) := by
  unfold vV at h
  split at h
  · rename_i b e
    rw [e, of_decide_eq_true h]
  · cases h
def exL (K : PySem.W.Frag) : List Bool := [gcB K ("MOST_KINDS" : Str) (.int 13),
  gcB K ("MOST_DEPTH" : Str) (.int 20),
  gcB K ("MOST_LEAVES" : Str) (.int 100),
  gcB K ("WORD_LEAVES" : Str) d_WORD_LEAVES,
  gcB K ("MOST_SIGNS" : Str) (.int 1000000),
  gcB K ("MOST_FIGURES" : Str) (.int 20),
  gcB K ("LOT_SIGN" : Str) (.str (",":Str)),
  gcB K ("MOST_OPEN" : Str) (.int 20),
  gkB K (He.ga K "LEAF_TOPS") kv_LEAF_TOPS,
  gkB K (He.ga K "PART_PLACES") kv_PART_PLACES,
  gkB K (He.ga K "PART_LENGTHS") kv_PART_LENGTHS,
  errB K "Refused" hnames ("BadSketch" : Str),
  errB K "Refused" hnames ("BadText" : Str),
  errB K "Refused" hnames ("TooMany" : Str),
  errB K "Refused" hnames ("WrongLine" : Str),
  decide (PySem.W.typeIn K (.ref (He.ma K (He.ga K "Refused") "__init__")) = some (.type "function")),
  vV K,
  decide ((tfs.map fun p => (He.cT K p).2).Nodup)]
def exB (K : PySem.W.Frag) : Bool := (exL K).all id
abbrev lawR : PySem.W.OpenLaw := PySem.Challenge.rw_toldties_k78_sketches_as_texts
abbrev R : PySem.W.OpenRow := PySem.W.OpenLaw.row lawR
abbrev hk : PySem.W.Hook := He.hookX 5 faL fnL tsL tfs exB
def ob (s : PySem.W.SharedT) : He.AlX := He.obsX 5 faL fnL tsL tfs exB (HandSHeadRun.getT s)
theorem ob_eq (s : PySem.W.SharedT) : ob s = hk.obs s.abs := He.obsX_eq (HandSHeadRun.getT_eq s)
def loose0 : List PySem.Str := ["Refused", "TooMany", "BadSketch", "BadText", "WrongLine", "whole_in", "MOST_KINDS", "MOST_DEPTH", "MOST_LEAVES", "WORD_LEAVES", "LEAF_TOPS", "PART_PLACES", "PART_LENGTHS", "are_kind_numbers", "are_rising_kinds", "made_of", "depth_of", "is_sketch", "MOST_SIGNS", "MOST_FIGURES", "LOT_SIGN", "asked_text", "lines_of", "words_of", "number_of", "list_word", "lot_word", "lot_text", "number_from", "asked_end"]
def loose1 : List PySem.Str := ["MOST_OPEN", "is_leaf", "told_parts", "sketch_text", "unit_from", "listed_from", "put_behind", "unit_begun", "gone_on", "sketch_words", "read_sketch", "_law_tq_is_whole", "_law_tq_same", "_law_pool", "_law_take", "_law_one", "_law_tt_figures", "_law_tt_within", "_law_tt_listed", "_law_tt_line", "_law_tt_list_word", "_law_tt_lines", "_law_tt_wrong", "_law_tt_end", "_law_tt_one_line", "_law_tt_is_leaf", "_law_tt_sketch", "_law_tt_parts_of", "_law_tt_deep", "_law_tt_leaves"]
def loose2 : List PySem.Str := ["_law_tt_unit_in", "_law_tt_sketch_in", "_law_tt_sketch_read", "_law_tt_word_drawn", "_law_tt_otherwise", "_law_tt_leaf_drawn", "_law_tt_list_drawn", "_law_tt_sketch_drawn", "_law_tt_more_brackets", "_law_sx_heard", "_law_sx_is_within", "_law_sx_is_list", "_law_sx_is_part", "_law_sx_is_own", "_law_sx_bent", "_law_sx_thing_right", "_law_sx_text_right", "_law_sx_deep", "_law_sx_wide", "_law_sx_planted_right"]
def looseL : List PySem.Str := loose0 ++ loose1 ++ loose2
theorem run_f (w : World) : HandSHeadRun.RunEq R (PySem.W.view R.prog [85]) hk ob 6000 looseL (w.withFollow "special-get-raises" false) := by
  intro os
  kernel_rfl
theorem run_t (w : World) : HandSHeadRun.RunEq R (PySem.W.view R.prog [85]) hk ob 6000 looseL (w.withFollow "special-get-raises" true) := by
  intro os
  kernel_rfl
theorem run (w : World) : HandSHeadRun.RunEq R (PySem.W.view R.prog [85]) hk ob 6000 looseL w :=
  PySem.W.byRow2 "special-get-raises" (P := fun w => HandSHeadRun.RunEq R (PySem.W.view R.prog [85]) hk ob 6000 looseL w) run_f run_t w
end K78

set_option maxRecDepth 100000
set_option maxHeartbeats 1000000
/-! DL: a semantics on data over the hand layer -/
namespace DL
open PySem PySem.Spec PyProof.Rows L2


/-- what a name holds: data that stands still, a list of one's own, the k-th list that the caller lent -/
inductive SV where
  | dat (d : D)
  | own (ds : List D)
  | par (k : Nat) (ds : List D)
  | exn (a d : Addr) (w : D)
abbrev AS := List (Option SV)

/-- the tables of code objects that are watched -/
class Tbl where
  TT : PySem.W.Frag → List (Addr × Str)
variable [Tbl]
/-- the ground: the heap and the data heap at the entry, the lists lent, the tables -/
structure Gd where
  B0 : Hp
  H0 : Hp
  PA : List Addr

def Ex (H H' : Hp) : Prop := ∀ a o, H a = some o → H' a = some o
theorem Ex.refl (H : Hp) : Ex H H := fun _ _ h => h
theorem Ex.trans {H H1 H2 : Hp} (a : Ex H H1) (b : Ex H1 H2) : Ex H H2 := fun x o h => b x o (a x o h)
theorem Ex.new {H : Hp} {p : Addr} {o : HO} (h : H p = none) : Ex H (upd H p o) := fun a u e => by
  rw [upd_ne (ne_of_none e h)]
  exact e
theorem Ex.mut {H H' : Hp} {p : Addr} {o : HO} (e : Ex H H') (h : H p = none) : Ex H (upd H' p o) := fun a u ha => by
  rw [upd_ne (ne_of_none ha h)]
  exact e a u ha
theorem Ex.both {H H' : Hp} {p : Addr} {o : HO} (e : Ex H H') : Ex (upd H p o) (upd H' p o) := fun a u ha => by
  by_cases h : a = p
  · subst h
    rw [upd_same] at ha ⊢
    exact ha
  · rw [upd_ne h] at ha ⊢
    exact e a u ha
theorem Ex.fresh {H H' : Hp} (e : Ex H H') {a : Addr} (h : H' a = none) : H a = none := by
  cases q : H a with
  | none => rfl
  | some o => rw [e a o q] at h; cases h

theorem rd_mono {H H' : Hp} {a : Addr} {u : HO} (e : Ex H H') (h : Rd H a u) : Rd H' a u := by
  rcases h with h | ⟨o, h⟩
  · exact .inl (e a _ h)
  · exact .inr ⟨o, e a _ h⟩
theorem sqL_mono {K : PySem.W.Frag} {H H' : Hp} {a : Addr} {xs : List V} (e : Ex H H') (h : SqL K H a xs) : SqL K H' a xs := by
  rcases h with h | h
  · exact .inl (rd_mono e h)
  · exact .inr h
theorem sqT_mono {K : PySem.W.Frag} {H H' : Hp} {a : Addr} {xs : List V} (e : Ex H H') (h : SqT K H a xs) : SqT K H' a xs := by
  rcases h with h | h
  · exact .inl (rd_mono e h)
  · exact .inr h
/-! ### data in the heap: lists tracked (or known), tuples that too or of the written part -/
mutual
inductive Dq (K : PySem.W.Frag) (H : Hp) : V → D → Prop
  | non : Dq K H .non .none
  | bl (b : Bool) : Dq K H (.bl b) (.bool b)
  | int (i : Int) : Dq K H (.int i) (.int i)
  | str (x : Str) (h : PyData.strOk x = true) : Dq K H (.str x) (.str x)
  | lst {a : Addr} {xs : List V} {ds : List D} : SqL K H a xs → DqAll K H xs ds → Dq K H (.ref a) (.list ds)
  | tup {a : Addr} {xs : List V} {ds : List D} : SqT K H a xs → DqAll K H xs ds → Dq K H (.ref a) (.tuple ds)
inductive DqAll (K : PySem.W.Frag) (H : Hp) : List V → List D → Prop
  | nil : DqAll K H [] []
  | cons {v : V} {vs : List V} {d : D} {ds : List D} : Dq K H v d → DqAll K H vs ds → DqAll K H (v :: vs) (d :: ds)
end
section
variable {K : PySem.W.Frag} {H H' : Hp}
mutual
theorem dq_dp : ∀ (d : D) (v : V), Dq K H v d → Dp K H v d
  | .none, _, .non => .non
  | .bool _, _, .bl b => .bl b
  | .int _, _, .int i => .int i
  | .str _, _, .str x _ => .str x
  | .list ds, _, .lst s a => .lst s (dqAll_dp ds _ a)
  | .tuple ds, _, .tup s a => .tup s (dqAll_dp ds _ a)
theorem dqAll_dp : ∀ (ds : List D) (vs : List V), DqAll K H vs ds → DpAll K H vs ds
  | [], _, .nil => .nil
  | d :: ds, _, .cons h t => .cons (dq_dp d _ h) (dqAll_dp ds _ t)
end
mutual
theorem dq_mono (e : Ex H H') : ∀ (d : D) (v : V), Dq K H v d → Dq K H' v d
  | .none, _, .non => .non
  | .bool _, _, .bl b => .bl b
  | .int _, _, .int i => .int i
  | .str _, _, .str x h => .str x h
  | .list ds, _, .lst s a => .lst (sqL_mono e s) (dqAll_mono e ds _ a)
  | .tuple ds, _, .tup s a => .tup (sqT_mono e s) (dqAll_mono e ds _ a)
theorem dqAll_mono (e : Ex H H') : ∀ (ds : List D) (vs : List V), DqAll K H vs ds → DqAll K H' vs ds
  | [], _, .nil => .nil
  | d :: ds, _, .cons h t => .cons (dq_mono e d _ h) (dqAll_mono e ds _ t)
end
end
section
variable {K : PySem.W.Frag} {H H' : Hp}
theorem DqAll.length : ∀ {vs : List V} {ds : List D}, DqAll K H vs ds → vs.length = ds.length
  | _, _, .nil => rfl
  | _, _, .cons _ t => by simp [DqAll.length t]
theorem DqAll.get : ∀ {vs : List V} {ds : List D} {i : Nat} {d : D}, DqAll K H vs ds → ds[i]? = some d → ∃ v, vs[i]? = some v ∧ Dq K H v d
  | _, _, _, _, .nil, e => by simp at e
  | _, _, 0, _, .cons h _, e => by simp at e; subst e; exact ⟨_, rfl, h⟩
  | _, _, i + 1, d, .cons _ t, e => by
    obtain ⟨v, h1, h2⟩ := DqAll.get (i := i) t (by simpa using e)
    exact ⟨v, by simpa using h1, h2⟩
theorem DqAll.getV : ∀ {vs : List V} {ds : List D} {i : Nat} {v : V}, DqAll K H vs ds → vs[i]? = some v → ∃ d, ds[i]? = some d ∧ Dq K H v d
  | _, _, _, _, .nil, e => by simp at e
  | _, _, 0, _, .cons h _, e => by simp at e; subst e; exact ⟨_, rfl, h⟩
  | _, _, i + 1, v, .cons _ t, e => by
    obtain ⟨d, h1, h2⟩ := DqAll.getV (i := i) t (by simpa using e)
    exact ⟨d, by simpa using h1, h2⟩
theorem DqAll.append : ∀ {vs ws : List V} {ds es : List D}, DqAll K H vs ds → DqAll K H ws es → DqAll K H (vs ++ ws) (ds ++ es)
  | _, _, _, _, .nil, s => s
  | _, _, _, _, .cons h t, s => .cons h (DqAll.append t s)
theorem DqAll.take : ∀ {vs : List V} {ds : List D} (n : Nat), DqAll K H vs ds → DqAll K H (vs.take n) (ds.take n)
  | _, _, 0, _ => .nil
  | _, _, _ + 1, .nil => .nil
  | _, _, n + 1, .cons h t => .cons h (DqAll.take n t)
theorem DqAll.drop : ∀ {vs : List V} {ds : List D} (n : Nat), DqAll K H vs ds → DqAll K H (vs.drop n) (ds.drop n)
  | _, _, 0, r => r
  | _, _, _ + 1, .nil => .nil
  | _, _, n + 1, .cons _ t => DqAll.drop n t
theorem DqAll.set {v : V} {d : D} (h : Dq K H v d) : ∀ {vs : List V} {ds : List D} (n : Nat), DqAll K H vs ds → DqAll K H (vs.set n v) (ds.set n d)
  | _, _, _, .nil => .nil
  | _, _, 0, .cons _ t => .cons h t
  | _, _, n + 1, .cons g t => .cons g (DqAll.set h n t)
theorem DqAll.dropLast {vs : List V} {ds : List D} (h : DqAll K H vs ds) : DqAll K H vs.dropLast ds.dropLast := by
  rw [List.dropLast_eq_take, List.dropLast_eq_take, h.length]
  exact h.take _
theorem DqAll.eraseIdx : ∀ {vs : List V} {ds : List D} (n : Nat), DqAll K H vs ds → DqAll K H (vs.eraseIdx n) (ds.eraseIdx n)
  | _, _, _, .nil => .nil
  | _, _, 0, .cons _ t => t
  | _, _, n + 1, .cons h t => .cons h (DqAll.eraseIdx n t)
theorem DqAll.reverse : ∀ {vs : List V} {ds : List D}, DqAll K H vs ds → DqAll K H vs.reverse ds.reverse
  | _, _, .nil => .nil
  | _, _, .cons h t => by
    rw [List.reverse_cons, List.reverse_cons]
    exact (DqAll.reverse t).append (.cons h .nil)
theorem DqAll.rep {vs : List V} {ds : List D} (h : DqAll K H vs ds) : ∀ k : Nat, DqAll K H (List.replicate k vs).flatten (List.replicate k ds).flatten
  | 0 => .nil
  | k + 1 => by
    rw [List.replicate_succ, List.replicate_succ, List.flatten_cons, List.flatten_cons]
    exact h.append (DqAll.rep h k)
theorem dqAll_strs : ∀ xs : List Str, (∀ x ∈ xs, PyData.strOk x = true) → DqAll K H (xs.map V.str) (xs.map PyData.str)
  | [], _ => .nil
  | x :: r, h => .cons (.str x (h x (by simp))) (dqAll_strs r fun y hy => h y (by simp [hy]))
theorem dqAll_strs_ok : ∀ {vs : List V} (xs : List Str), DqAll K H vs (xs.map PyData.str) → ∀ x ∈ xs, PyData.strOk x = true
  | _, [], .nil, _, hx => by simp at hx
  | _, x :: r, .cons (.str _ h) t, y, hy => by
    rcases List.mem_cons.mp hy with rfl | hy
    · exact h
    · exact dqAll_strs_ok r t y hy
theorem Dq.strOk {v : V} {x : Str} (h : Dq K H v (.str x)) : v = .str x ∧ PyData.strOk x = true := by cases h with | str _ h => exact ⟨rfl, h⟩
mutual
theorem Dq.lay : ∀ (d : D) (v : V), Dq K H v d → d.canLay0 = true
  | .none, _, .non => by simp [PyData.canLay0]
  | .bool _, _, .bl b => by simp [PyData.canLay0]
  | .int _, _, .int i => by simp [PyData.canLay0]
  | .str _, _, .str x h => by simp [PyData.canLay0, h]
  | .list ds, _, .lst s a => by simp [PyData.canLay0, DqAll.lay ds _ a]
  | .tuple ds, _, .tup s a => by simp [PyData.canLay0, DqAll.lay ds _ a]
theorem DqAll.lay : ∀ (ds : List D) (vs : List V), DqAll K H vs ds → PyData.canLayAll0 ds = true
  | [], _, .nil => by simp [PyData.canLayAll0]
  | d :: ds, _, .cons h t => by simp [PyData.canLayAll0, Dq.lay d _ h, DqAll.lay ds _ t]
end
theorem dqAll_ints : ∀ xs : List Int, DqAll K H (xs.map V.int) (xs.map PyData.int)
  | [] => .nil
  | x :: r => .cons (.int x) (dqAll_ints r)
theorem dqAll_bls : ∀ xs : List Bool, DqAll K H (xs.map V.bl) (xs.map PyData.bool)
  | [] => .nil
  | x :: r => .cons (.bl x) (dqAll_bls r)
theorem dqAll_strs_eq : ∀ {vs : List V} (xs : List Str), DqAll K H vs (xs.map PyData.str) → vs = xs.map V.str
  | _, [], .nil => rfl
  | _, x :: r, .cons (.str _ _) t => by rw [dqAll_strs_eq r t]; rfl
theorem dqAll_ints_eq : ∀ {vs : List V} (xs : List Int), DqAll K H vs (xs.map PyData.int) → vs = xs.map V.int
  | _, [], .nil => rfl
  | _, x :: r, .cons (.int _) t => by rw [dqAll_ints_eq r t]; rfl
theorem dqAll_bls_eq : ∀ {vs : List V} (xs : List Bool), DqAll K H vs (xs.map PyData.bool) → vs = xs.map V.bl
  | _, [], .nil => rfl
  | _, x :: r, .cons (.bl _) t => by rw [dqAll_bls_eq r t]; rfl
end
/-! ### the relation -/
structure Grd (K : PySem.W.Frag) (G : Gd) (B H : Hp) : Prop where
  b0 : Ex G.B0 B
  bn : ∀ a o, B a = some o → G.B0 a = some o ∨ G.H0 a = none
  bh : Ex B H
  nt : ∀ a ps, B a ≠ some (.tbl ps)
  fr : ∀ a o, G.H0 a = some o → a ∉ G.PA → (∀ ps, o ≠ .tbl ps) → H a = some o
  dm : ∀ a, H a = none → G.H0 a = none
  tb : LamX.Tabs (Tbl.TT K) H
  pa : ∀ a ∈ G.PA, B a = none ∧ G.H0 a ≠ none
  ht : ∀ a ps, G.H0 a ≠ some (.tbl ps)
  pl : ∀ a ∈ G.PA, ∃ vs, H a = some (.lst vs)
theorem pl_upd {PA : List Addr} {H : Hp} {a : Addr} {ws : List V} (h : ∀ b ∈ PA, ∃ vs, H b = some (.lst vs)) : ∀ b ∈ PA, ∃ vs, upd H a (.lst ws) b = some (.lst vs) := fun b hb => by
  by_cases z : b = a
  · subst z; exact ⟨_, upd_same⟩
  · rw [upd_ne z]; exact h b hb
theorem pl_new {PA : List Addr} {H : Hp} {p : Addr} {o : HO} (h : ∀ b ∈ PA, ∃ vs, H b = some (.lst vs)) (hp : H p = none) : ∀ b ∈ PA, ∃ vs, upd H p o b = some (.lst vs) := fun b hb => (h b hb).imp fun _ e => Ex.new hp _ _ e
/-- a heap without its tables -/
def ntH (H : Hp) : Hp := fun a => match H a with
  | some (.tbl _) => none
  | o => o
theorem nt_of {H : Hp} {a : Addr} {o : HO} (h : H a = some o) (n : ∀ ps, o ≠ .tbl ps) : ntH H a = some o := by
  unfold ntH
  rw [h]
  split
  · rename_i ps e; cases e; exact absurd rfl (n ps)
  · rfl
theorem nt_some {H : Hp} {a : Addr} {o : HO} (h : ntH H a = some o) : H a = some o ∧ ∀ ps, o ≠ .tbl ps := by
  unfold ntH at h
  split at h
  · cases h
  · rename_i n; exact ⟨h, fun ps e => n ps (by rw [h, e])⟩
theorem nt_none {H : Hp} {a : Addr} (h : ntH H a = none) : H a = none ∨ ∃ ps, H a = some (.tbl ps) := by
  unfold ntH at h
  split at h
  · rename_i ps e; exact .inr ⟨ps, e⟩
  · exact .inl h

/-- the error that a suite holds: its address, its dict, what it bears -/
def ExnR (K : PySem.W.Frag) (B H : Hp) (v : V) (a d : Addr) (w : D) : Prop := v = .ref a ∧ ∃ u, H d = some (.xd [(("what" : Str), u)]) ∧ Dq K B u w
theorem ExnR.mono {K : PySem.W.Frag} {B B' H H' : Hp} {v : V} {a d : Addr} {w : D} (h : ExnR K B H v a d w) (e : Ex B B') (eH : ∀ d o, H d = some (.xd o) → H' d = some (.xd o)) : ExnR K B' H' v a d w := by
  obtain ⟨h1, u, h2, h3⟩ := h
  exact ⟨h1, u, eH _ _ h2, dq_mono e _ _ h3⟩
theorem ExnR.upd {K : PySem.W.Frag} {B H : Hp} {v : V} {a d x : Addr} {w : D} {vs ws : List V} (h : ExnR K B H v a d w) (ha : H x = some (.lst vs)) : ExnR K B (upd H x (.lst ws)) v a d w :=
  h.mono (Ex.refl _) fun d o z => by
    have : d ≠ x := fun q => by subst q; rw [ha] at z; cases z
    rw [upd_ne this]; exact z
def SlotR (K : PySem.W.Frag) (G : Gd) (B H : Hp) (v : V) : SV → Prop
  | .dat d => Dq K B v d
  | .own ds => ∃ a vs, v = .ref a ∧ H a = some (.lst vs) ∧ B a = none ∧ G.H0 a = none ∧ DqAll K B vs ds
  | .par k ds => ∃ a vs, v = .ref a ∧ G.PA[k]? = some a ∧ H a = some (.lst vs) ∧ DqAll K B vs ds
  | .exn a d w => ExnR K B H v a d w

structure Rep (K : PySem.W.Frag) (G : Gd) (B : Hp) (S : AS) (σ : L2.St) (H : Hp) : Prop where
  g : Grd K G B H
  len : σ.length = S.length
  sl : ∀ (i : Nat) (sv : SV), S[i]? = some (some sv) → ∃ v, σ[i]? = some (some v) ∧ SlotR K G B H v sv
  ds : ∀ (i j : Nat) (a : Addr) (x y : List D), S[i]? = some (some (.own x)) → S[j]? = some (some (.own y)) → σ[i]? = some (some (.ref a)) → σ[j]? = some (some (.ref a)) → i = j
  pj : ∀ (i j k : Nat) (x y : List D), S[i]? = some (some (.par k x)) → S[j]? = some (some (.par k y)) → i = j
  pn : G.PA.Nodup

/-- the result of an expression -/
def ResR (K : PySem.W.Frag) (G : Gd) (B : Hp) (S : AS) (σ : L2.St) (H : Hp) (v : V) : SV → Prop
  | .dat d => Dq K B v d
  | .own ds => ∃ a vs, v = .ref a ∧ H a = some (.lst vs) ∧ B a = none ∧ G.H0 a = none ∧ DqAll K B vs ds ∧ ∀ (i : Nat) (x : List D), S[i]? = some (some (SV.own x)) → σ[i]? ≠ some (some (V.ref a))
  | .par _ _ => False
  | .exn _ _ _ => False

inductive Rs (α : Type) where
  | ok (a : α) (S : AS)
  | exc (c : Str) (w : D) (S : AS)
  | stuck
def Rs.bind {α β : Type} (r : Rs α) (k : α → AS → Rs β) : Rs β := match r with
  | .ok a S => k a S
  | .exc c w S => .exc c w S
  | .stuck => .stuck
@[simp] theorem Rs.bind_ok {α β : Type} (a : α) (S : AS) (k : α → AS → Rs β) : (Rs.ok a S).bind k = k a S := rfl
@[simp] theorem Rs.bind_exc {α β : Type} (c : Str) (w : D) (S : AS) (k : α → AS → Rs β) : (Rs.exc c w S : Rs α).bind k = .exc c w S := rfl
@[simp] theorem Rs.bind_stuck {α β : Type} (k : α → AS → Rs β) : (Rs.stuck : Rs α).bind k = .stuck := rfl

/-- data out of a result -/
def frz : SV → D
  | .dat d => d
  | .own ds => .list ds
  | .par _ ds => .list ds
  | .exn _ _ _ => .none

section
variable {K : PySem.W.Frag} {G : Gd} {B B' H H' : Hp} {S : AS} {σ : L2.St} {v : V}
/-- a new object, data or not -/
theorem Grd.new {p : Addr} {o : HO} (g : Grd K G B H) (hp : H p = none) (ho : ∀ ps, o ≠ .tbl ps) : Grd K G (upd B p o) (upd H p o) where
  b0 := g.b0.trans (Ex.new (g.bh.fresh hp))
  bn := fun a u e => by
    by_cases h : a = p
    · subst h
      exact .inr (g.dm _ hp)
    · rw [upd_ne h] at e
      exact g.bn a u e
  bh := g.bh.both
  nt := fun a ps e => by
    by_cases h : a = p
    · subst h
      rw [upd_same] at e
      exact ho ps (Option.some.inj e)
    · rw [upd_ne h] at e
      exact g.nt a ps e
  fr := fun a u e ha hu => Ex.new hp a u (g.fr a u e ha hu)
  dm := fun a e => g.dm a (Ex.fresh (Ex.new hp) e)
  tb := g.tb.ext (Ex.new hp)
  pa := fun a ha => by
    have hh : H a ≠ none := fun e => (g.pa a ha).2 (g.dm a e)
    have : a ≠ p := fun e => by subst e; exact hh hp
    rw [upd_ne this]
    exact g.pa a ha
  ht := g.ht
  pl := pl_new g.pl hp
theorem Grd.newH {p : Addr} {o : HO} (g : Grd K G B H) (hp : H p = none) : Grd K G B (upd H p o) where
  b0 := g.b0
  bn := g.bn
  bh := g.bh.trans (Ex.new hp)
  nt := g.nt
  fr := fun a u e ha hu => Ex.new hp a u (g.fr a u e ha hu)
  dm := fun a e => g.dm a (Ex.fresh (Ex.new hp) e)
  tb := g.tb.ext (Ex.new hp)
  pa := g.pa
  ht := g.ht
  pl := pl_new g.pl hp
theorem SlotR.mono {sv : SV} (h : SlotR K G B H v sv) (e : Ex B B') (eH : Ex H H') (hb : ∀ a vs, H a = some (.lst vs) → B a = none → B' a = none) : SlotR K G B' H' v sv := by
  cases sv with
  | exn _ _ _ => exact ExnR.mono h e fun _ _ z => eH _ _ z
  | dat d => exact dq_mono e d v h
  | own ds =>
    obtain ⟨a, vs, rfl, h1, h2, h3, h4⟩ := h
    exact ⟨a, vs, rfl, eH _ _ h1, hb _ _ h1 h2, h3, dqAll_mono e _ _ h4⟩
  | par k ds =>
    obtain ⟨a, vs, rfl, h1, h2, h3⟩ := h
    exact ⟨a, vs, rfl, h1, eH _ _ h2, dqAll_mono e _ _ h3⟩
/-- a new object that is data -/
theorem Rep.new {p : Addr} {o : HO} (r : Rep K G B S σ H) (hp : H p = none) (ho : ∀ ps, o ≠ .tbl ps) : Rep K G (upd B p o) S σ (upd H p o) where
  g := r.g.new hp ho
  len := r.len
  sl := fun i sv e => by
    obtain ⟨v, h1, h2⟩ := r.sl i sv e
    refine ⟨v, h1, h2.mono (Ex.new (r.g.bh.fresh hp)) (Ex.new hp) fun a vs h3 h4 => ?_⟩
    rw [upd_ne (ne_of_none h3 hp)]
    exact h4
  ds := r.ds
  pj := r.pj
  pn := r.pn
/-- a new object that is not data -/
theorem Rep.newH {p : Addr} {o : HO} (r : Rep K G B S σ H) (hp : H p = none) : Rep K G B S σ (upd H p o) where
  g := r.g.newH hp
  len := r.len
  sl := fun i sv e => by
    obtain ⟨v, h1, h2⟩ := r.sl i sv e
    exact ⟨v, h1, h2.mono (Ex.refl _) (Ex.new hp) fun a vs _ h4 => h4⟩
  ds := r.ds
  pj := r.pj
  pn := r.pn
/-- a list that no name holds becomes data -/
theorem Rep.freeze {r : SV} (h : Rep K G B S σ H) (q : ResR K G B S σ H v r) : ∃ B', Ex B B' ∧ Rep K G B' S σ H ∧ Dq K B' v (frz r) := by
  cases r with
  | exn _ _ _ => exact q.elim
  | dat d => exact ⟨B, Ex.refl _, h, q⟩
  | par k ds => exact q.elim
  | own ds =>
    obtain ⟨a, vs, rfl, h1, h2, h3, h4, h5⟩ := q
    have e : Ex B (upd B a (.lst vs)) := Ex.new h2
    refine ⟨upd B a (.lst vs), e, ⟨⟨h.g.b0.trans e, fun b o q => ?_, fun b o q => ?_, fun b ps q => ?_, h.g.fr, h.g.dm, h.g.tb, fun b hb => ?_, h.g.ht, h.g.pl⟩, h.len, fun i sv e' => ?_, h.ds, h.pj, h.pn⟩, .lst (.inl (.inl upd_same)) (dqAll_mono e _ _ h4)⟩
    · by_cases hba : b = a
      · subst hba; exact .inr h3
      · rw [upd_ne hba] at q; exact h.g.bn b o q
    · by_cases hba : b = a
      · subst hba; rw [upd_same] at q; cases q; exact h1
      · rw [upd_ne hba] at q; exact h.g.bh b o q
    · by_cases hba : b = a
      · subst hba; rw [upd_same] at q; cases q
      · rw [upd_ne hba] at q; exact h.g.nt b ps q
    · have : b ≠ a := fun z => by subst z; exact (h.g.pa _ hb).2 h3
      rw [upd_ne this]
      exact h.g.pa b hb
    · obtain ⟨v, e1, e2⟩ := h.sl i sv e'
      refine ⟨v, e1, ?_⟩
      cases sv with
      | exn _ _ _ => exact ExnR.mono e2 e fun _ _ z => z
      | dat d => exact dq_mono e d v e2
      | own es =>
        obtain ⟨b, ws, rfl, g1, g2, g3, g4⟩ := e2
        have : b ≠ a := fun z => by subst z; exact h5 i es e' e1
        exact ⟨b, ws, rfl, g1, by rw [upd_ne this]; exact g2, g3, dqAll_mono e _ _ g4⟩
      | par k es =>
        obtain ⟨b, ws, rfl, g1, g2, g3⟩ := e2
        exact ⟨b, ws, rfl, g1, g2, dqAll_mono e _ _ g3⟩
/-- a name is forgotten, or holds something else -/
theorem Rep.setN {i : Nat} (h : Rep K G B S σ H) (o : Option V) : Rep K G B (S.set i none) (σ.set i o) H where
  g := h.g
  len := by rw [List.length_set, List.length_set]; exact h.len
  sl := fun j sv e => by
    by_cases hj : i = j
    · subst hj
      rw [List.getElem?_set] at e
      split at e
      · split at e
        · cases e
        · cases e
      · exact absurd rfl ‹¬ i = i›
    · rw [List.getElem?_set_ne hj] at e ⊢
      exact h.sl j sv e
  ds := fun j l a x y e1 e2 e3 e4 => by
    have hj : i ≠ j := fun z => by subst z; rw [List.getElem?_set] at e1; split at e1 <;> (try split at e1) <;> simp_all
    have hl : i ≠ l := fun z => by subst z; rw [List.getElem?_set] at e2; split at e2 <;> (try split at e2) <;> simp_all
    rw [List.getElem?_set_ne hj] at e1 e3
    rw [List.getElem?_set_ne hl] at e2 e4
    exact h.ds j l a x y e1 e2 e3 e4
  pj := fun j l k x y e1 e2 => by
    have hj : i ≠ j := fun z => by subst z; rw [List.getElem?_set] at e1; split at e1 <;> (try split at e1) <;> simp_all
    have hl : i ≠ l := fun z => by subst z; rw [List.getElem?_set] at e2; split at e2 <;> (try split at e2) <;> simp_all
    rw [List.getElem?_set_ne hj] at e1
    rw [List.getElem?_set_ne hl] at e2
    exact h.pj j l k x y e1 e2
  pn := h.pn
theorem get_set_eq {α : Type} {l : List (Option α)} {i j : Nat} {a b : α} (h : (l.set i (some a))[j]? = some (some b)) : (i = j ∧ a = b) ∨ (i ≠ j ∧ l[j]? = some (some b)) := by
  by_cases hj : i = j
  · subst hj
    rw [List.getElem?_set] at h
    split at h
    · split at h
      · exact .inl ⟨rfl, by simpa using h⟩
      · cases h
    · exact absurd rfl ‹¬ i = i›
  · rw [List.getElem?_set_ne hj] at h
    exact .inr ⟨hj, h⟩
theorem get_set_val {α : Type} {l : List (Option α)} {i : Nat} {a b : α} (h : (l.set i (some a))[i]? = some (some b)) : a = b := by
  rcases get_set_eq h with ⟨_, e⟩ | ⟨e, _⟩
  · exact e
  · exact absurd rfl e
/-- a name holds a result -/
theorem Rep.setR {r : SV} {i : Nat} (h : Rep K G B S σ H) (q : ResR K G B S σ H v r) : Rep K G B (S.set i (some r)) (σ.set i (some v)) H where
  g := h.g
  len := by rw [List.length_set, List.length_set]; exact h.len
  sl := fun j sv e => by
    rcases get_set_eq e with ⟨rfl, rfl⟩ | ⟨hj, e⟩
    · have hi : i < σ.length := by
        rw [h.len]
        obtain ⟨hlt, _⟩ := List.getElem?_eq_some_iff.mp e
        simpa using hlt
      refine ⟨v, List.getElem?_set_self hi, ?_⟩
      cases r with
      | exn _ _ _ => exact q.elim
      | dat d => exact q
      | own ds =>
        obtain ⟨a, vs, h0, h1, h2, h3, h4, _⟩ := q
        exact ⟨a, vs, h0, h1, h2, h3, h4⟩
      | par k ds => exact q.elim
    · rw [List.getElem?_set_ne hj]
      exact h.sl j sv e
  ds := fun j l a x y e1 e2 e3 e4 => by
    rcases get_set_eq e1 with ⟨rfl, z1⟩ | ⟨hj, z1⟩
    · rcases get_set_eq e2 with ⟨rfl, z2⟩ | ⟨hl, z2⟩
      · rfl
      · subst z1
        obtain ⟨a', vs, h0, h1, h2, h3, h4, h5⟩ := q
        have : v = .ref a := get_set_val e3
        rw [this] at h0
        cases h0
        rw [List.getElem?_set_ne hl] at e4
        exact absurd e4 (h5 _ _ z2)
    · rcases get_set_eq e2 with ⟨rfl, z2⟩ | ⟨hl, z2⟩
      · subst z2
        obtain ⟨a', vs, h0, h1, h2, h3, h4, h5⟩ := q
        have : v = .ref a := get_set_val e4
        rw [this] at h0
        cases h0
        rw [List.getElem?_set_ne hj] at e3
        exact absurd e3 (h5 _ _ z1)
      · rw [List.getElem?_set_ne hj] at e3
        rw [List.getElem?_set_ne hl] at e4
        exact h.ds j l a x y z1 z2 e3 e4
  pj := fun j l k x y e1 e2 => by
    have np : ∀ z, r ≠ .par k z := fun z e => by subst e; exact q
    rcases get_set_eq e1 with ⟨rfl, z1⟩ | ⟨hj, z1⟩
    · exact absurd z1 (np _)
    · rcases get_set_eq e2 with ⟨rfl, z2⟩ | ⟨hl, z2⟩
      · exact absurd z2 (np _)
      · exact h.pj j l k x y z1 z2
  pn := h.pn
end
end DL

set_option maxRecDepth 100000
set_option maxHeartbeats 1000000
/-! DL2: the judgements; names, constants, displays, operators -/
namespace DL
open PySem PySem.Spec PyProof.Rows L2
variable [Tbl]

def Post {α β : Type} (K : PySem.W.Frag) (mg : Str → Option Value) (G : Gd) (W : XK) (B : Hp) (σ : L2.St) (R : Hp → AS → Hp → β → α → Prop) (Q : β → Hp → Prop) : Rs α → Prop
  | .ok a S' => ∀ b B' H', Ex B B' → Rep K G B' S' σ H' → R B' S' H' b a → Q b H'
  | .exc c w S' => ∀ C d v B' H', mg c = some (.ref C) → Ex B B' → Rep K G B' S' σ H' → Dq K B' v w → H' d = some (.xd [(("what" : Str), v)]) → W (.ref C) (some d) H'
  | .stuck => False
abbrev RE (K : PySem.W.Frag) (G : Gd) (σ : L2.St) : Hp → AS → Hp → V → SV → Prop := fun B S H v r => ResR K G B S σ H v r
abbrev RD (K : PySem.W.Frag) : Hp → AS → Hp → V → D → Prop := fun B _ _ v d => Dq K B v d
abbrev RT : Hp → AS → Hp → Bool → Bool → Prop := fun _ _ _ b a => b = a
abbrev RA (K : PySem.W.Frag) : Hp → AS → Hp → List V → List D → Prop := fun B _ _ vs ds => DqAll K B vs ds
section
variable {α β γ δ : Type} {K : PySem.W.Frag} {mg : Str → Option Value} {G : Gd} {W : XK} {B B' : Hp} {σ : L2.St} {R : Hp → AS → Hp → β → α → Prop} {Q : β → Hp → Prop} {R2 : Hp → AS → Hp → δ → γ → Prop} {Q2 : δ → Hp → Prop}
theorem Post.mono {r : Rs α} (h : Post K mg G W B σ R Q r) (e : Ex B B') : Post K mg G W B' σ R Q r := by
  cases r with
  | ok a S => exact fun b B1 H1 e1 r1 => h b B1 H1 (e.trans e1) r1
  | exc c w S => exact fun C d v B1 H1 e0 e1 r1 => h C d v B1 H1 e0 (e.trans e1) r1
  | stuck => exact h
theorem Post.seq {r : Rs α} {k : α → AS → Rs γ} (h : Post K mg G W B σ R2 Q2 (r.bind k))
    (hk : ∀ a S' b B' H', Ex B B' → Rep K G B' S' σ H' → R B' S' H' b a → Post K mg G W B' σ R2 Q2 (k a S') → Q b H') : Post K mg G W B σ R Q r := by
  cases r with
  | ok a S => exact fun b B1 H1 e1 r1 q1 => hk a S b B1 H1 e1 r1 q1 (h.mono e1)
  | exc c w S => exact h
  | stuck => exact h
end

structure Ctx (X : Cx) (W : XK) (k : Nat) : Prop where
  tk : L2N.Takes X (fun c d _ H => W c d H)
  room : Room k X.A
  calm : X.calm = true
  nd : X.N.Nodup
  po : PassesOwn (model X.prog X.w) X.A X.env X.xe
theorem Ctx.hu {X : Cx} {W : XK} {k : Nat} (C : Ctx X W k) : X.A.units + 64 < cLine := C.room.units

/-- an expression that gives f -/
structure DE (X : Cx) (W : XK) (e : Expr) (f : AS → Rs SV) : Prop where
  run : ∃ t, PE X e t ∧ ∀ G B S σ H Q, Rep X.K G B S σ H → Post X.K X.mg G W B σ (RE X.K G σ) Q (f S) → t σ H Q
/-- .. whose value is taken as data -/
structure DD (X : Cx) (W : XK) (e : Expr) (f : AS → Rs D) : Prop where
  run : ∃ t, PE X e t ∧ ∀ G B S σ H Q, Rep X.K G B S σ H → Post X.K X.mg G W B σ (RD X.K) Q (f S) → t σ H Q
/-- a test -/
structure DT (X : Cx) (W : XK) (e : Expr) (f : AS → Rs Bool) : Prop where
  run : ∃ t, PT X e t ∧ ∀ G B S σ H Q, Rep X.K G B S σ H → Post X.K X.mg G W B σ RT Q (f S) → t σ H Q
/-- a test whatever its 'whole' is -/
structure DW (X : Cx) (W : XK) (e : Expr) (f : AS → Rs Bool) : Prop where
  run : ∃ t, PW X e t ∧ ∀ G B S σ H Q, Rep X.K G B S σ H → Post X.K X.mg G W B σ RT Q (f S) → t σ H Q
/-- arguments, as data -/
structure DA (X : Cx) (W : XK) (es : List Expr) (f : AS → Rs (List D)) : Prop where
  run : ∃ t, PA X es t ∧ ∀ G B S σ H Q, Rep X.K G B S σ H → Post X.K X.mg G W B σ (RA X.K) Q (f S) → t σ H Q

def fzR (r : Rs SV) : Rs D := r.bind fun a S => .ok (frz a) S
def inR (r : Rs D) : Rs SV := r.bind fun a S => .ok (.dat a) S
section
variable {X : Cx} {G : Gd} {W : XK} {e a b : Expr} {es : List Expr} {k : Nat} {pos : Pos} {f g : AS → Rs SV} {fd gd : AS → Rs D} {fa : AS → Rs (List D)}
theorem DE.toD (h : DE X W e f) : DD X W e (fun S => fzR (f S)) := by
  obtain ⟨t, p, q⟩ := h.run
  refine ⟨t, p, fun G B S σ H Q r po => q G B S σ H Q r (po.seq fun a S' v B' H' _ r' x po' => ?_)⟩
  obtain ⟨B2, e2, r2, d2⟩ := r'.freeze x
  exact po' v B2 H' e2 r2 d2
theorem DD.toE (h : DD X W e fd) : DE X W e (fun S => inR (fd S)) := by
  obtain ⟨t, p, q⟩ := h.run
  exact ⟨t, p, fun G B S σ H Q r po => q G B S σ H Q r (po.seq fun a S' v B' H' e' r' x po' => po' v B' H' (Ex.refl _) r' x)⟩
theorem DE.congr {f' : AS → Rs SV} (h : DE X W e f) (q : ∀ S, f S = f' S) : DE X W e f' := by
  have : f = f' := funext q
  rw [← this]; exact h

/-! ### names and constants -/
def fVar (i : Nat) : AS → Rs D := fun S => match S[i]? with
  | some (some (.dat d)) => .ok d S
  | some (some (.own ds)) => .ok (.list ds) (S.set i (some (.dat (.list ds))))
  | _ => .stuck
theorem getElem?_set_self' {α : Type} {l : List (Option α)} {i : Nat} {a b : α} (h : l[i]? = some (some b)) : (l.set i (some a))[i]? = some (some a) := by
  have : i < l.length := (List.getElem?_eq_some_iff.mp h).1
  rw [List.getElem?_set_self this]
theorem rep_thaw {K : PySem.W.Frag} {B H : Hp} {S : AS} {σ : L2.St} {i : Nat} {ds : List D} (r : Rep K G B S σ H) (hi : S[i]? = some (some (.own ds))) :
    ∃ v B', σ[i]? = some (some v) ∧ Ex B B' ∧ Rep K G B' (S.set i (some (.dat (.list ds)))) σ H ∧ Dq K B' v (.list ds) := by
  obtain ⟨v, hv, a, vs, rfl, h1, h2, h3, h4⟩ := r.sl i _ hi
  have hs : (σ.set i (some (V.ref a))) = σ := by
    apply List.ext_getElem?
    intro j
    by_cases hj : i = j
    · subst hj
      rw [List.getElem?_set_self (List.getElem?_eq_some_iff.mp hv).1, hv]
    · rw [List.getElem?_set_ne hj]
  have r1 : Rep K G B (S.set i none) (σ.set i (some (V.ref a))) H := r.setN (some (V.ref a))
  rw [hs] at r1
  have q : ResR K G B (S.set i none) σ H (V.ref a) (.own ds) := by
    refine ⟨a, vs, rfl, h1, h2, h3, h4, fun j x e1 e2 => ?_⟩
    by_cases hj : i = j
    · subst hj
      rw [List.getElem?_set_self (List.getElem?_eq_some_iff.mp hi).1] at e1
      cases e1
    · rw [List.getElem?_set_ne hj] at e1
      exact hj (r.ds i j a ds x hi e1 hv e2)
  obtain ⟨B', e', r', d'⟩ := r1.freeze q
  refine ⟨V.ref a, B', hv, e', ?_, d'⟩
  have r2 := r'.setR (i := i) (r := .dat (.list ds)) d'
  rw [hs, List.set_set] at r2
  exact r2
theorem d_var (i : Nat) {x : Str} (hN : X.N[i]? = some x := by rfl) (hv : Vis X.env.scope x := by first | exact Or.inl rfl | exact Or.inr (Or.inl rfl) | exact Or.inr (Or.inr rfl)) (hd : (x == ("__debug__" : Str)) = false := by decide)
    (hcd : (x == ("__classdict__" : Str)) = false := by decide) : DD X W (.Name x pos) (fVar i) := by
  refine ⟨_, pe_var hN hv hd hcd, fun G B S σ H Q r po => ?_⟩
  unfold fVar at po
  split at po
  · rename_i d e
    obtain ⟨v, e1, e2⟩ := r.sl _ _ e
    exact ⟨v, e1, po v B H (Ex.refl _) r e2⟩
  · rename_i ds e
    obtain ⟨v, B', e1, e2, e3, e4⟩ := rep_thaw r e
    exact ⟨v, e1, po v B' H e2 e3 e4⟩
  · exact po.elim
def fC (d : D) : AS → Rs D := fun S => .ok d S
theorem d_int {i j} : DD X W (.Constant (.int i) j pos) (fC (.int i)) := ⟨_, pe_int, fun G B S σ H Q r po => po _ B H (Ex.refl _) r (.int i)⟩
theorem d_bl {b j} : DD X W (.Constant (.bool b) j pos) (fC (.bool b)) := ⟨_, pe_bl, fun G B S σ H Q r po => po _ B H (Ex.refl _) r (.bl b)⟩
theorem d_non {j} : DD X W (.Constant .none j pos) (fC .none) := ⟨_, pe_non, fun G B S σ H Q r po => po _ B H (Ex.refl _) r .non⟩
theorem d_str {x j} (h : PyData.strOk x = true := by decide +kernel) : DD X W (.Constant (.str x) j pos) (fC (.str x)) := ⟨_, pe_str, fun G B S σ H Q r po => po _ B H (Ex.refl _) r (.str x h)⟩
/-- a module's constant -/
structure GC (K : PySem.W.Frag) (mg : Str → Option Value) (x : Str) (d : D) : Prop where
  at_ : ∃ u v, mg x = some u ∧ RelV v u ∧ ∀ B, Dq K B v d
theorem d_glob {x : Str} {d : D} (c : GC X.K X.mg x d) (hg : Gl X x := by rfl) (hd : (x == ("__debug__" : Str)) = false := by decide) : DD X W (.Name x pos) (fC d) := by
  obtain ⟨u, v, h1, h2, h3⟩ := c.at_
  exact ⟨_, pe_glob hg h1 h2 hd, fun G B S σ H Q r po => po _ B H (Ex.refl _) r (h3 B)⟩

/-! ### arguments, displays -/
def fNil : AS → Rs (List D) := fun S => .ok [] S
def fCons (f : AS → Rs D) (g : AS → Rs (List D)) : AS → Rs (List D) := fun S => (f S).bind fun d S1 => (g S1).bind fun ds S2 => .ok (d :: ds) S2
theorem a_nil : DA X W [] fNil := ⟨_, pa_nil, fun G B S σ H Q r po => po _ B H (Ex.refl _) r .nil⟩
theorem a_cons (h : DD X W e fd) (ht : DA X W es fa) (hs : starEach (e :: es) X.env = (false, eval e X.env) :: starEach es X.env := by rfl) : DA X W (e :: es) (fCons fd fa) := by
  obtain ⟨t, p, q⟩ := h.run
  obtain ⟨t2, p2, q2⟩ := ht.run
  refine ⟨_, pa_cons p p2 hs, fun G B S σ H Q r po => q G B S σ H _ r (po.seq fun d S1 v B1 H1 e1 r1 x1 po1 => ?_)⟩
  refine q2 G B1 S1 σ H1 _ r1 (po1.seq fun ds S2 vs B2 H2 e2 r2 x2 po2 => ?_)
  exact po2 _ B2 H2 (Ex.refl _) r2 (.cons (dq_mono e2 _ _ x1) x2)
def small (n : Nat) : Bool := decide (n ≤ 16777216)
theorem small_line {n : Nat} (h : small n = true) : n ≤ sizeLine := of_decide_eq_true h
def okTup (ds : List D) (S : AS) : Rs D := if small ds.length = true then .ok (.tuple ds) S else .stuck
def okLst (ds : List D) (S : AS) : Rs SV := if small ds.length = true then .ok (.own ds) S else .stuck
section
variable {K : PySem.W.Frag} {mg : Str → Option Value} {B H : Hp} {S : AS} {σ : L2.St} {Q : VK}
/-- a new tuple of data -/
theorem new_tup {vs : List V} {ds : List D} (r : Rep K G B S σ H) (h : DqAll K B vs ds) (po : Post K mg G W B σ (RD K) Q (okTup ds S)) : vs.length ≤ sizeLine ∧ ∀ p, H p = none → Q (.ref p) (upd H p (.tup vs)) := by
  unfold okTup at po
  split at po
  · rename_i hs
    refine ⟨by rw [h.length]; exact small_line hs, fun p hp => ?_⟩
    have e : Ex B (upd B p (.tup vs)) := Ex.new (r.g.bh.fresh hp)
    exact po _ _ _ e (r.new hp fun ps z => by cases z) (.tup (.inl (.inl upd_same)) (dqAll_mono e _ _ h))
  · exact po.elim
theorem new_lst {vs : List V} {ds : List D} (r : Rep K G B S σ H) (h : DqAll K B vs ds) (po : Post K mg G W B σ (RE K G σ) Q (okLst ds S)) : vs.length ≤ sizeLine ∧ ∀ p, H p = none → Q (.ref p) (upd H p (.lst vs)) := by
  unfold okLst at po
  split at po
  · rename_i hs
    refine ⟨by rw [h.length]; exact small_line hs, fun p hp => ?_⟩
    refine po _ B _ (Ex.refl _) (r.newH hp) ⟨p, vs, rfl, upd_same, r.g.bh.fresh hp, r.g.dm p hp, h, fun i x e1 e2 => ?_⟩
    obtain ⟨v, h1, a, ws, rfl, h2, _⟩ := r.sl i _ e1
    rw [h1] at e2
    cases e2
    rw [hp] at h2
    cases h2
  · exact po.elim
end
def fTup (fa : AS → Rs (List D)) : AS → Rs D := fun S => (fa S).bind okTup
def fLst (fa : AS → Rs (List D)) : AS → Rs SV := fun S => (fa S).bind okLst
theorem d_tup {x1} (h : DA X W es fa) : DD X W (.Tuple es x1 pos) (fTup fa) := by
  obtain ⟨t, p, q⟩ := h.run
  exact ⟨_, pe_tup p, fun G B S σ H Q r po => q G B S σ H _ r (po.seq fun ds S1 vs B1 H1 e1 r1 x1 po1 => new_tup r1 x1 po1)⟩
theorem d_lst (h : DA X W es fa) : DE X W (.List es pos) (fLst fa) := by
  obtain ⟨t, p, q⟩ := h.run
  exact ⟨_, pe_lst p, fun G B S σ H Q r po => q G B S σ H _ r (po.seq fun ds S1 vs B1 H1 e1 r1 x1 po1 => new_lst r1 x1 po1)⟩

/-! ### operators on two values -/
/-- a two-place rule of the layer at data: k is what it gives -/
structure Op2 (X : Cx) (W : XK) (f : Value → Value → Sem Value) (k : D → D → AS → Rs SV) : Prop where
  run : ∃ r, OpR X f r ∧ ∀ G B S σ H Q x y v w, Rep X.K G B S σ H → Dq X.K B v x → Dq X.K B w y → Post X.K X.mg G W B σ (RE X.K G σ) Q (k x y S) → r v w H Q
def fOp (k : D → D → AS → Rs SV) (f g : AS → Rs D) : AS → Rs SV := fun S => (f S).bind fun x S1 => (g S1).bind fun y S2 => k x y S2
theorem d_bin {op : Operator} {kk : D → D → AS → Rs SV} (o : Op2 X W (binaryOp op) kk) (ha : DD X W a fd) (hb : DD X W b gd) : DE X W (.BinOp a op b pos) (fOp kk fd gd) := by
  obtain ⟨r, ho, hr⟩ := o.run
  obtain ⟨t, p, q⟩ := ha.run
  obtain ⟨t2, p2, q2⟩ := hb.run
  refine ⟨_, pe_op ho p p2, fun G B S σ H Q r po => q G B S σ H _ r (po.seq fun x S1 v B1 H1 e1 r1 x1 po1 => ?_)⟩
  refine q2 G B1 S1 σ H1 _ r1 (po1.seq fun y S2 w B2 H2 e2 r2 x2 po2 => ?_)
  exact hr G B2 S2 σ H2 Q x y v w r2 (dq_mono e2 _ _ x1) x2 po2
theorem d_cmp {op : CmpOp} {kk : D → D → AS → Rs SV} (o : Op2 X W (compareOp op) kk) (ha : DD X W a fd) (hb : DD X W b gd) (hm : behindInMarks op b = false := by first | rfl | exact nomark _) : DE X W (.Compare a [op] [b] pos) (fOp kk fd gd) := by
  obtain ⟨r, ho, hr⟩ := o.run
  obtain ⟨t, p, q⟩ := ha.run
  obtain ⟨t2, p2, q2⟩ := hb.run
  refine ⟨_, pe_cmpR ho p p2 hm, fun G B S σ H Q r po => q G B S σ H _ r (po.seq fun x S1 v B1 H1 e1 r1 x1 po1 => ?_)⟩
  refine q2 G B1 S1 σ H1 _ r1 (po1.seq fun y S2 w B2 H2 e2 r2 x2 po2 => ?_)
  exact hr G B2 S2 σ H2 Q x y v w r2 (dq_mono e2 _ _ x1) x2 po2
/-- a truth out of a result -/
def toB (r : Rs SV) : Rs Bool := r.bind fun a S => match a with
  | .dat (.bool b) => .ok b S
  | _ => .stuck
theorem t_cmp {op : CmpOp} {kk : D → D → AS → Rs SV} (o : Op2 X W (compareOp op) kk) (ha : DD X W a fd) (hb : DD X W b gd) (hm : behindInMarks op b = false := by first | rfl | exact nomark _) : DT X W (.Compare a [op] [b] pos) (fun S => toB (fOp kk fd gd S)) := by
  obtain ⟨r, ho, hr⟩ := o.run
  obtain ⟨t, p, q⟩ := ha.run
  obtain ⟨t2, p2, q2⟩ := hb.run
  refine ⟨_, pt_cmpR ho p p2 hm, fun G B S σ H Q r po => ?_⟩
  have po : Post X.K X.mg G W B σ RT Q ((fd S).bind fun x S1 => ((gd S1).bind fun y S2 => (kk x y S2).bind fun a S => match a with
    | .dat (.bool b) => .ok b S
    | _ => .stuck)) := by
    unfold toB fOp at po
    cases h : fd S with
    | ok x S1 =>
      rw [h] at po
      simp only [Rs.bind_ok] at po ⊢
      cases h2 : gd S1 with
      | ok y S2 => rw [h2] at po; exact po
      | exc _ _ _ => rw [h2] at po; exact po
      | stuck => rw [h2] at po; exact po
    | exc _ _ _ => rw [h] at po; exact po
    | stuck => rw [h] at po; exact po
  refine q G B S σ H _ r (po.seq fun x S1 v B1 H1 e1 r1 x1 po1 => ?_)
  refine q2 G B1 S1 σ H1 _ r1 (po1.seq fun y S2 w B2 H2 e2 r2 x2 po2 => ?_)
  refine hr G B2 S2 σ H2 _ x y v w r2 (dq_mono e2 _ _ x1) x2 (po2.seq fun a S3 z B3 H3 e3 r3 x3 po3 => ?_)
  split at po3
  · rename_i bb
    cases x3
    exact ⟨bb, rfl, po3 _ B3 H3 (Ex.refl _) r3 rfl⟩
  · exact po3.elim
end
end DL

set_option maxRecDepth 100000
set_option maxHeartbeats 1000000
/-! DL3: operators on data -/
namespace DL
open PySem PySem.Spec PyProof.Rows L2
variable [Tbl]

/-! ### signs -/
theorem strOk_iff {x : Str} : PyData.strOk x = true ↔ ∀ c ∈ x.cps.toList, c < 0x110000 := by
  unfold PyData.strOk
  rw [Array.all_eq_true']
  simp
theorem strOk_of {x : Str} (h : ∀ c ∈ x.cps.toList, c < 0x110000) : PyData.strOk x = true := strOk_iff.mpr h
theorem strOk_sub {x y : Str} (h : PyData.strOk x = true) (s : ∀ c ∈ y.cps.toList, c ∈ x.cps.toList) : PyData.strOk y = true :=
  strOk_of fun c hc => strOk_iff.mp h c (s c hc)
theorem strOk_app {x y : Str} (h : PyData.strOk x = true) (h2 : PyData.strOk y = true) : PyData.strOk (x ++ y) = true := by
  refine strOk_of fun c hc => ?_
  have : c ∈ TL.tl (x ++ y) := hc
  rw [TL.tl_append] at this
  rcases List.mem_append.mp this with q | q
  · exact strOk_iff.mp h c q
  · exact strOk_iff.mp h2 c q
theorem strOk_num (n : Nat) : PyData.strOk (Str.ofString (toString ((n : Nat) : Int))) = true := by
  refine strOk_of fun c hc => ?_
  have h1 : c ∈ TL.tl (Str.ofString (toString ((n : Nat) : Int))) := hc
  rw [TL.tl_num] at h1
  have := TL.numL_digits n
  by_cases h : c < 48 ∨ 57 < c
  · exact absurd h1 (TL.numL_free h)
  · omega

/-! ### list + list, list * int where they are known -/
section
variable {X : Cx}
def rCatR (K : PySem.W.Frag) : R2 := fun x y H Q => ∃ l b xs zs, x = .ref l ∧ y = .ref b ∧ SqL K H l xs ∧ SqL K H b zs ∧ xs.length + zs.length ≤ sizeLine ∧ ∀ p, H p = none → Q (.ref p) (upd H p (.lst (xs ++ zs)))
theorem op_catR : OpR X (binaryOp .Add) (rCatR X.K) := by
  intro pins s σ H x y v u Q I rx ry h
  obtain ⟨l, b, xs, zs, rfl, rfl, hH, hB, hz, q⟩ := h
  cases rx
  cases ry
  obtain ⟨its, r, ⟨⟨c1, d1, da1, sl1⟩, n, ho, hc, hdd, hd⟩, hl⟩ := I.list hH
  obtain ⟨its2, r2, ⟨⟨c2, d2, da2, sl2⟩, n2, ho2, hc2, hdd2, hd2⟩, hl2⟩ := I.list hB
  simp only at hc hd hc2 hd2
  subst hc hd hc2 hd2
  refine concat_meets ⟨_, ho, rfl⟩ ⟨_, ho2, rfl⟩ noFill_list_add seq_list_add PySem.F.slot_list_add PySem.F.entry_list_add (PySem.F.args_list_add_2 _ _) (list_addW l b its.toArray its2.toArray n n2 d1 d2 sl1 sl2 (by rw [List.size_toArray, List.size_toArray, ← r.length, ← r2.length]; exact hz)) ⟨ho, ho2, ?_⟩
  have ea : its.toArray ++ its2.toArray = (its ++ its2).toArray := by simp
  rw [ea]
  exact ⟨.ref _, _, I.lnew (t' := s.toks) (r.append r2) (by rw [List.length_append]; omega), rfl, q _ I.fresh⟩
/-- text * int -/
def repS (a : Str) (n : Nat) : Str := ⟨(List.replicate n a.cps.toList).flatten.toArray⟩
theorem repS_length (a : Str) (n : Nat) : (repS a n).length = n * a.length := by
  show (List.replicate n a.cps.toList).flatten.toArray.size = n * a.cps.size
  rw [List.size_toArray, List.length_flatten]
  simp
theorem repS_mem {a : Str} {n c : Nat} (h : c ∈ (repS a n).cps.toList) : c ∈ a.cps.toList := by
  have hc : c ∈ (List.replicate n a.cps.toList).flatten := h
  obtain ⟨l, h1, h2⟩ := List.mem_flatten.mp hc
  rw [List.eq_of_mem_replicate h1] at h2
  exact h2
def rMulS : R2 := fun x y H Q => ∃ a n, x = .str a ∧ y = .int n ∧ 0 ≤ n ∧ n < 2 ^ 60 ∧ a.length * n.toNat ≤ sizeLine ∧ Q (.str (repS a n.toNat)) H
theorem foldl_cps (l : List Nat) : ∀ (k : Nat) (acc : List Nat), List.foldl (fun x1 x2 => x1 ++ x2) acc.toArray (List.replicate k l.toArray) = (acc ++ (List.replicate k l).flatten).toArray := by
  intro k
  induction k with
  | zero => intro acc; simp
  | succ k ih =>
    intro acc
    rw [List.replicate_succ, List.foldl_cons, List.replicate_succ, List.flatten_cons]
    have : acc.toArray ++ l.toArray = (acc ++ l).toArray := by simp
    rw [this, ih]
    simp
theorem op_mulS : OpR X (binaryOp .Mult) rMulS := by
  intro pins s σ H x y v u Q I rx ry h
  obtain ⟨a, n, rfl, rfl, h0, h1, hz, q⟩ := h
  obtain ⟨t, rfl⟩ := rx
  obtain ⟨t2, rfl⟩ := ry
  have hlo : ¬ n < -(2 ^ 63 : Int) := by omega
  have hhi : ¬ n ≥ 2 ^ 63 := by omega
  refine PySem.P.mul_str (by rw [decide_eq_false hlo, decide_eq_false hhi]; rfl) (fun h1 h2 => ?_) (fun h1 h2 => ?_) ?_
  · have hn : 0 < n := by omega
    intro hc
    have h3 : (a.length : Int) * n > ((2 ^ 63 - 1) / n) * n := Int.mul_lt_mul_of_pos_right hc hn
    have h4 : (a.length * n.toNat : Nat) = (a.length : Int) * n := by rw [Int.natCast_mul, Int.toNat_of_nonneg h0]
    have h5 : sizeLine = 16777216 := sizeLine_eq
    have h6 : (2 ^ 63 - 1 : Int) / n * n > (2 ^ 63 - 1) - n := by
      have := Int.emod_add_mul_ediv (2 ^ 63 - 1) n
      have h7 := Int.emod_lt_of_pos (2 ^ 63 - 1) hn
      rw [Int.mul_comm n] at this
      omega
    omega
  · unfold Builtin.Str.tooLong
    exact decide_eq_false (by omega)
  · have hrep : (⟨(List.replicate n.toNat a.cps).foldl (· ++ ·) #[]⟩ : Str) = repS a n.toNat := by
      unfold repS
      have := foldl_cps a.cps.toList n.toNat []
      rw [List.nil_append] at this
      rw [← this]
    by_cases c1 : n < 1
    · have : n = 0 := by omega
      subst this
      rw [if_pos (by decide)]
      refine ⟨by first | decide | simp, ?_⟩
      exact ⟨.str (repS a 0), H, I.tok _, ⟨_, rfl⟩, q⟩
    · rw [if_neg c1]
      by_cases c2 : (n == 1 || a.length == 0) = true
      · rw [if_pos c2]
        have e : repS a n.toNat = a := by
          rcases Bool.or_eq_true_iff.mp c2 with z | z
          · have : n = 1 := by simpa using z
            subst this
            show (⟨(List.replicate 1 a.cps.toList).flatten.toArray⟩ : Str) = a
            simp
          · have z : a.length = 0 := by simpa using z
            have : a.cps = #[] := Array.eq_empty_of_size_eq_zero z
            unfold repS
            rw [this]
            simp
            cases a
            simp at this
            rw [this]
        rw [e] at q
        exact ⟨.str a, H, I, ⟨_, rfl⟩, q⟩
      · rw [if_neg c2, hrep]
        exact ⟨by rw [repS_length, Nat.mul_comm]; exact hz, ⟨.str _, H, I.tok _, ⟨_, rfl⟩, q⟩⟩

/-! ### == of data -/
def rEqQ (K : PySem.W.Frag) : R2 := fun x y H Q => ∃ d e, Dq K H x d ∧ Dq K H y e ∧ min d.depth e.depth ≤ 64 ∧ Q (.bl (PyData.eqv d e)) H
def rNeQ (K : PySem.W.Frag) : R2 := fun x y H Q => ∃ d e, Dq K H x d ∧ Dq K H y e ∧ min d.depth e.depth ≤ 64 ∧ Q (.bl (!PyData.eqv d e)) H
theorem op_eqQ (hu : X.A.units + 64 < cLine) : OpR X (compareOp .Eq) (rEqQ X.K) := by
  intro pins s σ H x y v u Q I rx ry h
  obtain ⟨d, e, hd, he, hm, q⟩ := h
  obtain ⟨as, r1⟩ := Dp.reads I d x v (dq_dp _ _ hd) rx
  obtain ⟨bs, r2⟩ := Dp.reads I e y u (dq_dp _ _ he) ry
  exact SeqAt.compareEq_reads r1 r2 hd.lay he.lay (by omega) ⟨.bl _, H, I, rfl, q⟩
theorem op_neQ (hu : X.A.units + 64 < cLine) : OpR X (compareOp .NotEq) (rNeQ X.K) := by
  intro pins s σ H x y v u Q I rx ry h
  obtain ⟨d, e, hd, he, hm, q⟩ := h
  obtain ⟨as, r1⟩ := Dp.reads I d x v (dq_dp _ _ hd) rx
  obtain ⟨bs, r2⟩ := Dp.reads I e y u (dq_dp _ _ he) ry
  exact SeqAt.compareNe_reads r1 r2 hd.lay he.lay (by omega) ⟨.bl _, H, I, rfl, q⟩
end

/-! ### what the operators give -/
def okD (d : D) (S : AS) : Rs SV := .ok (.dat d) S
def okB (b : Bool) (S : AS) : Rs SV := .ok (.dat (.bool b)) S
def kAdd : D → D → AS → Rs SV
  | .int i, .int j, S => okD (.int (i + j)) S
  | .str a, .str b, S => if small (a.length + b.length) = true then okD (.str (a ++ b)) S else .stuck
  | .tuple a, .tuple b, S => if small (a.length + b.length) = true then okD (.tuple (a ++ b)) S else .stuck
  | .list a, .list b, S => if small (a.length + b.length) = true then .ok (.own (a ++ b)) S else .stuck
  | _, _, _ => .stuck
def kSub : D → D → AS → Rs SV
  | .int i, .int j, S => okD (.int (i - j)) S
  | _, _, _ => .stuck
def fitM (i j : Int) : Bool := decide (i.natAbs.log2 + j.natAbs.log2 < 1000000)
def kMul : D → D → AS → Rs SV
  | .int i, .int j, S => if fitM i j = true then okD (.int (i * j)) S else .stuck
  | .str a, .int n, S => if (decide (0 ≤ n) && decide (n < 2 ^ 60) && small (a.length * n.toNat)) = true then okD (.str (repS a n.toNat)) S else .stuck
  | _, _, _ => .stuck
def kMod : D → D → AS → Rs SV
  | .int i, .int j, S => if 0 < j then okD (.int (i % j)) S else .stuck
  | _, _, _ => .stuck
def kDiv : D → D → AS → Rs SV
  | .int i, .int j, S => if 0 < j ∧ j.natAbs.log2 < 9000 then okD (.int (i / j)) S else .stuck
  | _, _, _ => .stuck
def kPow : D → D → AS → Rs SV
  | .int i, .int j, S => if 0 ≤ j ∧ j ≤ 1000000 ∧ i.natAbs < 2 ^ 64 then okD (.int (i ^ j.toNat)) S else .stuck
  | _, _, _ => .stuck
def kEq (x y : D) (S : AS) : Rs SV := if min x.depth y.depth ≤ 64 then okB (PyData.eqv x y) S else .stuck
def kNe (x y : D) (S : AS) : Rs SV := if min x.depth y.depth ≤ 64 then okB (!PyData.eqv x y) S else .stuck
def kInt2 (p : Int → Int → Bool) : D → D → AS → Rs SV
  | .int i, .int j, S => okB (p i j) S
  | _, _, _ => .stuck
abbrev kLt := kInt2 fun i j => decide (i < j)
abbrev kLe := kInt2 fun i j => decide (i ≤ j)
abbrev kGt := kInt2 fun i j => decide (j < i)
abbrev kGe := kInt2 fun i j => decide (j ≤ i)
def flatD : D → Bool
  | .none => true
  | .bool _ => true
  | .int _ => true
  | .str _ => true
  | _ => false
def inD (x : D) (ys : List D) : Bool := ys.any fun y => PyData.eqv y x
def kIn0 (g : Bool → Bool) : D → D → AS → Rs SV
  | x, .list ys, S => if (flatD x && ys.all flatD) = true then okB (g (inD x ys)) S else .stuck
  | x, .tuple ys, S => if (flatD x && ys.all flatD) = true then okB (g (inD x ys)) S else .stuck
  | .str a, .str b, S => match a.cps.toList with
    | [c] => okB (g (decide (c ∈ b.cps.toList))) S
    | _ => .stuck
  | _, _, _ => .stuck
abbrev kIn := kIn0 id
abbrev kNotIn := kIn0 not
def isNone : D → Bool
  | .none => true
  | _ => false
def kIs0 (g : Bool → Bool) : D → D → AS → Rs SV
  | x, .none, S => okB (g (isNone x)) S
  | .bool a, .bool b, S => okB (g (decide (a = b))) S
  | _, _, _ => .stuck
abbrev kIs := kIs0 id
abbrev kIsNot := kIs0 not

section
variable {K : PySem.W.Frag} {B H : Hp}
theorem dq_flat {v : V} {d : D} (h : Dq K H v d) (f : flatD d = true) : flatV v = true := by cases h <;> first | rfl | cases f
theorem dqAll_flat : ∀ {vs : List V} {ds : List D}, DqAll K H vs ds → ds.all flatD = true → vs.all flatV = true
  | _, _, .nil, _ => rfl
  | _, _, .cons h t, f => by
    rw [List.all_cons, Bool.and_eq_true] at f ⊢
    exact ⟨dq_flat h f.1, dqAll_flat t f.2⟩
theorem eqV_eqv {v w : V} {d e : D} (h : Dq K H v d) (g : Dq K H w e) (f : flatD d = true) (f2 : flatD e = true) : eqV v w = PyData.eqv d e := by
  cases h <;> cases g <;> first | (cases f; done) | (cases f2; done) | simp [eqV, PyData.eqv]
theorem inV_inD {v : V} {d : D} (h : Dq K H v d) (f : flatD d = true) : ∀ {vs : List V} {ds : List D}, DqAll K H vs ds → ds.all flatD = true → inV v vs = inD d ds
  | _, _, .nil, _ => rfl
  | _, _, .cons g t, f2 => by
    rw [List.all_cons, Bool.and_eq_true] at f2
    show (eqV _ v || inV v _) = (PyData.eqv _ d || inD d _)
    rw [inV_inD h f t f2.2, eqV_eqv g h f2.1 f]
theorem isNone_eq {v : V} {d : D} (h : Dq K H v d) : decide (v = .non) = isNone d := by
  cases h <;> simp [isNone]
end

section
variable {X : Cx} {G : Gd} {W : XK} {k : Nat}
theorem rep_bh {K : PySem.W.Frag} {B H : Hp} {S : AS} {σ : L2.St} (r : Rep K G B S σ H) {v : V} {d : D} (h : Dq K B v d) : Dq K H v d := dq_mono r.g.bh _ _ h
theorem sqT_H {K : PySem.W.Frag} {B H : Hp} {S : AS} {σ : L2.St} (r : Rep K G B S σ H) {a : Addr} {xs : List V} (h : SqT K B a xs) : SqT K H a xs := sqT_mono r.g.bh h
theorem rd_H {K : PySem.W.Frag} {B H : Hp} {S : AS} {σ : L2.St} (r : Rep K G B S σ H) {a : Addr} {xs : List V} (h : SqL K B a xs) : SqL K H a xs := sqL_mono r.g.bh h
/-- a plain result -/
theorem post_ok {K : PySem.W.Frag} {mg : Str → Option Value} {B H : Hp} {S : AS} {σ : L2.St} {Q : VK} {d : D} {v : V} (r : Rep K G B S σ H) (h : Dq K B v d) (po : Post K mg G W B σ (RE K G σ) Q (okD d S)) : Q v H :=
  po v B H (Ex.refl _) r h
theorem post_okB {K : PySem.W.Frag} {mg : Str → Option Value} {B H : Hp} {S : AS} {σ : L2.St} {Q : VK} {b : Bool} (r : Rep K G B S σ H) (po : Post K mg G W B σ (RE K G σ) Q (okB b S)) : Q (.bl b) H :=
  po _ B H (Ex.refl _) r (.bl b)
theorem new_own {K : PySem.W.Frag} {mg : Str → Option Value} {B H : Hp} {S : AS} {σ : L2.St} {Q : VK} {vs : List V} {ds : List D} (r : Rep K G B S σ H) (h : DqAll K B vs ds) (po : Post K mg G W B σ (RE K G σ) Q (.ok (.own ds) S)) {p : Addr} (hp : H p = none) : Q (.ref p) (upd H p (.lst vs)) := by
  refine po _ B _ (Ex.refl _) (r.newH hp) ⟨p, vs, rfl, upd_same, r.g.bh.fresh hp, r.g.dm p hp, h, fun i x e1 e2 => ?_⟩
  obtain ⟨v, h1, a, ws, rfl, h2, _⟩ := r.sl i _ e1
  rw [h1] at e2
  cases e2
  rw [hp] at h2
  cases h2
theorem new_dat {K : PySem.W.Frag} {mg : Str → Option Value} {B H : Hp} {S : AS} {σ : L2.St} {Q : VK} {vs : List V} {ds : List D} (r : Rep K G B S σ H) (h : DqAll K B vs ds) (po : Post K mg G W B σ (RE K G σ) Q (okD (.tuple ds) S)) {p : Addr} (hp : H p = none) : Q (.ref p) (upd H p (.tup vs)) := by
  have e : Ex B (upd B p (.tup vs)) := Ex.new (r.g.bh.fresh hp)
  exact po _ _ _ e (r.new hp fun ps z => by cases z) (Dq.tup (.inl (.inl upd_same)) (dqAll_mono e _ _ h))

theorem o_add : Op2 X W (binaryOp .Add) kAdd := by
  refine ⟨_, OpR.or op_add (OpR.or op_add_str (OpR.or op_catA op_catR)), fun G B S σ H Q x y v w r hx hy po => ?_⟩
  unfold kAdd at po
  split at po
  · cases hx; cases hy
    exact .inl ⟨_, _, rfl, rfl, post_ok r (.int _) po⟩
  · split at po
    · rename_i hs
      cases hx with | str _ s1 => cases hy with | str _ s2 =>
      exact .inr (.inl ⟨_, _, rfl, rfl, small_line hs, post_ok r (.str _ (strOk_app s1 s2)) po⟩)
    · exact po.elim
  · split at po
    · rename_i hs
      cases hx with | tup s1 a1 => cases hy with | tup s2 a2 =>
      rename_i xs _ ys
      refine .inr (.inr (.inl ⟨_, _, _, _, rfl, rfl, sqT_H r s1, sqT_H r s2, by rw [a1.length, a2.length]; exact small_line hs, fun e => ?_, fun e e2 => ?_, fun e e2 p hp => ?_⟩))
      · subst e
        cases a1
        exact post_ok r (.tup s2 a2) po
      · subst e2
        cases a2
        rw [List.append_nil] at po
        exact post_ok r (.tup s1 a1) po
      · exact new_dat r (a1.append a2) po hp
    · exact po.elim
  · split at po
    · rename_i hs
      cases hx with | lst s1 a1 => cases hy with | lst s2 a2 =>
      exact .inr (.inr (.inr ⟨_, _, _, _, rfl, rfl, rd_H r s1, rd_H r s2, by rw [a1.length, a2.length]; exact small_line hs, fun p hp => new_own r (a1.append a2) po hp⟩))
    · exact po.elim
  · exact po.elim
theorem o_sub : Op2 X W (binaryOp .Sub) kSub := by
  refine ⟨_, op_sub, fun G B S σ H Q x y v w r hx hy po => ?_⟩
  unfold kSub at po
  split at po
  · cases hx; cases hy
    exact ⟨_, _, rfl, rfl, post_ok r (.int _) po⟩
  · exact po.elim
theorem o_mul : Op2 X W (binaryOp .Mult) kMul := by
  refine ⟨_, OpR.or op_mulW op_mulS, fun G B S σ H Q x y v w r hx hy po => ?_⟩
  unfold kMul at po
  split at po
  · split at po
    · rename_i hs
      cases hx; cases hy
      exact .inl ⟨_, _, rfl, rfl, (by unfold CMulW; unfold fitM at hs; exact of_decide_eq_true hs), post_ok r (.int _) po⟩
    · exact po.elim
  · split at po
    · rename_i hs
      rw [Bool.and_eq_true, Bool.and_eq_true] at hs
      cases hx with | str a s1 =>
      cases hy
      refine .inr ⟨_, _, rfl, rfl, of_decide_eq_true hs.1.1, of_decide_eq_true hs.1.2, small_line hs.2, post_ok r (.str _ (strOk_sub s1 fun c hc => ?_)) po⟩
      exact repS_mem hc
    · exact po.elim
  · exact po.elim
theorem o_mod : Op2 X W (binaryOp .Mod) kMod := by
  refine ⟨_, op_mod, fun G B S σ H Q x y v w r hx hy po => ?_⟩
  unfold kMod at po
  split at po
  · split at po
    · rename_i hs
      cases hx; cases hy
      exact ⟨_, _, rfl, rfl, hs, post_ok r (.int _) po⟩
    · exact po.elim
  · exact po.elim
theorem o_div : Op2 X W (binaryOp .FloorDiv) kDiv := by
  refine ⟨_, op_fdivW, fun G B S σ H Q x y v w r hx hy po => ?_⟩
  unfold kDiv at po
  split at po
  · split at po
    · rename_i hs
      cases hx; cases hy
      exact ⟨_, _, rfl, rfl, hs, post_ok r (.int _) po⟩
    · exact po.elim
  · exact po.elim
theorem o_pow : Op2 X W (binaryOp .Pow) kPow := by
  refine ⟨_, op_pow, fun G B S σ H Q x y v w r hx hy po => ?_⟩
  unfold kPow at po
  split at po
  · split at po
    · rename_i hs
      cases hx; cases hy
      exact ⟨_, _, rfl, rfl, hs, post_ok r (.int _) po⟩
    · exact po.elim
  · exact po.elim
theorem o_eq (C : Ctx X W k) : Op2 X W (compareOp .Eq) kEq := by
  refine ⟨_, op_eqQ C.hu, fun G B S σ H Q x y v w r hx hy po => ?_⟩
  unfold kEq at po
  split at po
  · rename_i hs
    exact ⟨_, _, rep_bh r hx, rep_bh r hy, hs, post_okB r po⟩
  · exact po.elim
theorem o_ne (C : Ctx X W k) : Op2 X W (compareOp .NotEq) kNe := by
  refine ⟨_, op_neQ C.hu, fun G B S σ H Q x y v w r hx hy po => ?_⟩
  unfold kNe at po
  split at po
  · rename_i hs
    exact ⟨_, _, rep_bh r hx, rep_bh r hy, hs, post_okB r po⟩
  · exact po.elim
theorem o_int2 {f : Value → Value → Sem Value} {p : Int → Int → Bool} (h : OpR X f (rI0 fun i j => .bl (p i j))) : Op2 X W f (kInt2 p) := by
  refine ⟨_, h, fun G B S σ H Q x y v w r hx hy po => ?_⟩
  unfold kInt2 at po
  split at po
  · cases hx; cases hy
    exact ⟨_, _, rfl, rfl, post_okB r po⟩
  · exact po.elim
theorem o_lt : Op2 X W (compareOp .Lt) kLt := o_int2 op_lt
theorem o_le : Op2 X W (compareOp .LtE) kLe := o_int2 op_le
theorem o_gt : Op2 X W (compareOp .Gt) kGt := o_int2 op_gt
theorem o_ge : Op2 X W (compareOp .GtE) kGe := o_int2 op_ge
theorem o_in : Op2 X W (compareOp .In) kIn := by
  refine ⟨_, OpR.or op_in_seq op_in_sign, fun G B S σ H Q x y v w r hx hy po => ?_⟩
  unfold kIn kIn0 at po
  split at po
  · split at po
    · rename_i hs
      rw [Bool.and_eq_true] at hs
      cases hy with | lst s a =>
      refine .inl ⟨_, _, rfl, .inl (rd_H r s), dq_flat hx hs.1, dqAll_flat a hs.2, ?_⟩
      rw [inV_inD hx hs.1 a hs.2]
      exact post_okB r po
    · exact po.elim
  · split at po
    · rename_i hs
      rw [Bool.and_eq_true] at hs
      cases hy with | tup s a =>
      refine .inl ⟨_, _, rfl, .inr (sqT_H r s), dq_flat hx hs.1, dqAll_flat a hs.2, ?_⟩
      rw [inV_inD hx hs.1 a hs.2]
      exact post_okB r po
    · exact po.elim
  · split at po
    · rename_i a b _ c hc
      cases hx; cases hy
      have e : a = ⟨#[c]⟩ := by
        apply TL.ext_tl
        exact hc
      exact .inr ⟨c, b, by rw [e], rfl, post_okB r po⟩
    · exact po.elim
  · exact po.elim
theorem o_notIn : Op2 X W (compareOp .NotIn) kNotIn := by
  refine ⟨_, OpR.or op_notIn_seq op_notIn_sign, fun G B S σ H Q x y v w r hx hy po => ?_⟩
  unfold kNotIn kIn0 at po
  split at po
  · split at po
    · rename_i hs
      rw [Bool.and_eq_true] at hs
      cases hy with | lst s a =>
      refine .inl ⟨_, _, rfl, .inl (rd_H r s), dq_flat hx hs.1, dqAll_flat a hs.2, ?_⟩
      rw [inV_inD hx hs.1 a hs.2]
      exact post_okB r po
    · exact po.elim
  · split at po
    · rename_i hs
      rw [Bool.and_eq_true] at hs
      cases hy with | tup s a =>
      refine .inl ⟨_, _, rfl, .inr (sqT_H r s), dq_flat hx hs.1, dqAll_flat a hs.2, ?_⟩
      rw [inV_inD hx hs.1 a hs.2]
      exact post_okB r po
    · exact po.elim
  · split at po
    · rename_i a b _ c hc
      cases hx; cases hy
      have e : a = ⟨#[c]⟩ := by
        apply TL.ext_tl
        exact hc
      exact .inr ⟨c, b, by rw [e], rfl, post_okB r po⟩
    · exact po.elim
  · exact po.elim
theorem o_is : Op2 X W (compareOp .Is) kIs := by
  refine ⟨_, OpR.or op_isN op_isBl, fun G B S σ H Q x y v w r hx hy po => ?_⟩
  unfold kIs kIs0 at po
  split at po
  · cases hy
    refine .inl ⟨rfl, ?_⟩
    rw [isNone_eq hx]
    exact post_okB r po
  · cases hx; cases hy
    exact .inr ⟨_, _, rfl, rfl, post_okB r po⟩
  · exact po.elim
theorem o_isNot : Op2 X W (compareOp .IsNot) kIsNot := by
  refine ⟨_, OpR.or op_notN op_notBl, fun G B S σ H Q x y v w r hx hy po => ?_⟩
  unfold kIsNot kIs0 at po
  split at po
  · cases hy
    refine .inl ⟨rfl, ?_⟩
    rw [isNone_eq hx]
    exact post_okB r po
  · cases hx; cases hy
    exact .inr ⟨_, _, rfl, rfl, post_okB r po⟩
  · exact po.elim
end
end DL

set_option maxRecDepth 100000
set_option maxHeartbeats 1000000
/-! DL4: tests, subscripts, slices, calls of built-ins, methods of texts -/
namespace DL
open PySem PySem.Spec PyProof.Rows L2
variable [Tbl]

section
variable {X : Cx} {G : Gd} {W : XK} {k : Nat} {e a b c : Expr} {rest es : List Expr} {pos : Pos} {fd gd hd : AS → Rs D} {fa ga : AS → Rs (List D)} {ft gt : AS → Rs Bool} {fe ge : AS → Rs SV}
/-! ### tests -/
def truD : D → Option Bool
  | .none => some false
  | .bool b => some b
  | .int i => some (i != 0)
  | .str x => if small x.length = true then some ((x.length : Int) != 0) else none
  | .list ds => some (!ds.isEmpty)
  | .tuple ds => some (!ds.isEmpty)
  | _ => none
def fTru (f : AS → Rs D) : AS → Rs Bool := fun S => (f S).bind fun d S1 => match truD d with
  | some b => .ok b S1
  | none => .stuck
theorem isEmpty_dq {K : PySem.W.Frag} {H : Hp} {vs : List V} {ds : List D} (h : DqAll K H vs ds) : vs.isEmpty = ds.isEmpty := by cases h <;> rfl
theorem t_val (h : DD X W e fd) (he : ∀ whole, isTrue e X.env whole = (do let v ← whole; standAt e.pos; holding [v] (truthy v)) := by intro _; rfl) : DT X W e (fTru fd) := by
  obtain ⟨t, p, q⟩ := h.run
  refine ⟨_, pt_truth p he, fun G B S σ H Q r po => q G B S σ H _ r (po.seq fun d S1 v B1 H1 e1 r1 x1 po1 => ?_)⟩
  cases hb : truD d with
  | none => simp only [hb] at po1; exact po1.elim
  | some bb =>
    simp only [hb] at po1
    refine ⟨bb, ?_, po1 _ B1 H1 (Ex.refl _) r1 rfl⟩
    cases x1 with
    | non => simp [truD] at hb; first | exact hb | exact hb.symm
    | bl b => simp [truD] at hb; first | exact hb | exact hb.symm
    | int i => simp [truD] at hb; first | exact hb | exact hb.symm
    | str x _ =>
      simp only [truD] at hb
      split at hb
      · rename_i hs
        exact ⟨small_line hs, (Option.some.inj hb).symm⟩
      · cases hb
    | lst s a =>
      simp only [truD, Option.some.injEq] at hb
      exact .inl ⟨_, rd_H r1 s, by rw [isEmpty_dq a]; exact hb.symm⟩
    | tup s a =>
      simp only [truD, Option.some.injEq] at hb
      exact .inr (.inl ⟨_, sqT_H r1 s, by rw [isEmpty_dq a]; exact hb.symm⟩)
theorem DW.t (h : DW X W e ft) : DT X W e ft := by
  obtain ⟨t, p, q⟩ := h.run
  exact ⟨t, p.pt, q⟩
def fAnd (f g : AS → Rs Bool) : AS → Rs Bool := fun S => (f S).bind fun b S1 => if b = true then g S1 else .ok false S1
def fOr (f g : AS → Rs Bool) : AS → Rs Bool := fun S => (f S).bind fun b S1 => if b = true then .ok true S1 else g S1
def fNot (f : AS → Rs Bool) : AS → Rs Bool := fun S => (f S).bind fun b S1 => .ok (!b) S1
theorem w_and1 (h : DT X W a ft) : DW X W (.BoolOp .And [a] pos) ft := by
  obtain ⟨t, p, q⟩ := h.run
  exact ⟨_, pw_and1 p, q⟩
theorem w_or1 (h : DT X W a ft) : DW X W (.BoolOp .Or [a] pos) ft := by
  obtain ⟨t, p, q⟩ := h.run
  exact ⟨_, pw_or1 p, q⟩
theorem w_and (h : DT X W a ft) (h2 : DW X W (.BoolOp .And (b :: rest) pos) gt) : DW X W (.BoolOp .And (a :: b :: rest) pos) (fAnd ft gt) := by
  obtain ⟨t, p, q⟩ := h.run
  obtain ⟨t2, p2, q2⟩ := h2.run
  refine ⟨_, pw_and p p2, fun G B S σ H Q r po => q G B S σ H _ r (po.seq fun d S1 v B1 H1 e1 r1 x1 po1 => ?_)⟩
  have x1 : v = d := x1
  subst x1
  cases v with
  | true => exact q2 G B1 S1 σ H1 Q r1 po1
  | false => exact po1 _ B1 H1 (Ex.refl _) r1 rfl
theorem w_or (h : DT X W a ft) (h2 : DW X W (.BoolOp .Or (b :: rest) pos) gt) : DW X W (.BoolOp .Or (a :: b :: rest) pos) (fOr ft gt) := by
  obtain ⟨t, p, q⟩ := h.run
  obtain ⟨t2, p2, q2⟩ := h2.run
  refine ⟨_, pw_or p p2, fun G B S σ H Q r po => q G B S σ H _ r (po.seq fun d S1 v B1 H1 e1 r1 x1 po1 => ?_)⟩
  have x1 : v = d := x1
  subst x1
  cases v with
  | true => exact po1 _ B1 H1 (Ex.refl _) r1 rfl
  | false => exact q2 G B1 S1 σ H1 Q r1 po1
theorem t_not (h : DT X W a ft) : DT X W (.UnaryOp .Not a pos) (fNot ft) := by
  obtain ⟨t, p, q⟩ := h.run
  refine ⟨_, pt_not p, fun G B S σ H Q r po => q G B S σ H _ r (po.seq fun d S1 v B1 H1 e1 r1 x1 po1 => ?_)⟩
  cases x1
  exact po1 _ B1 H1 (Ex.refl _) r1 rfl
/-- .. as values: all but the last truths -/
def fAndV (f g : AS → Rs D) : AS → Rs D := fun S => (f S).bind fun b S1 => match b with
  | .bool true => g S1
  | .bool false => .ok (.bool false) S1
  | _ => .stuck
def fOrV (f g : AS → Rs D) : AS → Rs D := fun S => (f S).bind fun b S1 => match b with
  | .bool true => .ok (.bool true) S1
  | .bool false => g S1
  | _ => .stuck
theorem v_one {op} (h : DD X W a fd) : DD X W (.BoolOp op [a] pos) fd := by
  obtain ⟨t, p, q⟩ := h.run
  exact ⟨_, pe_one p, q⟩
theorem v_and (h : DD X W a fd) (h2 : DD X W (.BoolOp .And (b :: rest) pos) gd) : DD X W (.BoolOp .And (a :: b :: rest) pos) (fAndV fd gd) := by
  obtain ⟨t, p, q⟩ := h.run
  obtain ⟨t2, p2, q2⟩ := h2.run
  refine ⟨_, pe_and p p2, fun G B S σ H Q r po => q G B S σ H _ r (po.seq fun d S1 v B1 H1 e1 r1 x1 po1 => ?_)⟩
  split at po1
  · cases x1
    exact ⟨true, rfl, q2 G B1 S1 σ H1 Q r1 po1⟩
  · cases x1
    exact ⟨false, rfl, po1 _ B1 H1 (Ex.refl _) r1 (.bl false)⟩
  · exact po1.elim
theorem v_or (h : DD X W a fd) (h2 : DD X W (.BoolOp .Or (b :: rest) pos) gd) : DD X W (.BoolOp .Or (a :: b :: rest) pos) (fOrV fd gd) := by
  obtain ⟨t, p, q⟩ := h.run
  obtain ⟨t2, p2, q2⟩ := h2.run
  refine ⟨_, pe_or p p2, fun G B S σ H Q r po => q G B S σ H _ r (po.seq fun d S1 v B1 H1 e1 r1 x1 po1 => ?_)⟩
  split at po1
  · cases x1
    exact ⟨true, rfl, po1 _ B1 H1 (Ex.refl _) r1 (.bl true)⟩
  · cases x1
    exact ⟨false, rfl, q2 G B1 S1 σ H1 Q r1 po1⟩
  · exact po1.elim
def fNotV (f : AS → Rs D) : AS → Rs D := fun S => (f S).bind fun b S1 => match b with
  | .bool b => .ok (.bool (!b)) S1
  | _ => .stuck
theorem v_not (h : DD X W a fd) : DD X W (.UnaryOp .Not a pos) (fNotV fd) := by
  obtain ⟨t, p, q⟩ := h.run
  refine ⟨_, pe_not p, fun G B S σ H Q r po => q G B S σ H _ r (po.seq fun d S1 v B1 H1 e1 r1 x1 po1 => ?_)⟩
  split at po1
  · cases x1
    exact ⟨_, rfl, po1 _ B1 H1 (Ex.refl _) r1 (.bl _)⟩
  · exact po1.elim
def fIf (t : AS → Rs Bool) (f g : AS → Rs SV) : AS → Rs SV := fun S => (t S).bind fun b S1 => if b = true then f S1 else g S1
theorem d_if (h : DT X W c ft) (h1 : DE X W a fe) (h2 : DE X W b ge) : DE X W (.IfExp c a b pos) (fIf ft fe ge) := by
  obtain ⟨t, p, q⟩ := h.run
  obtain ⟨t1, p1, q1⟩ := h1.run
  obtain ⟨t2, p2, q2⟩ := h2.run
  refine ⟨_, pe_ifExp p p1 p2, fun G B S σ H Q r po => q G B S σ H _ r (po.seq fun d S1 v B1 H1 e1 r1 x1 po1 => ?_)⟩
  have x1 : v = d := x1
  subst x1
  cases v with
  | true => exact q1 G B1 S1 σ H1 Q r1 po1
  | false => exact q2 G B1 S1 σ H1 Q r1 po1
/-- a op b op' c -/
def chTail (k2 : D → D → AS → Rs SV) (h : AS → Rs D) (y : D) : SV → AS → Rs SV
  | .dat (.bool true), S3 => (h S3).bind fun w S4 => k2 y w S4
  | .dat (.bool false), S3 => okB false S3
  | _, _ => .stuck
def fChain (k1 k2 : D → D → AS → Rs SV) (f g h : AS → Rs D) : AS → Rs SV := fun S => (f S).bind fun x S1 => (g S1).bind fun y S2 => (k1 x y S2).bind (chTail k2 h y)
theorem chain_tail {op' : CmpOp} {kk' : D → D → AS → Rs SV} {r' : R2} {z : SV} {y : D} {w zv : V} {tc : TE} {B : Hp} {S : AS} {σ : L2.St} {H : Hp} {Q : VK} (hr' : ∀ G B S σ H Q x y v w, Rep X.K G B S σ H → Dq X.K B v x → Dq X.K B w y → Post X.K X.mg G W B σ (RE X.K G σ) Q (kk' x y S) → r' v w H Q)
    (qc : ∀ G B S σ H Q, Rep X.K G B S σ H → Post X.K X.mg G W B σ (RD X.K) Q (hd S) → tc σ H Q) (r3 : Rep X.K G B S σ H) (hy : Dq X.K B w y) (hz : ResR X.K G B S σ H zv z)
    (po : Post X.K X.mg G W B σ (RE X.K G σ) Q (chTail kk' hd y z S)) : ∃ k, zv = .bl k ∧ (if k = true then tc σ H fun w' H4 => r' w w' H4 Q else Q (.bl false) H) := by
  cases z with
  | exn _ _ _ => exact po.elim
  | own _ => exact po.elim
  | par _ _ => exact po.elim
  | dat d =>
    have hz : Dq X.K B zv d := hz
    cases hz with
    | bl b =>
      cases b with
      | true =>
        refine ⟨true, rfl, ?_⟩
        rw [if_pos rfl]
        refine qc G B S σ H _ r3 (po.seq fun w' S4 v4 B4 H4 e4 r4 x4 po4 => ?_)
        exact hr' G B4 S4 σ H4 Q y w' w v4 r4 (dq_mono e4 _ _ hy) x4 po4
      | false =>
        refine ⟨false, rfl, ?_⟩
        rw [if_neg Bool.false_ne_true]
        exact post_okB r3 po
    | non => exact po.elim
    | int _ => exact po.elim
    | str _ _ => exact po.elim
    | lst _ _ => exact po.elim
    | tup _ _ => exact po.elim
theorem d_chain {op op' : CmpOp} {kk kk' : D → D → AS → Rs SV} (o : Op2 X W (compareOp op) kk) (o' : Op2 X W (compareOp op') kk') (ha : DD X W a fd) (hb : DD X W b gd) (hc : DD X W c hd)
    (hm : lastMarks [op, op'] [b, c] = false := by with_unfolding_all rfl) : DE X W (.Compare a [op, op'] [b, c] pos) (fChain kk kk' fd gd hd) := by
  obtain ⟨r, ho, hr⟩ := o.run
  obtain ⟨r', ho', hr'⟩ := o'.run
  obtain ⟨ta, pa, qa⟩ := ha.run
  obtain ⟨tb, pb, qb⟩ := hb.run
  obtain ⟨tc, pc, qc⟩ := hc.run
  refine ⟨_, pe_chain ho ho' pa pb pc hm, fun G B S σ H Q r po => qa G B S σ H _ r (po.seq fun x S1 v B1 H1 e1 r1 x1 po1 => ?_)⟩
  refine qb G B1 S1 σ H1 _ r1 (po1.seq fun y S2 w B2 H2 e2 r2 x2 po2 => ?_)
  refine hr G B2 S2 σ H2 _ x y v w r2 (dq_mono e2 _ _ x1) x2 (po2.seq fun z S3 zv B3 H3 e3 r3 x3 po3 => ?_)
  exact chain_tail (op' := op') hr' qc r3 (dq_mono e3 _ _ x2) x3 po3
/-- an expression that gives a truth, as a test -/
theorem DE.test (h : DE X W e fe) (he : ∀ whole, isTrue e X.env whole = (do let v ← whole; standAt e.pos; holding [v] (truthy v)) := by intro _; rfl) : DT X W e (fun S => toB (fe S)) := by
  obtain ⟨t, p, q⟩ := h.run
  refine ⟨_, pt_val p he, fun G B S σ H Q r po => q G B S σ H _ r (po.seq fun d S1 v B1 H1 e1 r1 x1 po1 => ?_)⟩
  split at po1
  · cases x1
    exact ⟨_, rfl, po1 _ B1 H1 (Ex.refl _) r1 rfl⟩
  · exact po1.elim
theorem t_chain {op op' : CmpOp} {kk kk' : D → D → AS → Rs SV} (o : Op2 X W (compareOp op) kk) (o' : Op2 X W (compareOp op') kk') (ha : DD X W a fd) (hb : DD X W b gd) (hc : DD X W c hd)
    (hm : lastMarks [op, op'] [b, c] = false := by with_unfolding_all rfl) : DT X W (.Compare a [op, op'] [b, c] pos) (fun S => toB (fChain kk kk' fd gd hd S)) := by
  obtain ⟨r, ho, hr⟩ := o.run
  obtain ⟨r', ho', hr'⟩ := o'.run
  obtain ⟨ta, pa, qa⟩ := ha.run
  obtain ⟨tb, pb, qb⟩ := hb.run
  obtain ⟨tc, pc, qc⟩ := hc.run
  have key : ∀ G B S σ H Q, Rep X.K G B S σ H → Post X.K X.mg G W B σ (RE X.K G σ) Q (fChain kk kk' fd gd hd S) → tChain r r' ta tb tc σ H Q := by
    intro G B S σ H Q r po
    refine qa G B S σ H _ r (po.seq fun x S1 v B1 H1 e1 r1 x1 po1 => ?_)
    refine qb G B1 S1 σ H1 _ r1 (po1.seq fun y S2 w B2 H2 e2 r2 x2 po2 => ?_)
    refine hr G B2 S2 σ H2 _ x y v w r2 (dq_mono e2 _ _ x1) x2 (po2.seq fun z S3 zv B3 H3 e3 r3 x3 po3 => ?_)
    exact chain_tail (op' := op') hr' qc r3 (dq_mono e3 _ _ x2) x3 po3
  refine ⟨_, pt_chain ho ho' pa pb pc hm, fun G B S σ H Q r po => key G B S σ H _ r (po.seq fun d S1 v B1 H1 e1 r1 x1 po1 => ?_)⟩
  split at po1
  · cases x1
    exact ⟨_, rfl, po1 _ B1 H1 (Ex.refl _) r1 rfl⟩
  · exact po1.elim

/-! ### subscripts -/
theorem atI_map {α β : Type} {R : α → β → Prop} {xs : List α} {ys : List β} (hl : xs.length = ys.length) {i : Int} {y : β} (h : atI ys i = some y) (g : ∀ (j : Nat) (y : β), ys[j]? = some y → ∃ x, xs[j]? = some x ∧ R x y) : ∃ x, atI xs i = some x ∧ R x y := by
  unfold atI at h ⊢
  rw [hl]
  cases hj : ixN ys.length i with
  | none => rw [hj] at h; cases h
  | some j =>
    rw [hj] at h
    obtain ⟨x, h1, h2⟩ := g j y h
    exact ⟨x, h1, h2⟩
def kItem : D → D → AS → Rs SV
  | .list ds, .int i, S => match atI ds i with
    | some d => okD d S
    | none => .stuck
  | .tuple ds, .int i, S => match atI ds i with
    | some d => okD d S
    | none => .stuck
  | .str x, .int i, S => if small x.length = true then (match atI x.cps.toList i with
    | some c => okD (.str ⟨#[c]⟩) S
    | none => .stuck) else .stuck
  | _, _, _ => .stuck
theorem strOk_one {x : Str} {c : Nat} (h : PyData.strOk x = true) (hc : c ∈ x.cps.toList) : PyData.strOk ⟨#[c]⟩ = true := strOk_of fun d hd => by
  have : d = c := by simpa using hd
  rw [this]
  exact strOk_iff.mp h c hc
theorem atI_mem {α : Type} {xs : List α} {i : Int} {x : α} (h : atI xs i = some x) : x ∈ xs := by
  unfold atI at h
  cases hj : ixN xs.length i with
  | none => rw [hj] at h; cases h
  | some j => rw [hj] at h; exact List.mem_of_getElem? h
/-- what an item is, whatever the base is in H -/
theorem item_ok {B H : Hp} {S : AS} {σ : L2.St} {Q : VK} {v w : V} {x y : D} (r : Rep X.K G B S σ H) (hb : (∃ a vs ds, v = .ref a ∧ x = .list ds ∧ SqL X.K H a vs ∧ DqAll X.K B vs ds) ∨ Dq X.K B v x) (hy : Dq X.K B w y) (po : Post X.K X.mg G W B σ (RE X.K G σ) Q (kItem x y S)) : rIx X.K v w H Q := by
  have lst : ∀ {a : Addr} {vs : List V} {ds : List D}, v = .ref a → x = .list ds → SqL X.K H a vs → DqAll X.K B vs ds → rIx X.K v w H Q := by
    intro a vs ds hv hx s al
    subst hv hx
    cases hy with
    | int i =>
      simp only [kItem] at po
      split at po
      · rename_i d hd
        obtain ⟨z, h1, h2⟩ := atI_map (R := fun z d => Dq X.K B z d) al.length hd fun j y e => al.get e
        exact .inl ⟨_, _, _, z, rfl, rfl, s, h1, post_ok r h2 po⟩
      · exact po.elim
    | _ => exact po.elim
  rcases hb with ⟨a, vs, ds, rfl, rfl, s, al⟩ | hx
  · exact lst rfl rfl s al
  · cases hx with
    | lst s al => exact lst rfl rfl (rd_H r s) al
    | tup s al =>
      cases hy with
      | int i =>
        simp only [kItem] at po
        split at po
        · rename_i d hd
          obtain ⟨z, h1, h2⟩ := atI_map (R := fun z d => Dq X.K B z d) al.length hd fun j y e => al.get e
          exact .inr (.inl ⟨_, _, _, z, rfl, rfl, sqT_H r s, h1, post_ok r h2 po⟩)
        · exact po.elim
      | _ => exact po.elim
    | str z s1 =>
      cases hy with
      | int i =>
        simp only [kItem] at po
        split at po
        · rename_i hs
          split at po
          · rename_i c hc
            exact .inr (.inr ⟨_, _, _, rfl, rfl, small_line hs, hc, post_ok r (.str _ (strOk_one s1 (atI_mem hc))) po⟩)
          · exact po.elim
        · exact po.elim
      | _ => exact po.elim
    | non => exact po.elim
    | bl _ => exact po.elim
    | int _ => exact po.elim
theorem d_item (h : DD X W a fd) (h2 : DD X W b gd) (hs : PlainIx b := by exact fun _ _ => rfl) : DE X W (.Subscript a b pos) (fOp kItem fd gd) := by
  obtain ⟨t, p, q⟩ := h.run
  obtain ⟨t2, p2, q2⟩ := h2.run
  refine ⟨_, pe_ix ix_seq p p2 hs, fun G B S σ H Q r po => q G B S σ H _ r (po.seq fun x S1 v B1 H1 e1 r1 x1 po1 => ?_)⟩
  refine q2 G B1 S1 σ H1 _ r1 (po1.seq fun y S2 w B2 H2 e2 r2 x2 po2 => ?_)
  exact item_ok r2 (.inr (dq_mono e2 _ _ x1)) x2 po2
/-- the content of slot i, as it stands -/
def peek (i : Nat) (S : AS) : Option D := match S[i]? with
  | some (some (.dat d)) => some d
  | some (some (.own ds)) => some (.list ds)
  | some (some (.par _ ds)) => some (.list ds)
  | _ => none
/-- x[b], x a name whose list may be one's own: looked at behind b -/
def fPeekItem (i : Nat) (g : AS → Rs D) : AS → Rs SV := fun S => match S[i]? with
  | some (some _) => (g S).bind fun y S1 => match peek i S1 with
    | some x => kItem x y S1
    | none => .stuck
  | _ => .stuck
theorem peek_slot {K : PySem.W.Frag} {B H : Hp} {S : AS} {σ : L2.St} {i : Nat} {x : D} {v : V} (r : Rep K G B S σ H) (h : peek i S = some x) (hv : σ[i]? = some (some v)) : (∃ a vs ds, v = .ref a ∧ x = .list ds ∧ SqL K H a vs ∧ DqAll K B vs ds) ∨ Dq K B v x := by
  unfold peek at h
  split at h
  · rename_i d e
    cases h
    obtain ⟨v', e1, e2⟩ := r.sl _ _ e
    rw [hv] at e1
    cases e1
    exact .inr e2
  · rename_i ds e
    cases h
    obtain ⟨v', e1, a, vs, e2, e3, e4, e5, e6⟩ := r.sl _ _ e
    rw [hv] at e1
    cases e1
    exact .inl ⟨a, vs, ds, e2, rfl, .inl (.inl e3), e6⟩
  · rename_i k ds e
    cases h
    obtain ⟨v', e1, a, vs, e2, e3, e4, e5⟩ := r.sl _ _ e
    rw [hv] at e1
    cases e1
    exact .inl ⟨a, vs, ds, e2, rfl, .inl (.inl e4), e5⟩
  · cases h
theorem d_peekItem (i : Nat) {x : Str} {p : Pos} (h2 : DD X W b gd) (hs : PlainIx b := by exact fun _ _ => rfl) (hN : X.N[i]? = some x := by rfl) (hv : Vis X.env.scope x := by first | exact Or.inl rfl | exact Or.inr (Or.inl rfl) | exact Or.inr (Or.inr rfl)) (hd : (x == ("__debug__" : Str)) = false := by decide)
    (hcd : (x == ("__classdict__" : Str)) = false := by decide) : DE X W (.Subscript (.Name x p) b pos) (fPeekItem i gd) := by
  obtain ⟨t2, p2, q2⟩ := h2.run
  refine ⟨_, pe_ix ix_seq (pe_var hN hv hd hcd) p2 hs, fun G B S σ H Q r po => ?_⟩
  unfold fPeekItem at po
  split at po
  · rename_i sv e
    obtain ⟨v, e1, e2⟩ := r.sl _ _ e
    refine ⟨v, e1, ?_⟩
    refine q2 G B S σ H _ r (po.seq fun y S1 w B1 H1 e3 r1 x1 po1 => ?_)
    cases hp : peek i S1 with
    | none => rw [hp] at po1; exact po1.elim
    | some x =>
      rw [hp] at po1
      exact item_ok r1 (peek_slot r1 hp e1) x1 po1
  · exact po.elim
/-- a comparison whose left side is such a name -/
def fPeekCmp (i : Nat) (kk : D → D → AS → Rs SV) (g : AS → Rs D) : AS → Rs SV := fun S => match S[i]? with
  | some (some _) => (g S).bind fun y S1 => match peek i S1 with
    | some x => kk x y S1
    | none => .stuck
  | _ => .stuck
theorem dq_of_peek {K : PySem.W.Frag} {B H : Hp} {S : AS} {σ : L2.St} {x : D} {v : V} (r : Rep K G B S σ H) (h : (∃ a vs ds, v = .ref a ∧ x = .list ds ∧ SqL K H a vs ∧ DqAll K B vs ds) ∨ Dq K B v x) : Dq K H v x := by
  rcases h with ⟨a, vs, ds, rfl, rfl, s, al⟩ | h
  · exact .lst s (dqAll_mono r.g.bh _ _ al)
  · exact rep_bh r h
/-- an operator that reads alone: its operands stand in H -/
structure OpP (X : Cx) (W : XK) (f : Value → Value → Sem Value) (k : D → D → AS → Rs SV) : Prop where
  run : ∃ r, OpR X f r ∧ ∀ G B S σ H Q x y v w, Rep X.K G B S σ H → Dq X.K H v x → Dq X.K H w y → Post X.K X.mg G W B σ (RE X.K G σ) Q (k x y S) → r v w H Q
theorem p_eq (C : Ctx X W k) : OpP X W (compareOp .Eq) kEq := by
  refine ⟨_, op_eqQ C.hu, fun G B S σ H Q x y v w r hx hy po => ?_⟩
  unfold kEq at po
  split at po
  · rename_i hs
    exact ⟨_, _, hx, hy, hs, post_okB r po⟩
  · exact po.elim
theorem p_ne (C : Ctx X W k) : OpP X W (compareOp .NotEq) kNe := by
  refine ⟨_, op_neQ C.hu, fun G B S σ H Q x y v w r hx hy po => ?_⟩
  unfold kNe at po
  split at po
  · rename_i hs
    exact ⟨_, _, hx, hy, hs, post_okB r po⟩
  · exact po.elim
theorem peekCmp_run {op : CmpOp} {kk : D → D → AS → Rs SV} {i : Nat} {r : R2} {tb : TE} (hr : ∀ G B S σ H Q x y v w, Rep X.K G B S σ H → Dq X.K H v x → Dq X.K H w y → Post X.K X.mg G W B σ (RE X.K G σ) Q (kk x y S) → r v w H Q)
    (q2 : ∀ G B S σ H Q, Rep X.K G B S σ H → Post X.K X.mg G W B σ (RD X.K) Q (gd S) → tb σ H Q) {B : Hp} {S : AS} {σ : L2.St} {H : Hp} {Q : VK} (r0 : Rep X.K G B S σ H) (po : Post X.K X.mg G W B σ (RE X.K G σ) Q (fPeekCmp i kk gd S)) : tOp r (tVar i) tb σ H Q := by
  unfold fPeekCmp at po
  split at po
  · rename_i sv e
    obtain ⟨v, e1, e2⟩ := r0.sl _ _ e
    refine ⟨v, e1, ?_⟩
    refine q2 G B S σ H _ r0 (po.seq fun y S1 w B1 H1 e3 r1 x1 po1 => ?_)
    cases hp : peek i S1 with
    | none => rw [hp] at po1; exact po1.elim
    | some x =>
      rw [hp] at po1
      exact hr G B1 S1 σ H1 Q x y v w r1 (dq_of_peek r1 (peek_slot r1 hp e1)) (rep_bh r1 x1) po1
  · exact po.elim
theorem d_peekCmp (i : Nat) {x : Str} {p : Pos} {op : CmpOp} {kk : D → D → AS → Rs SV} (o : OpP X W (compareOp op) kk) (h2 : DD X W b gd) (hm : behindInMarks op b = false := by first | rfl | exact nomark _) (hN : X.N[i]? = some x := by rfl) (hv : Vis X.env.scope x := by first | exact Or.inl rfl | exact Or.inr (Or.inl rfl) | exact Or.inr (Or.inr rfl)) (hd : (x == ("__debug__" : Str)) = false := by decide)
    (hcd : (x == ("__classdict__" : Str)) = false := by decide) : DE X W (.Compare (.Name x p) [op] [b] pos) (fPeekCmp i kk gd) := by
  obtain ⟨r, ho, hr⟩ := o.run
  obtain ⟨t2, p2, q2⟩ := h2.run
  exact ⟨_, pe_cmpR ho (pe_var hN hv hd hcd) p2 hm, fun G B S σ H Q r po => peekCmp_run (op := op) hr q2 r po⟩
theorem t_peekCmp (i : Nat) {x : Str} {p : Pos} {op : CmpOp} {kk : D → D → AS → Rs SV} (o : OpP X W (compareOp op) kk) (h2 : DD X W b gd) (hm : behindInMarks op b = false := by first | rfl | exact nomark _) (hN : X.N[i]? = some x := by rfl) (hv : Vis X.env.scope x := by first | exact Or.inl rfl | exact Or.inr (Or.inl rfl) | exact Or.inr (Or.inr rfl)) (hd : (x == ("__debug__" : Str)) = false := by decide)
    (hcd : (x == ("__classdict__" : Str)) = false := by decide) : DT X W (.Compare (.Name x p) [op] [b] pos) (fun S => toB (fPeekCmp i kk gd S)) := by
  obtain ⟨r, ho, hr⟩ := o.run
  obtain ⟨t2, p2, q2⟩ := h2.run
  refine ⟨_, pt_cmpR ho (pe_var hN hv hd hcd) p2 hm, fun G B S σ H Q r po => peekCmp_run (op := op) hr q2 r (po.seq fun d S1 v B1 H1 e1 r1 x1 po1 => ?_)⟩
  split at po1
  · cases x1
    exact ⟨_, rfl, po1 _ B1 H1 (Ex.refl _) r1 rfl⟩
  · exact po1.elim
end
end DL

set_option maxRecDepth 100000
set_option maxHeartbeats 1000000
/-! DL5: slices, calls of built-ins, methods of texts, lists of one's own changed -/
namespace DL
open PySem PySem.Spec PyProof.Rows L2
variable [Tbl]

section
variable {X : Cx} {G : Gd} {W : XK} {k : Nat} {e a b c : Expr} {rest es : List Expr} {pos : Pos} {fd gd hd : AS → Rs D} {fa ga : AS → Rs (List D)} {ft gt : AS → Rs Bool} {fe ge : AS → Rs SV}
/-! ### slices -/
abbrev RO : Hp → AS → Hp → Option Int → Option Int → Prop := fun _ _ _ b a => b = a
structure DO (X : Cx) (W : XK) (e : Option Expr) (f : AS → Rs (Option Int)) : Prop where
  run : ∃ t, PO X e t ∧ ∀ G B S σ H Q, Rep X.K G B S σ H → Post X.K X.mg G W B σ RO Q (f S) → t σ H Q
def fNoPart : AS → Rs (Option Int) := fun S => .ok none S
def fPart (f : AS → Rs D) : AS → Rs (Option Int) := fun S => (f S).bind fun d S1 => match d with
  | .int i => .ok (some i) S1
  | _ => .stuck
theorem po_no : DO X W none fNoPart := ⟨_, po_none, fun G B S σ H Q r po => po _ B H (Ex.refl _) r rfl⟩
theorem po_so (h : DD X W e fd) : DO X W (some e) (fPart fd) := by
  obtain ⟨t, p, q⟩ := h.run
  refine ⟨_, po_some p, fun G B S σ H Q r po => q G B S σ H _ r (po.seq fun d S1 v B1 H1 e1 r1 x1 po1 => ?_)⟩
  split at po1
  · cases x1
    exact ⟨_, rfl, po1 _ B1 H1 (Ex.refl _) r1 rfl⟩
  · exact po1.elim
def cutD {α : Type} (xs : List α) (lo hi : Option Int) : List α := (xs.drop (HT.sIx xs.length 0 lo)).take (HT.sIx xs.length xs.length hi - HT.sIx xs.length 0 lo)
def kSlice (x : D) (lo hi : Option Int) (S : AS) : Rs SV := match x with
  | .list ds => .ok (.own (cutD ds lo hi)) S
  | .tuple ds => okD (.tuple (cutD ds lo hi)) S
  | .str z => if small z.length = true then okD (.str (cutS z lo hi)) S else .stuck
  | _ => .stuck
def fSlice (f : AS → Rs D) (l h : AS → Rs (Option Int)) : AS → Rs SV := fun S => (f S).bind fun x S1 => (l S1).bind fun lo S2 => (h S2).bind fun hi S3 => kSlice x lo hi S3
theorem strOk_cut {z : Str} (h : PyData.strOk z = true) (lo hi : Option Int) : PyData.strOk (cutS z lo hi) = true := strOk_sub h fun c hc => by
  have hc : c ∈ (z.cps.toList.drop (HT.sIx z.length 0 lo)).take (HT.sIx z.length z.length hi - HT.sIx z.length 0 lo) := hc
  exact List.mem_of_mem_drop (List.mem_of_mem_take hc)
theorem d_slice {lo hi : Option Expr} {fl fh : AS → Rs (Option Int)} {p2 : Pos} (h : DD X W a fd) (hl : DO X W lo fl) (hh : DO X W hi fh) : DE X W (.Subscript a (.Slice lo hi none p2) pos) (fSlice fd fl fh) := by
  obtain ⟨t, p, q⟩ := h.run
  obtain ⟨t1, p1, q1⟩ := hl.run
  obtain ⟨t2, p2, q2⟩ := hh.run
  refine ⟨_, pe_slice (SlR.or sl_str (SlR.or sl_tupA sl_list)) p p1 p2, fun G B S σ H Q r po => q G B S σ H _ r (po.seq fun x S1 v B1 H1 e1 r1 x1 po1 => ?_)⟩
  refine q1 G B1 S1 σ H1 _ r1 (po1.seq fun lo S2 lo' B2 H2 e2 r2 x2 po2 => ?_)
  have x2 : lo' = lo := x2
  subst x2
  refine q2 G B2 S2 σ H2 _ r2 (po2.seq fun hi S3 hi' B3 H3 e3 r3 x3 po3 => ?_)
  have x3 : hi' = hi := x3
  subst x3
  have y := dq_mono (e2.trans e3) _ _ x1
  cases y with
  | str z s1 =>
    simp only [kSlice] at po3
    split at po3
    · rename_i hs
      exact .inl ⟨_, rfl, small_line hs, post_ok r3 (.str _ (strOk_cut s1 _ _)) po3⟩
    · exact po3.elim
  | tup s al =>
    rename_i ad xs ds
    simp only [kSlice] at po3
    refine .inr (.inl ⟨_, _, rfl, sqT_H r3 s, fun hw => ?_, fun hw p hp => ?_⟩)
    · have : cutD ds lo' hi' = ds := by
        unfold cutD
        rw [al.length] at hw
        rw [hw.1, hw.2]
        simp
      rw [this] at po3
      exact post_ok r3 (.tup s al) po3
    · refine new_dat r3 (ds := cutD ds lo' hi') ?_ po3 hp
      unfold cutD cutV
      rw [← al.length]
      exact (al.drop _).take _
  | lst s al =>
    rename_i ad xs ds
    simp only [kSlice] at po3
    refine .inr (.inr ⟨_, _, rfl, (rd_H r3 s), fun p hp => ?_⟩)
    refine new_own r3 (ds := cutD ds lo' hi') ?_ po3 hp
    unfold cutD cutV
    rw [← al.length]
    exact (al.drop _).take _
  | non => exact po3.elim
  | bl _ => exact po3.elim
  | int _ => exact po3.elim
/-- xs[::-1] -/
def fRev (f : AS → Rs D) : AS → Rs SV := fun S => (f S).bind fun x S1 => match x with
  | .list ds => .ok (.own ds.reverse) S1
  | _ => .stuck
theorem d_rev {kk : Nat} {p1 p2 p3 : Pos} (h : DD X W a fd) : DE X W (.Subscript a (.Slice none none (some (.UnaryOp .USub (.Constant (.int 1) kk p1) p2)) p3) pos) (fRev fd) := by
  obtain ⟨t, p, q⟩ := h.run
  refine ⟨_, pe_revL p, fun G B S σ H Q r po => q G B S σ H _ r (po.seq fun x S1 v B1 H1 e1 r1 x1 po1 => ?_)⟩
  split at po1
  · cases x1 with | lst s al =>
    exact ⟨_, _, rfl, (rd_H r1 s), fun p hp => new_own r1 al.reverse po1 hp⟩
  · exact po1.elim

/-! ### negative numbers -/
def fNeg (f : AS → Rs D) : AS → Rs D := fun S => (f S).bind fun x S1 => match x with
  | .int i => .ok (.int (-i)) S1
  | _ => .stuck
theorem d_neg (h : DD X W a fd) : DD X W (.UnaryOp .USub a pos) (fNeg fd) := by
  obtain ⟨t, p, q⟩ := h.run
  refine ⟨_, pe_un un_neg p, fun G B S σ H Q r po => q G B S σ H _ r (po.seq fun x S1 v B1 H1 e1 r1 x1 po1 => ?_)⟩
  split at po1
  · cases x1
    exact ⟨_, rfl, po1 _ B1 H1 (Ex.refl _) r1 (.int _)⟩
  · exact po1.elim

/-! ### calls of built-ins -/
structure OpC (X : Cx) (W : XK) (f : Value) (k : List D → AS → Rs SV) : Prop where
  run : ∃ r, CallR X f r ∧ ∀ G B S σ H Q ds vs, Rep X.K G B S σ H → DqAll X.K B vs ds → Post X.K X.mg G W B σ (RE X.K G σ) Q (k ds S) → r vs H Q
def fCall (k : List D → AS → Rs SV) (f : AS → Rs (List D)) : AS → Rs SV := fun S => (f S).bind k
theorem d_callB {id : String} {x : Str} {p : Pos} {kk : List D → AS → Rs SV} (o : OpC X W (.builtin id) kk) (hm : X.mg x = none) (hv : bootBuiltins x = some (.builtin id)) (ha : DA X W (e :: es) fa) (hg : Gl X x := by rfl) (hn : x ≠ "__name__" := by decide) (hdb : (x == ("__debug__" : Str)) = false := by decide)
    (he : starEach (e :: es) X.env = (false, eval e X.env) :: starEach es X.env := by rfl) (hpl : (backTo pos (starEach es X.env)).any (·.1) = false := by rfl) : DE X W (.Call (.Name x p) (e :: es) [] pos) (fCall kk fa) := by
  obtain ⟨r, ho, hr⟩ := o.run
  obtain ⟨t, p, q⟩ := ha.run
  exact ⟨_, pe_callB ho hg hm hv p hn hdb he hpl, fun G B S σ H Q r po => q G B S σ H _ r (po.seq fun ds S1 vs B1 H1 e1 r1 x1 po1 => hr G B1 S1 σ H1 Q ds vs r1 x1 po1)⟩
theorem d_callTy {T : String} {x : Str} {p : Pos} {kk : List D → AS → Rs SV} (o : OpC X W (.type T) kk) (hm : X.mg x = none) (hv : bootBuiltins x = some (.type T)) (ha : DA X W (e :: es) fa) (hg : Gl X x := by rfl) (hn : x ≠ "__name__" := by decide) (hdb : (x == ("__debug__" : Str)) = false := by decide)
    (he : starEach (e :: es) X.env = (false, eval e X.env) :: starEach es X.env := by rfl) (hpl : (backTo pos (starEach es X.env)).any (·.1) = false := by rfl) : DE X W (.Call (.Name x p) (e :: es) [] pos) (fCall kk fa) := by
  obtain ⟨r, ho, hr⟩ := o.run
  obtain ⟨t, p, q⟩ := ha.run
  exact ⟨_, pe_callTy ho hg hm hv p hn hdb he hpl, fun G B S σ H Q r po => q G B S σ H _ r (po.seq fun ds S1 vs B1 H1 e1 r1 x1 po1 => hr G B1 S1 σ H1 Q ds vs r1 x1 po1)⟩
def kLen : List D → AS → Rs SV
  | [.str x], S => if small x.length = true then okD (.int x.length) S else .stuck
  | [.list ds], S => okD (.int ds.length) S
  | [.tuple ds], S => okD (.int ds.length) S
  | _, _ => .stuck
theorem len_ok {B H : Hp} {S : AS} {σ : L2.St} {Q : VK} {v : V} {x : D} (r : Rep X.K G B S σ H) (hx : Dq X.K H v x) (po : Post X.K X.mg G W B σ (RE X.K G σ) Q (kLen [x] S)) : ∃ x n, [v] = [x] ∧ LenV X.K x H n ∧ Q (.int n) H := by
  cases hx with
  | str z s1 =>
    simp only [kLen] at po
    split at po
    · rename_i hs
      exact ⟨_, _, rfl, ⟨small_line hs, rfl⟩, post_ok r (.int _) po⟩
    · exact po.elim
  | lst s al => exact ⟨_, _, rfl, .inl ⟨_, s, rfl⟩, by rw [al.length]; exact post_ok r (.int _) po⟩
  | tup s al => exact ⟨_, _, rfl, .inr ⟨_, s, rfl⟩, by rw [al.length]; exact post_ok r (.int _) po⟩
  | non => exact po.elim
  | bl _ => exact po.elim
  | int _ => exact po.elim
theorem c_len : OpC X W (.builtin "len") kLen := by
  refine ⟨_, call_len, fun G B S σ H Q ds vs r hx po => ?_⟩
  cases hx with
  | nil => exact po.elim
  | cons h t =>
    cases t with
    | nil => exact len_ok r (rep_bh r h) po
    | cons _ _ =>
      unfold kLen at po
      split at po <;> first | (rename_i e1; simp at e1; done) | exact po.elim
def fPeekLen (i : Nat) : AS → Rs SV := fun S => match peek i S with
  | some x => kLen [x] S
  | none => .stuck
theorem d_peekLen (i : Nat) {x : Str} {p p2 : Pos} (hm : X.mg "len" = none) (hg : Gl X "len" := by rfl) (hN : X.N[i]? = some x := by rfl) (hv : Vis X.env.scope x := by first | exact Or.inl rfl | exact Or.inr (Or.inl rfl) | exact Or.inr (Or.inr rfl)) (hd : (x == ("__debug__" : Str)) = false := by decide)
    (hcd : (x == ("__classdict__" : Str)) = false := by decide)
    (he : starEach [Expr.Name x p2] X.env = (false, eval (Expr.Name x p2) X.env) :: starEach [] X.env := by rfl) (hpl : (backTo pos (starEach [] X.env)).any (·.1) = false := by rfl) : DE X W (.Call (.Name "len" p) [.Name x p2] [] pos) (fPeekLen i) := by
  refine ⟨_, pe_callB call_len hg hm boot_len (pa_cons (pe_var hN hv hd hcd) pa_nil he) (by decide) (by decide) he hpl, fun G B S σ H Q r po => ?_⟩
  unfold fPeekLen at po
  cases hp : peek i S with
  | none => rw [hp] at po; exact po.elim
  | some x =>
    rw [hp] at po
    have : ∃ v, σ[i]? = some (some v) := by
      unfold peek at hp
      split at hp
      · rename_i e; obtain ⟨v, e1, _⟩ := r.sl _ _ e; exact ⟨v, e1⟩
      · rename_i e; obtain ⟨v, e1, _⟩ := r.sl _ _ e; exact ⟨v, e1⟩
      · rename_i e; obtain ⟨v, e1, _⟩ := r.sl _ _ e; exact ⟨v, e1⟩
      · cases hp
    obtain ⟨v, hv⟩ := this
    exact ⟨v, hv, len_ok r (dq_of_peek r (peek_slot r hp hv)) po⟩
end
/-! ### lists of one kind -/
def asInts : List D → Option (List Int)
  | [] => some []
  | .int i :: r => (asInts r).map (i :: ·)
  | _ => none
def asStrs : List D → Option (List Str)
  | [] => some []
  | .str i :: r => (asStrs r).map (i :: ·)
  | _ => none
def asBls : List D → Option (List Bool)
  | [] => some []
  | .bool i :: r => (asBls r).map (i :: ·)
  | _ => none
theorem asInts_eq : ∀ {ds : List D} {is : List Int}, asInts ds = some is → ds = is.map PyData.int
  | [], is, h => by simp [asInts] at h; subst h; rfl
  | .int i :: r, is, h => by
    cases h2 : asInts r with
    | none => simp [asInts, h2] at h
    | some js => simp [asInts, h2] at h; subst h; rw [asInts_eq h2]; rfl
  | .none :: _, _, h => by simp [asInts] at h
  | .bool _ :: _, _, h => by simp [asInts] at h
  | .str _ :: _, _, h => by simp [asInts] at h
  | .list _ :: _, _, h => by simp [asInts] at h
  | .tuple _ :: _, _, h => by simp [asInts] at h
  | .dict _ :: _, _, h => by simp [asInts] at h
theorem asStrs_eq : ∀ {ds : List D} {is : List Str}, asStrs ds = some is → ds = is.map PyData.str
  | [], is, h => by simp [asStrs] at h; subst h; rfl
  | .str i :: r, is, h => by
    cases h2 : asStrs r with
    | none => simp [asStrs, h2] at h
    | some js => simp [asStrs, h2] at h; subst h; rw [asStrs_eq h2]; rfl
  | .none :: _, _, h => by simp [asStrs] at h
  | .bool _ :: _, _, h => by simp [asStrs] at h
  | .int _ :: _, _, h => by simp [asStrs] at h
  | .list _ :: _, _, h => by simp [asStrs] at h
  | .tuple _ :: _, _, h => by simp [asStrs] at h
  | .dict _ :: _, _, h => by simp [asStrs] at h
theorem asBls_eq : ∀ {ds : List D} {is : List Bool}, asBls ds = some is → ds = is.map PyData.bool
  | [], is, h => by simp [asBls] at h; subst h; rfl
  | .bool i :: r, is, h => by
    cases h2 : asBls r with
    | none => simp [asBls, h2] at h
    | some js => simp [asBls, h2] at h; subst h; rw [asBls_eq h2]; rfl
  | .none :: _, _, h => by simp [asBls] at h
  | .str _ :: _, _, h => by simp [asBls] at h
  | .int _ :: _, _, h => by simp [asBls] at h
  | .list _ :: _, _, h => by simp [asBls] at h
  | .tuple _ :: _, _, h => by simp [asBls] at h
  | .dict _ :: _, _, h => by simp [asBls] at h
theorem asInts_map (is : List Int) : asInts (is.map PyData.int) = some is := by
  induction is with
  | nil => rfl
  | cons i r ih => simp [asInts, ih]
theorem asStrs_map (is : List Str) : asStrs (is.map PyData.str) = some is := by
  induction is with
  | nil => rfl
  | cons i r ih => simp [asStrs, ih]
theorem asBls_map (is : List Bool) : asBls (is.map PyData.bool) = some is := by
  induction is with
  | nil => rfl
  | cons i r ih => simp [asBls, ih]
theorem readsAll_ints {h : Heap} : ∀ {ns : List Int} {us : List Value}, Vals (ns.map V.int) us → ∃ as, ReadsAll h us (ns.map PyData.int) as
  | [], _, .nil => ⟨_, .nil⟩
  | n :: r, _, .cons e t => by
    obtain ⟨as, q⟩ := readsAll_ints (h := h) t
    obtain ⟨tk, rfl⟩ := e
    exact ⟨_, .cons (.int n tk) q⟩
theorem alike_ints (ns : List Int) : PySem.W.AlikeAll (ns.map PyData.int) := by
  refine ⟨fun x hx y hy => ?_, fun x hx => ?_⟩
  · obtain ⟨i, _, rfl⟩ := List.mem_map.mp hx
    obtain ⟨j, _, rfl⟩ := List.mem_map.mp hy
    simp [PySem.W.alike]
  · obtain ⟨i, _, rfl⟩ := List.mem_map.mp hx
    simp
section
variable {X : Cx} {G : Gd} {W : XK} {k : Nat} {e a b c : Expr} {rest es : List Expr} {pos : Pos} {fd gd hd : AS → Rs D} {fa ga : AS → Rs (List D)} {ft gt : AS → Rs Bool} {fe ge : AS → Rs SV}
def rMaxI (K : PySem.W.Frag) (f : Int → Int → Int) : List V → Hp → VK → Prop := fun xs H Q => ∃ p n ns, xs = [.ref p] ∧ (SqL K H p ((n :: ns).map V.int) ∨ SqT K H p ((n :: ns).map V.int)) ∧ Q (.int (ns.foldl f n)) H
theorem call_maxI (hc : X.calm = true) (hu : X.A.units + 64 < cLine) : CallR X (.builtin "max") (rMaxI X.K max) := by
  intro pins s σ H xs us Q I r h
  obtain ⟨p, n, ns, rfl, hS, q⟩ := h
  have e := Vals.ref1 r
  subst e
  have hd : PyData.depthAll ((n :: ns).map PyData.int) = 0 := PySem.W.ke_depthAll _
  have fin : ∀ (v : Value) (h' : Heap) (tk : Nat) (bs : List Addr), Reads h' v (PySem.W.maxD (.int n) (ns.map PyData.int)) bs → (∀ b o, s.heap.get? b = some o → h'.get? b = some o) → EP X pins σ Q v { s with heap := h', toks := tk } := by
    intro v h' tk bs hr hk
    rw [PySem.W.maxD_ints] at hr
    cases hr
    exact ⟨.int _, H, I.kept (t' := tk) hk, ⟨_, rfl⟩, q⟩
  rcases hS with hS | hS
  · obtain ⟨its, rv, pl, hz⟩ := I.list hS
    obtain ⟨as, ra⟩ := readsAll_ints (h := s.heap) rv
    exact PySem.W.max_list_data (I.ok.hd hc) pl.isList (by simpa using ra) (alike_ints (n :: ns)) (by rw [show PyData.depthAll (PyData.int n :: ns.map PyData.int) = 0 from hd]; omega) fun i v h' tk bs _ hr hk => fin v h' tk bs hr hk
  · obtain ⟨its, rv, pl, hz⟩ := I.tuple hS
    obtain ⟨as, ra⟩ := readsAll_ints (h := s.heap) rv
    exact PySem.W.max_tuple_data (I.ok.hd hc) pl (by simpa using ra) (alike_ints (n :: ns)) (by rw [show PyData.depthAll (PyData.int n :: ns.map PyData.int) = 0 from hd]; omega) fun i v h' tk bs _ hr hk => fin v h' tk bs hr hk
theorem call_minI (hc : X.calm = true) (hu : X.A.units + 64 < cLine) : CallR X (.builtin "min") (rMaxI X.K min) := by
  intro pins s σ H xs us Q I r h
  obtain ⟨p, n, ns, rfl, hS, q⟩ := h
  have e := Vals.ref1 r
  subst e
  have hd : PyData.depthAll ((n :: ns).map PyData.int) = 0 := PySem.W.ke_depthAll _
  have fin : ∀ (v : Value) (h' : Heap) (tk : Nat) (bs : List Addr), Reads h' v (PySem.W.minD (.int n) (ns.map PyData.int)) bs → (∀ b o, s.heap.get? b = some o → h'.get? b = some o) → EP X pins σ Q v { s with heap := h', toks := tk } := by
    intro v h' tk bs hr hk
    rw [PySem.W.minD_ints] at hr
    cases hr
    exact ⟨.int _, H, I.kept (t' := tk) hk, ⟨_, rfl⟩, q⟩
  rcases hS with hS | hS
  · obtain ⟨its, rv, pl, hz⟩ := I.list hS
    obtain ⟨as, ra⟩ := readsAll_ints (h := s.heap) rv
    exact PySem.W.min_list_data (I.ok.hd hc) pl.isList (by simpa using ra) (alike_ints (n :: ns)) (by rw [show PyData.depthAll (PyData.int n :: ns.map PyData.int) = 0 from hd]; omega) fun i v h' tk bs _ hr hk => fin v h' tk bs hr hk
  · obtain ⟨its, rv, pl, hz⟩ := I.tuple hS
    obtain ⟨as, ra⟩ := readsAll_ints (h := s.heap) rv
    exact PySem.W.min_tuple_data (I.ok.hd hc) pl (by simpa using ra) (alike_ints (n :: ns)) (by rw [show PyData.depthAll (PyData.int n :: ns.map PyData.int) = 0 from hd]; omega) fun i v h' tk bs _ hr hk => fin v h' tk bs hr hk
def kMm (f : Int → Int → Int) (g : Int → Int → Int) : List D → AS → Rs SV
  | [.int i, .int j], S => okD (.int (g i j)) S
  | [.list ds], S => match asInts ds with
    | some (n :: ns) => okD (.int (ns.foldl f n)) S
    | _ => .stuck
  | [.tuple ds], S => match asInts ds with
    | some (n :: ns) => okD (.int (ns.foldl f n)) S
    | _ => .stuck
  | _, _ => .stuck
abbrev kMax := kMm max fun i j => if j > i then j else i
abbrev kMin := kMm min fun i j => if j < i then j else i
theorem mm_ok {f g : Int → Int → Int} {id : String} (h2 : CallR X (.builtin id) (fun xs H Q => ∃ i j, xs = [.int i, .int j] ∧ Q (.int (g i j)) H)) (h1 : CallR X (.builtin id) (rMaxI X.K f)) : OpC X W (.builtin id) (kMm f g) := by
  refine ⟨_, CallR.or h2 h1, fun G B S σ H Q ds vs r hx po => ?_⟩
  unfold kMm at po
  split at po
  · cases hx with | cons h t => cases t with | cons h' t => cases t; cases h; cases h'; exact .inl ⟨_, _, rfl, post_ok r (.int _) po⟩
  · split at po
    · rename_i n ns hn
      have e := asInts_eq hn
      subst e
      cases hx with | cons h t => cases t; cases h with | lst s al =>
      have e := dqAll_ints_eq _ al
      subst e
      exact .inr ⟨_, n, ns, rfl, .inl ((rd_H r s)), post_ok r (.int _) po⟩
    · exact po.elim
  · split at po
    · rename_i n ns hn
      have e := asInts_eq hn
      subst e
      cases hx with | cons h t => cases t; cases h with | tup s al =>
      have e := dqAll_ints_eq _ al
      subst e
      exact .inr ⟨_, n, ns, rfl, .inr (sqT_H r s), post_ok r (.int _) po⟩
    · exact po.elim
  · exact po.elim
theorem c_max (C : Ctx X W k) : OpC X W (.builtin "max") kMax := mm_ok (call_max2 C.calm) (call_maxI C.calm C.hu)
theorem c_min (C : Ctx X W k) : OpC X W (.builtin "min") kMin := mm_ok (call_min2 C.calm) (call_minI C.calm C.hu)
def kSum : List D → AS → Rs SV
  | [.list ds], S => match asInts ds with
    | some ns => okD (.int ns.sum) S
    | _ => .stuck
  | _, _ => .stuck
theorem c_sum (C : Ctx X W k) : OpC X W (.builtin "sum") kSum := by
  refine ⟨_, cr_sum C.calm, fun G B S σ H Q ds vs r hx po => ?_⟩
  unfold kSum at po
  split at po
  · split at po
    · rename_i ns hn
      have e := asInts_eq hn
      subst e
      cases hx with | cons h t => cases t; cases h with | lst s al =>
      have e := dqAll_ints_eq _ al
      subst e
      exact ⟨_, ns, rfl, (rd_H r s), post_ok r (.int _) po⟩
    · exact po.elim
  · exact po.elim
def kAll : List D → AS → Rs SV
  | [.list ds], S => match asBls ds with
    | some ns => okB (ns.all id) S
    | _ => .stuck
  | _, _ => .stuck
theorem c_all (C : Ctx X W k) : OpC X W (.builtin "all") kAll := by
  refine ⟨_, cr_all C.calm, fun G B S σ H Q ds vs r hx po => ?_⟩
  unfold kAll at po
  split at po
  · split at po
    · rename_i ns hn
      have e := asBls_eq hn
      subst e
      cases hx with | cons h t => cases t; cases h with | lst s al =>
      have e := dqAll_bls_eq _ al
      subst e
      exact ⟨_, ns, rfl, (rd_H r s), post_okB r po⟩
    · exact po.elim
  · exact po.elim
def kAny : List D → AS → Rs SV
  | [.list ds], S => match asBls ds with
    | some ns => okB (ns.any id) S
    | _ => .stuck
  | _, _ => .stuck
theorem c_any (C : Ctx X W k) : OpC X W (.builtin "any") kAny := by
  refine ⟨_, cr_any C.calm, fun G B S σ H Q ds vs r hx po => ?_⟩
  unfold kAny at po
  split at po
  · split at po
    · rename_i ns hn
      have e := asBls_eq hn
      subst e
      cases hx with | cons h t => cases t; cases h with | lst s al =>
      have e := dqAll_bls_eq _ al
      subst e
      exact ⟨_, ns, rfl, (rd_H r s), post_okB r po⟩
    · exact po.elim
  · exact po.elim
def kInt : List D → AS → Rs SV
  | [.int i], S => okD (.int i) S
  | [.bool b], S => okD (.int (if b then 1 else 0)) S
  | [.str x], S => match PySem.intText? x with
    | some n => if decide (x.length ≤ 640) = true then okD (.int n) S else .stuck
    | none => .stuck
  | _, _ => .stuck
theorem c_int : OpC X W (.type "int") kInt := by
  refine ⟨_, CallR.or call_int1 call_int_str, fun G B S σ H Q ds vs r hx po => ?_⟩
  unfold kInt at po
  split at po
  · cases hx with | cons h t => cases t; cases h; exact .inl (.inl ⟨_, rfl, post_ok r (.int _) po⟩)
  · cases hx with | cons h t => cases t; cases h; exact .inl (.inr ⟨_, rfl, post_ok r (.int _) po⟩)
  · split at po
    · split at po
      · rename_i hn hl
        cases hx with | cons h t => cases t; cases h; exact .inr ⟨_, _, rfl, hn, of_decide_eq_true hl, post_ok r (.int _) po⟩
      · exact po.elim
    · exact po.elim
  · exact po.elim
def numS (n : Int) : Str := Str.ofString (toString n)
def kStr : List D → AS → Rs SV
  | [.int i], S => if (decide (0 ≤ i) && decide (i.natAbs.log2 < 1920)) = true then okD (.str (numS i)) S else .stuck
  | [.str x], S => okD (.str x) S
  | _, _ => .stuck
theorem c_str : OpC X W (.type "str") kStr := by
  refine ⟨_, CallR.or call_str_int SkE.call_str_str, fun G B S σ H Q ds vs r hx po => ?_⟩
  unfold kStr at po
  split at po
  · split at po
    · rename_i hs
      rw [Bool.and_eq_true] at hs
      have h0 := of_decide_eq_true hs.1
      cases hx with | cons h t => cases t; cases h; exact .inl ⟨_, rfl, of_decide_eq_true hs.2, post_ok r (.str _ (by
        obtain ⟨n, rfl⟩ := Int.eq_ofNat_of_zero_le h0
        exact strOk_num n)) po⟩
    · exact po.elim
  · cases hx with | cons h t => cases t; cases h; exact .inr ⟨_, rfl, post_ok r (.str _ (by assumption)) po⟩
  · exact po.elim
def kTuple : List D → AS → Rs SV
  | [.list ds], S => okD (.tuple ds) S
  | [.tuple ds], S => okD (.tuple ds) S
  | _, _ => .stuck
theorem c_tuple : OpC X W (.type "tuple") kTuple := by
  refine ⟨_, call_tuple_of, fun G B S σ H Q ds vs r hx po => ?_⟩
  unfold kTuple at po
  split at po
  · cases hx with | cons h t => cases t; cases h with | lst s al => exact ⟨_, _, rfl, .inl ⟨(rd_H r s), fun l hl => new_dat r al po hl⟩⟩
  · cases hx with | cons h t => cases t; cases h with | tup s al => exact ⟨_, _, rfl, .inr ⟨sqT_H r s, post_ok r (.tup s al) po⟩⟩
  · exact po.elim
def kList : List D → AS → Rs SV
  | [.list ds], S => .ok (.own ds) S
  | [.tuple ds], S => .ok (.own ds) S
  | _, _ => .stuck
theorem c_list : OpC X W (.type "list") kList := by
  refine ⟨_, call_list_of, fun G B S σ H Q ds vs r hx po => ?_⟩
  unfold kList at po
  split at po
  · cases hx with | cons h t => cases t; cases h with | lst s al => exact ⟨_, _, rfl, .inl ((rd_H r s)), fun l hl => new_own r al po hl⟩
  · cases hx with | cons h t => cases t; cases h with | tup s al => exact ⟨_, _, rfl, .inr (sqT_H r s), fun l hl => new_own r al po hl⟩
  · exact po.elim

/-! ### isinstance -/
def isT (T : String) : D → Bool
  | .none => false
  | .bool _ => T == "bool" || T == "int"
  | .int _ => T == "int"
  | .str _ => T == "str"
  | .list _ => T == "list"
  | .tuple _ => T == "tuple"
  | .dict _ => false
/-- the classes that are asked -/
def isC (T : String) : Bool := T == "int" || T == "bool" || T == "str" || T == "list" || T == "tuple"
def tyN : D → String
  | .none => "NoneType"
  | .bool _ => "bool"
  | .int _ => "int"
  | .str _ => "str"
  | .list _ => "list"
  | .tuple _ => "tuple"
  | .dict _ => "dict"
theorem isT_kit (T : String) (hT : isC T = true) (d : D) (hd : ∀ l, d ≠ .dict l) : kitB (tyN d) T = some (isT T d) := by
  have : T = "int" ∨ T = "bool" ∨ T = "str" ∨ T = "list" ∨ T = "tuple" := by simpa [isC, or_assoc] using hT
  rcases this with rfl | rfl | rfl | rfl | rfl <;> cases d <;> first | exact absurd rfl (hd _) | (simp only [tyN, isT]; decide +kernel)
theorem tyX_of {B H : Hp} {S : AS} {σ : L2.St} {K : PySem.W.Frag} (r : Rep K G B S σ H) {v : V} {d : D} (h : Dq K B v d) : TyX K H v (.type (tyN d)) := by
  cases h with
  | non => exact .base .non
  | bl b => exact .base (.bl b)
  | int i => exact .base (.int i)
  | str x _ => exact .base (.str x)
  | lst s a =>
    rcases rd_H r s with (s | ⟨o, s⟩) | ⟨o, its, n, h1, h2, _⟩
    · exact .base (.lst s)
    · exact .base (.frz s)
    · exact .kList h1 h2
  | tup s a =>
    rcases sqT_H r s with (s | ⟨o, s⟩) | ⟨o, its, n, h1, h2, _⟩
    · exact .base (.tup s)
    · exact .fTuple s
    · exact .kTuple h1 h2
def fIsi (T : String) (f : AS → Rs D) : AS → Rs D := fun S => (f S).bind fun d S1 => .ok (.bool (isT T d)) S1
theorem d_isi {T : String} {x : Str} {p p2 : Pos} (hT : isC T = true) (h : DD X W a fd) (hm : X.mg "isinstance" = none) (hmT : X.mg x = none) (hv : bootBuiltins x = some (.type T)) (hg : Gl X "isinstance" := by rfl) (hg2 : Gl X x := by rfl) (hn : x ≠ "__name__" := by decide) (hdb : (x == ("__debug__" : Str)) = false := by decide)
    (h1 : starEach [a, Expr.Name x p2] X.env = (false, eval a X.env) :: starEach [Expr.Name x p2] X.env := by rfl) (h2 : starEach [Expr.Name x p2] X.env = (false, eval (Expr.Name x p2) X.env) :: starEach [] X.env := by rfl) (hpl : (backTo pos (starEach [Expr.Name x p2] X.env)).any (·.1) = false := by rfl) :
    DD X W (.Call (.Name "isinstance" p) [a, .Name x p2] [] pos) (fIsi T fd) := by
  obtain ⟨t, pp, q⟩ := h.run
  refine ⟨_, pe_callB call_isi hg hm (by decide +kernel) (pa_cons pp (pa_cons (pe_bltn (v := .ty T) hg2 hmT hv rfl hn hdb) pa_nil h2) h1) (by decide) (by decide) h1 hpl, fun G B S σ H Q r po => q G B S σ H _ r (po.seq fun d S1 v B1 H1 e1 r1 x1 po1 => ?_)⟩
  refine ⟨v, .ty T, .type (tyN d), .type T, isT T d, rfl, .ty T, tyX_of r1 x1, kit_ty (isT_kit T hT d fun l e => by subst e; cases x1), po1 _ B1 H1 (Ex.refl _) r1 (.bl _)⟩

/-! ### split, join -/
def splitB (b : Str) : Bool := !(b.length == 0) && b.cps.all (· < 256)
def kSplit : D → D → AS → Rs SV
  | .str a, .str b, S => if (splitB b && small (a.length + 2)) = true then .ok (.own ((Txt.split a b).map PyData.str)) S else .stuck
  | _, _, _ => .stuck
theorem spl_mem {Sp : List Nat} {c : Nat} : ∀ (l : List Nat) (k : Nat) (acc p : List Nat), p ∈ TL.spl Sp k acc l → c ∈ p → c ∈ acc ∨ c ∈ l
  | [], k, acc, p, hp, hc => by
    rw [TL.spl_nil] at hp
    rw [List.mem_singleton.mp hp] at hc
    exact .inl hc
  | d :: r, 0, acc, p, hp, hc => by
    by_cases h : TL.pre Sp (d :: r) = true
    · rw [TL.spl_hit h] at hp
      rcases List.mem_cons.mp hp with rfl | hp
      · exact .inl hc
      · rcases spl_mem r _ _ p hp hc with z | z
        · cases z
        · exact .inr (List.mem_cons_of_mem _ z)
    · rw [TL.spl_miss (by simpa using h)] at hp
      rcases spl_mem r _ _ p hp hc with z | z
      · rcases List.mem_append.mp z with z | z
        · exact .inl z
        · rw [List.mem_singleton.mp z]
          exact .inr List.mem_cons_self
      · exact .inr (List.mem_cons_of_mem _ z)
  | d :: r, k + 1, acc, p, hp, hc => by
    have : TL.spl Sp (k + 1) acc (d :: r) = TL.spl Sp k acc r := rfl
    rw [this] at hp
    rcases spl_mem r _ _ p hp hc with z | z
    · exact .inl z
    · exact .inr (List.mem_cons_of_mem _ z)
theorem split_tl {a b : Str} (hb : splitB b = true) : (Txt.split a b).map TL.tl = TL.spl (TL.tl b) 0 [] (TL.tl a) := by
  unfold splitB at hb
  rw [Bool.and_eq_true] at hb
  refine TL.split_spl a b (fun e => ?_) (TL.kind_ok hb.2)
  have : b.length = 0 := by rw [TL.len_tl, e]; rfl
  rw [this] at hb
  simp at hb
theorem split_ok {a b : Str} (ha : PyData.strOk a = true) (hb : splitB b = true) : ∀ x ∈ Txt.split a b, PyData.strOk x = true := fun x hx => by
  refine strOk_sub ha fun c hc => ?_
  have h1 : TL.tl x ∈ (Txt.split a b).map TL.tl := List.mem_map.mpr ⟨x, hx, rfl⟩
  rw [split_tl hb] at h1
  rcases spl_mem _ _ _ _ h1 hc with z | z
  · cases z
  · exact z
def fSplit (f g : AS → Rs D) : AS → Rs SV := fun S => (f S).bind fun x S1 => match x with
  | .str a => (g S1).bind fun y S2 => kSplit (.str a) y S2
  | _ => .stuck
theorem d_split {apos : Pos} (h : DD X W a fd) (h2 : DD X W b gd) (hs : starEach [b] X.env = [(false, eval b X.env)] := by rfl) (hbase : attributeBase a "split" X.env (eval a X.env) = eval a X.env := by rfl) (hline : (apos.endLine == pos.line) = true := by rfl) :
    DE X W (.Call (.Attribute a "split" apos) [b] [] pos) (fSplit fd gd) := by
  obtain ⟨t, p, q⟩ := h.run
  obtain ⟨t2, p2, q2⟩ := h2.run
  refine ⟨_, pe_split p p2 hs hbase hline, fun G B S σ H Q r po => q G B S σ H _ r (po.seq fun x S1 v B1 H1 e1 r1 x1 po1 => ?_)⟩
  split at po1
  · rename_i z
    cases x1 with | str _ s1 =>
    refine ⟨⟨_, rfl⟩, ?_⟩
    refine q2 G B1 S1 σ H1 _ r1 (po1.seq fun y S2 w B2 H2 e2 r2 x2 po2 => ?_)
    cases x2 with
    | str y hy =>
      simp only [kSplit] at po2
      split at po2
      · rename_i hs
        rw [Bool.and_eq_true] at hs
        refine ⟨z, y, rfl, rfl, ?_, small_line hs.2, fun p hp => new_own r2 (dqAll_strs _ (split_ok s1 hs.1)) po2 hp⟩
        have := hs.1
        unfold splitB at this
        rw [Bool.and_eq_true] at this
        simpa using this.1
      · exact po2.elim
    | _ => exact po2.elim
  · exact po1.elim
def joinB (a : Str) (ys : List Str) : Bool := decide ((ys.map (·.length)).sum + ys.length * a.length ≤ 16777216)
def kJoin : D → D → AS → Rs SV
  | .str a, .list ds, S => match asStrs ds with
    | some ys => if joinB a ys = true then okD (.str (Txt.join a ys)) S else .stuck
    | none => .stuck
  | .str a, .tuple ds, S => match asStrs ds with
    | some ys => if joinB a ys = true then okD (.str (Txt.join a ys)) S else .stuck
    | none => .stuck
  | _, _, _ => .stuck
theorem joinL_mem {Sp : List Nat} {c : Nat} : ∀ (ps : List (List Nat)), c ∈ TL.joinL Sp ps → c ∈ Sp ∨ ∃ p ∈ ps, c ∈ p
  | [], h => by cases h
  | [p], h => .inr ⟨p, by simp, h⟩
  | p :: q :: r, h => by
    have h : c ∈ p ++ (Sp ++ TL.joinL Sp (q :: r)) := h
    rcases List.mem_append.mp h with z | z
    · exact .inr ⟨p, by simp, z⟩
    · rcases List.mem_append.mp z with z | z
      · exact .inl z
      · rcases joinL_mem (q :: r) z with z | ⟨p', h1, h2⟩
        · exact .inl z
        · exact .inr ⟨p', List.mem_cons_of_mem _ h1, h2⟩
theorem join_ok {a : Str} {ys : List Str} (ha : PyData.strOk a = true) (hy : ∀ y ∈ ys, PyData.strOk y = true) : PyData.strOk (Txt.join a ys) = true := strOk_of fun c hc => by
  have h : c ∈ TL.tl (Str.join a ys) := by rw [← TL.join_eq]; exact hc
  rw [TL.tl_join] at h
  rcases joinL_mem _ h with z | ⟨p, h1, h2⟩
  · exact strOk_iff.mp ha c z
  · obtain ⟨y, h3, rfl⟩ := List.mem_map.mp h1
    exact strOk_iff.mp (hy y h3) c h2
def fJoin (f g : AS → Rs D) : AS → Rs SV := fun S => (f S).bind fun x S1 => match x with
  | .str a => (g S1).bind fun y S2 => kJoin (.str a) y S2
  | _ => .stuck
theorem d_join {apos : Pos} (h : DD X W a fd) (h2 : DD X W b gd) (hs : starEach [b] X.env = [(false, eval b X.env)] := by rfl) (hbase : attributeBase a "join" X.env (eval a X.env) = eval a X.env := by rfl) (hline : (apos.endLine == pos.line) = true := by rfl) :
    DE X W (.Call (.Attribute a "join" apos) [b] [] pos) (fJoin fd gd) := by
  obtain ⟨t, p, q⟩ := h.run
  obtain ⟨t2, p2, q2⟩ := h2.run
  refine ⟨_, pe_join p p2 hs hbase hline, fun G B S σ H Q r po => q G B S σ H _ r (po.seq fun x S1 v B1 H1 e1 r1 x1 po1 => ?_)⟩
  split at po1
  · rename_i z
    cases x1 with | str _ s1 =>
    refine ⟨⟨_, rfl⟩, ?_⟩
    refine q2 G B1 S1 σ H1 _ r1 (po1.seq fun y S2 w B2 H2 e2 r2 x2 po2 => ?_)
    cases x2 with
    | lst s al =>
      simp only [kJoin] at po2
      split at po2
      · rename_i ys hy
        have e := asStrs_eq hy
        subst e
        split at po2
        · rename_i hj
          have ev := dqAll_strs_eq _ al
          subst ev
          exact ⟨z, _, ys, rfl, rfl, .inl ((rd_H r2 s)), of_decide_eq_true hj, post_ok r2 (.str _ (join_ok s1 (dqAll_strs_ok _ al))) po2⟩
        · exact po2.elim
      · exact po2.elim
    | tup s al =>
      simp only [kJoin] at po2
      split at po2
      · rename_i ys hy
        have e := asStrs_eq hy
        subst e
        split at po2
        · rename_i hj
          have ev := dqAll_strs_eq _ al
          subst ev
          exact ⟨z, _, ys, rfl, rfl, .inr (sqT_H r2 s), of_decide_eq_true hj, post_ok r2 (.str _ (join_ok s1 (dqAll_strs_ok _ al))) po2⟩
        · exact po2.elim
      · exact po2.elim
    | _ => exact po2.elim
  · exact po1.elim
end
end DL

set_option maxRecDepth 100000
set_option maxHeartbeats 1000000
/-! DL6: lists of one's own changed; statements -/
namespace DL
open PySem PySem.Spec PyProof.Rows L2
variable [Tbl]

section
variable {K : PySem.W.Frag} {G : Gd} {B B' H H' : Hp} {S S' : AS} {σ σ' : L2.St} {v w : V} {a : Addr}
theorem tabs_upd {T : List (Addr × Str)} {vs ws : List V} (t : LamX.Tabs T H) (h : H a = some (.lst vs)) : LamX.Tabs T (upd H a (.lst ws)) := fun p hp => by
  obtain ⟨ps, e, ok, f⟩ := t p hp
  refine ⟨ps, by rw [upd_ne (ne_of e h (by intro z; cases z))]; exact e, ok, fun pos cv hc => ?_⟩
  obtain ⟨c, e1, e2⟩ := f pos cv hc
  refine ⟨c, e1, ?_⟩
  rw [upd_ne (ne_of e2 h (by unfold LamX.CodeO; intro z; cases z))]
  exact e2
/-- the list that slot i holds is written -/
theorem Rep.write {i : Nat} {ds ds' : List D} {vs vs' : List V} (r : Rep K G B S σ H) (hi : S[i]? = some (some (.own ds))) (hv : σ[i]? = some (some (.ref a))) (ha : H a = some (.lst vs)) (al : DqAll K B vs' ds') :
    Rep K G B (S.set i (some (.own ds'))) σ (upd H a (.lst vs')) := by
  obtain ⟨v0, h0, a0, vs0, e0, h1, h2, h3, h4⟩ := r.sl i _ hi
  rw [hv] at h0
  cases h0
  cases e0
  refine ⟨⟨r.g.b0, r.g.bn, fun b o q => ?_, r.g.nt, fun b o q hp hu => ?_, fun b q => ?_, tabs_upd r.g.tb ha, r.g.pa, r.g.ht, pl_upd r.g.pl⟩, by rw [List.length_set]; exact r.len, fun j sv e => ?_, fun j l b x y e1 e2 e3 e4 => ?_, fun j l k x y e1 e2 => ?_, r.pn⟩
  · have : b ≠ a := fun z => by subst z; rw [h2] at q; cases q
    rw [upd_ne this]
    exact r.g.bh b o q
  · have : b ≠ a := fun z => by subst z; rw [h3] at q; cases q
    rw [upd_ne this]
    exact r.g.fr b o q hp hu
  · by_cases hb : b = a
    · subst hb; exact h3
    · rw [upd_ne hb] at q; exact r.g.dm b q
  · rcases get_set_eq e with ⟨rfl, rfl⟩ | ⟨hj, e⟩
    · exact ⟨_, hv, a, vs', rfl, upd_same, h2, h3, al⟩
    · obtain ⟨v, e1, e2⟩ := r.sl j sv e
      refine ⟨v, e1, ?_⟩
      cases sv with
      | exn _ _ _ => exact ExnR.upd e2 ha
      | dat d => exact e2
      | own es =>
        obtain ⟨b, ws, rfl, g1, g2, g3, g4⟩ := e2
        have : b ≠ a := fun z => by subst z; exact hj (r.ds i j b ds es hi e hv e1)
        exact ⟨b, ws, rfl, by rw [upd_ne this]; exact g1, g2, g3, g4⟩
      | par k es =>
        obtain ⟨b, ws, rfl, g1, g2, g3⟩ := e2
        have : b ≠ a := fun z => by subst z; exact (r.g.pa b (List.mem_of_getElem? g1)).2 h3
        exact ⟨b, ws, rfl, g1, by rw [upd_ne this]; exact g2, g3⟩
  · have f : ∀ (m : Nat) (z : List D), (S.set i (some (SV.own ds')))[m]? = some (some (.own z)) → ∃ z', S[m]? = some (some (.own z')) := fun m z e => by
      rcases get_set_eq e with ⟨rfl, _⟩ | ⟨_, e⟩
      · exact ⟨_, hi⟩
      · exact ⟨_, e⟩
    obtain ⟨x', e1⟩ := f _ _ e1
    obtain ⟨y', e2⟩ := f _ _ e2
    exact r.ds j l b x' y' e1 e2 e3 e4
  · rcases get_set_eq e1 with ⟨_, z⟩ | ⟨_, e1⟩
    · cases z
    · rcases get_set_eq e2 with ⟨_, z⟩ | ⟨_, e2⟩
      · cases z
      · exact r.pj j l k x y e1 e2
theorem Rep.writeP {i k : Nat} {ds ds' : List D} {vs vs' : List V} (r : Rep K G B S σ H) (hi : S[i]? = some (some (.par k ds))) (hv : σ[i]? = some (some (.ref a))) (ha : H a = some (.lst vs)) (al : DqAll K B vs' ds') :
    Rep K G B (S.set i (some (.par k ds'))) σ (upd H a (.lst vs')) := by
  obtain ⟨v0, h0, a0, vs0, e0, h1, h2, h3⟩ := r.sl i _ hi
  rw [hv] at h0
  cases h0
  cases e0
  have hm : a ∈ G.PA := List.mem_of_getElem? h1
  refine ⟨⟨r.g.b0, r.g.bn, fun b o q => ?_, r.g.nt, fun b o q hp hu => ?_, fun b q => ?_, tabs_upd r.g.tb ha, r.g.pa, r.g.ht, pl_upd r.g.pl⟩, by rw [List.length_set]; exact r.len, fun j sv e => ?_, fun j l b x y e1 e2 e3 e4 => ?_, fun j l k x y e1 e2 => ?_, r.pn⟩
  · have : b ≠ a := fun z => by subst z; rw [(r.g.pa _ hm).1] at q; cases q
    rw [upd_ne this]
    exact r.g.bh b o q
  · have : b ≠ a := fun z => by subst z; exact hp hm
    rw [upd_ne this]
    exact r.g.fr b o q hp hu
  · by_cases hb : b = a
    · subst hb; rw [upd_same] at q; cases q
    · rw [upd_ne hb] at q; exact r.g.dm b q
  · rcases get_set_eq e with ⟨rfl, rfl⟩ | ⟨hj, e⟩
    · exact ⟨_, hv, a, vs', rfl, h1, upd_same, al⟩
    · obtain ⟨v, e1, e2⟩ := r.sl j sv e
      refine ⟨v, e1, ?_⟩
      cases sv with
      | exn _ _ _ => exact ExnR.upd e2 ha
      | dat d => exact e2
      | own es =>
        obtain ⟨b, ws, rfl, g1, g2, g3, g4⟩ := e2
        have : b ≠ a := fun z => by subst z; exact (r.g.pa b hm).2 g3
        exact ⟨b, ws, rfl, by rw [upd_ne this]; exact g1, g2, g3, g4⟩
      | par k' es =>
        obtain ⟨b, ws, rfl, g1, g2, g3⟩ := e2
        have : b ≠ a := fun z => by
          subst z
          have hk : k = k' := by
            obtain ⟨l1, q1⟩ := List.getElem?_eq_some_iff.mp h1
            obtain ⟨l2, q2⟩ := List.getElem?_eq_some_iff.mp g1
            exact (List.getElem_inj r.pn).mp (q1.trans q2.symm)
          subst hk
          exact hj (r.pj i j k ds es hi e)
        exact ⟨b, ws, rfl, g1, by rw [upd_ne this]; exact g2, g3⟩
  · rcases get_set_eq e1 with ⟨_, z⟩ | ⟨_, e1⟩
    · cases z
    · rcases get_set_eq e2 with ⟨_, z⟩ | ⟨_, e2⟩
      · cases z
      · exact r.ds j l b x y e1 e2 e3 e4
  · rcases get_set_eq e1 with ⟨rfl, z⟩ | ⟨h1', e1⟩
    · cases z
      rcases get_set_eq e2 with ⟨rfl, z⟩ | ⟨h2', e2⟩
      · rfl
      · exact r.pj _ _ _ _ _ hi e2
    · rcases get_set_eq e2 with ⟨rfl, z⟩ | ⟨h2', e2⟩
      · cases z
        exact r.pj _ _ _ _ _ e1 hi
      · exact r.pj _ _ _ _ _ e1 e2

/-! ### a list that no name holds as yet stays while others are made -/
def Gd.guard (G : Gd) (a : Addr) (o : HO) : Gd := { G with H0 := upd G.H0 a o }
def ownV : SV → Bool
  | .own _ => true
  | _ => false
theorem guardR {r : SV} (r0 : Rep K G B S σ H) (q : ResR K G B S σ H v r) : ∃ G' : Gd, Rep K G' B S σ H ∧ ∀ B' S' σ' H', Ex B B' → Rep K G' B' S' σ' H' → Rep K G B' S' σ' H' ∧ ResR K G B' S' σ' H' v r ∧
    ∀ v2 r2, ResR K G' B' S' σ' H' v2 r2 → ResR K G B' S' σ' H' v2 r2 ∧ (ownV r = true → ownV r2 = true → v ≠ v2) := by
  cases r with
  | exn _ _ _ => exact q.elim
  | par _ _ => exact q.elim
  | dat d =>
    refine ⟨G, r0, fun B' S' σ' H' e r' => ⟨r', dq_mono e _ _ q, fun v2 r2 q2 => ⟨q2, fun z => by cases z⟩⟩⟩
  | own ds =>
    obtain ⟨a, vs, rfl, h1, h2, h3, h4, h5⟩ := q
    have hB0 : G.B0 a = none := r0.g.b0.fresh h2
    refine ⟨G.guard a (.lst vs), ⟨⟨r0.g.b0, fun b o e => ?_, r0.g.bh, r0.g.nt, fun b o e hp hu => ?_, fun b e => ?_, r0.g.tb, fun b hb => ?_, fun b ps => ?_, r0.g.pl⟩, r0.len, fun j sv e => ?_, r0.ds, r0.pj, r0.pn⟩, fun B' S' σ' H' e r' => ?_⟩
    · rcases r0.g.bn b o e with z | z
      · exact .inl z
      · have : b ≠ a := fun y => by subst y; rw [h2] at e; cases e
        exact .inr (by show upd G.H0 a _ b = none; rw [upd_ne this]; exact z)
    · by_cases hb : b = a
      · subst hb
        have e : upd G.H0 b (.lst vs) b = some o := e
        rw [upd_same] at e
        cases e
        exact h1
      · have e : upd G.H0 a (.lst vs) b = some o := e
        rw [upd_ne hb] at e
        exact r0.g.fr b o e hp hu
    · have : b ≠ a := fun y => by subst y; rw [h1] at e; cases e
      show upd G.H0 a _ b = none
      rw [upd_ne this]
      exact r0.g.dm b e
    · have : b ≠ a := fun y => by subst y; exact (r0.g.pa _ hb).2 h3
      refine ⟨(r0.g.pa b hb).1, ?_⟩
      show upd G.H0 a _ b ≠ none
      rw [upd_ne this]
      exact (r0.g.pa b hb).2
    · show upd G.H0 a _ b ≠ some (.tbl ps)
      by_cases z : b = a
      · subst z; rw [upd_same]; intro z; cases z
      · rw [upd_ne z]; exact r0.g.ht b ps
    · obtain ⟨v, e1, e2⟩ := r0.sl j sv e
      refine ⟨v, e1, ?_⟩
      cases sv with
      | exn _ _ _ => exact e2
      | dat d => exact e2
      | par k es => exact e2
      | own es =>
        obtain ⟨b, ws, rfl, g1, g2, g3, g4⟩ := e2
        have : b ≠ a := fun y => by subst y; exact h5 j es e e1
        refine ⟨b, ws, rfl, g1, g2, ?_, g4⟩
        show upd G.H0 a _ b = none
        rw [upd_ne this]
        exact g3
    · have hG : ∀ b, (G.guard a (.lst vs)).H0 b = none → G.H0 b = none ∧ b ≠ a := fun b z => by
        have z : upd G.H0 a (.lst vs) b = none := z
        by_cases hb : b = a
        · subst hb; rw [upd_same] at z; cases z
        · rw [upd_ne hb] at z; exact ⟨z, hb⟩
      have hna : a ∉ G.PA := fun hm => (r0.g.pa _ hm).2 h3
      have ha' : H' a = some (.lst vs) := r'.g.fr a _ (by show upd G.H0 a _ a = _; rw [upd_same]) hna fun ps z => by cases z
      have hb' : B' a = none := by
        cases z : B' a with
        | none => rfl
        | some o =>
          rcases r'.g.bn a o z with y | y
          · have y : G.B0 a = some o := y
            rw [hB0] at y; cases y
          · exact absurd rfl (hG a y).2
      have r2 : Rep K G B' S' σ' H' := by
        refine ⟨⟨r'.g.b0, fun b o e => ?_, r'.g.bh, r'.g.nt, fun b o e hp hu => ?_, fun b e => (hG b (r'.g.dm b e)).1, r'.g.tb, fun b hb => ?_, r0.g.ht, r'.g.pl⟩, r'.len, fun j sv e => ?_, r'.ds, r'.pj, r'.pn⟩
        · rcases r'.g.bn b o e with z | z
          · exact .inl z
          · exact .inr (hG b z).1
        · have : b ≠ a := fun y => by subst y; rw [h3] at e; cases e
          exact r'.g.fr b o (by show upd G.H0 a _ b = _; rw [upd_ne this]; exact e) hp hu
        · have : b ≠ a := fun y => by subst y; exact hna hb
          refine ⟨(r'.g.pa b hb).1, ?_⟩
          have z : upd G.H0 a (.lst vs) b ≠ none := (r'.g.pa b hb).2
          rw [upd_ne this] at z
          exact z
        · obtain ⟨v, e1, e2⟩ := r'.sl j sv e
          refine ⟨v, e1, ?_⟩
          cases sv with
          | exn _ _ _ => exact e2
          | dat d => exact e2
          | par k es => exact e2
          | own es =>
            obtain ⟨b, ws, rfl, g1, g2, g3, g4⟩ := e2
            exact ⟨b, ws, rfl, g1, g2, (hG b g3).1, g4⟩
      refine ⟨r2, ⟨a, vs, rfl, ha', hb', h3, dqAll_mono e _ _ h4, fun i x e1 e2 => ?_⟩, fun v2 r3 q2 => ?_⟩
      · obtain ⟨v, f1, b, ws, rfl, g1, g2, g3, g4⟩ := r'.sl i _ e1
        rw [f1] at e2
        cases e2
        exact (hG _ g3).2 rfl
      · cases r3 with
        | par _ _ => exact q2.elim
        | exn _ _ _ => exact q2.elim
        | dat d => exact ⟨q2, fun _ z => by cases z⟩
        | own es =>
          obtain ⟨b, ws, rfl, g1, g2, g3, g4, g5⟩ := q2
          refine ⟨⟨b, ws, rfl, g1, g2, (hG b g3).1, g4, g5⟩, fun _ _ z => ?_⟩
          cases z
          exact (hG _ g3).2 rfl
/-- a second result, when the first one is stored -/
theorem ResR.set {i : Nat} {v1 v2 : V} {r1 r2 : SV} (q : ResR K G B S σ H v2 r2) (h : ownV r1 = true → ownV r2 = true → v1 ≠ v2) (hl : σ.length = S.length) : ResR K G B (S.set i (some r1)) (σ.set i (some v1)) H v2 r2 := by
  cases r2 with
  | exn _ _ _ => exact q.elim
  | par _ _ => exact q.elim
  | dat d => exact q
  | own ds =>
    obtain ⟨a, vs, rfl, h1, h2, h3, h4, h5⟩ := q
    refine ⟨a, vs, rfl, h1, h2, h3, h4, fun j x e1 e2 => ?_⟩
    rcases get_set_eq e1 with ⟨rfl, e⟩ | ⟨hj, e1⟩
    · subst e
      have := get_set_val e2
      exact h rfl rfl this
    · rw [List.getElem?_set_ne hj] at e2
      exact h5 j x e1 e2
end

/-! ### x.pop() -/
def chg (i : Nat) (f : List D → Option (D × List D)) (S : AS) : Option (D × AS) := match S[i]? with
  | some (some (.own ds)) => (f ds).map fun p => (p.1, S.set i (some (.own p.2)))
  | some (some (.par k ds)) => (f ds).map fun p => (p.1, S.set i (some (.par k p.2)))
  | _ => none
def popL (ds : List D) : Option (D × List D) := match ds[ds.length - 1]? with
  | some d => some (d, ds.dropLast)
  | none => none
def fPop (i : Nat) : AS → Rs D := fun S => match chg i popL S with
  | some (d, S1) => .ok d S1
  | none => .stuck
section
variable {X : Cx} {W : XK} {k : Nat} {e a b c : Expr} {rest es : List Expr} {pos : Pos} {fd gd hd : AS → Rs D} {fa ga : AS → Rs (List D)} {ft gt : AS → Rs Bool} {fe ge : AS → Rs SV}
/-- what is known of a list that is changed -/
theorem chg_at {K : PySem.W.Frag} {G : Gd} {B H : Hp} {S S1 : AS} {σ : L2.St} {i : Nat} {f : List D → Option (D × List D)} {d : D} (r : Rep K G B S σ H) (h : chg i f S = some (d, S1)) :
    ∃ a vs ds ds', σ[i]? = some (some (.ref a)) ∧ H a = some (.lst vs) ∧ DqAll K B vs ds ∧ f ds = some (d, ds') ∧ ∀ vs', DqAll K B vs' ds' → Rep K G B S1 σ (upd H a (.lst vs')) := by
  unfold chg at h
  split at h
  · rename_i ds e
    cases hf : f ds with
    | none => rw [hf] at h; cases h
    | some p =>
      rw [hf] at h
      obtain ⟨d', ds'⟩ := p
      cases h
      obtain ⟨v, h0, a, vs, rfl, h1, h2, h3, h4⟩ := r.sl i _ e
      exact ⟨a, vs, ds, ds', h0, h1, h4, hf, fun vs' al => r.write e h0 h1 al⟩
  · rename_i k ds e
    cases hf : f ds with
    | none => rw [hf] at h; cases h
    | some p =>
      rw [hf] at h
      obtain ⟨d', ds'⟩ := p
      cases h
      obtain ⟨v, h0, a, vs, rfl, h1, h2, h3⟩ := r.sl i _ e
      exact ⟨a, vs, ds, ds', h0, h2, h3, hf, fun vs' al => r.writeP e h0 h2 al⟩
  · cases h
theorem d_pop (i : Nat) {x : Str} {p apos : Pos} (hN : X.N[i]? = some x := by rfl) (hv : Vis X.env.scope x := by first | exact Or.inl rfl | exact Or.inr (Or.inl rfl) | exact Or.inr (Or.inr rfl)) (hd : (x == ("__debug__" : Str)) = false := by decide)
    (hcd : (x == ("__classdict__" : Str)) = false := by decide) (hbase : attributeBase (.Name x p) "pop" X.env (eval (.Name x p) X.env) = eval (.Name x p) X.env := by rfl) (hline : (apos.endLine == pos.line) = true := by rfl) : DD X W (.Call (.Attribute (.Name x p) "pop" apos) [] [] pos) (fPop i) := by
  refine ⟨_, pe_bm0 PySem.F.plainAttrs_list PySem.F.slot_list_pop PySem.F.type_list_pop mt_pop (pe_var hN hv hd hcd) hbase hline, fun G B S σ H Q r po => ?_⟩
  unfold fPop at po
  cases hc : chg i popL S with
  | none => rw [hc] at po; exact po.elim
  | some q =>
    obtain ⟨d, S1⟩ := q
    rw [hc] at po
    obtain ⟨a, vs, ds, ds', h0, h1, h2, h3, h4⟩ := chg_at r hc
    unfold popL at h3
    split at h3
    · rename_i d0 hd0
      cases h3
      obtain ⟨v, g1, g2⟩ := h2.get hd0
      refine ⟨_, h0, .inl ⟨rfl, vs, .inl (.inl h1)⟩, a, vs, v, rfl, rfl, h1, by rw [h2.length]; exact g1, ?_⟩
      exact po _ B _ (Ex.refl _) (h4 _ h2.dropLast) g2
    · cases h3
end

/-! ### statements -/
inductive Out where
  | nx (S : AS)
  | rt (r : SV) (S : AS)
  | bk (S : AS)
  | ct (S : AS)
  | exc (c : Str) (w : D) (S : AS)
  | stuck
def PostS (K : PySem.W.Frag) (mg : Str → Option Value) (G : Gd) (W : XK) (B : Hp) (D : Ends) : Out → Prop
  | .nx S' => ∀ B' σ' H', Ex B B' → Rep K G B' S' σ' H' → D.nx σ' H'
  | .bk S' => ∀ B' σ' H', Ex B B' → Rep K G B' S' σ' H' → D.bk σ' H'
  | .ct S' => ∀ B' σ' H', Ex B B' → Rep K G B' S' σ' H' → D.ct σ' H'
  | .rt r S' => ∀ v B' σ' H', Ex B B' → Rep K G B' S' σ' H' → ResR K G B' S' σ' H' v r → D.rt v H'
  | .exc c w S' => ∀ C d v B' σ' H', mg c = some (.ref C) → Ex B B' → Rep K G B' S' σ' H' → Dq K B' v w → H' d = some (.xd [(("what" : Str), v)]) → W (.ref C) (some d) H'
  | .stuck => False
def Rs.out {α : Type} (r : Rs α) (k : α → AS → Out) : Out := match r with
  | .ok a S => k a S
  | .exc c w S => .exc c w S
  | .stuck => .stuck
@[simp] theorem Rs.out_ok {α : Type} (a : α) (S : AS) (k : α → AS → Out) : (Rs.ok a S).out k = k a S := rfl
@[simp] theorem Rs.out_exc {α : Type} (c : Str) (w : D) (S : AS) (k : α → AS → Out) : (Rs.exc c w S : Rs α).out k = .exc c w S := rfl
@[simp] theorem Rs.out_stuck {α : Type} (k : α → AS → Out) : (Rs.stuck : Rs α).out k = .stuck := rfl
def Out.then (o : Out) (k : AS → Out) : Out := match o with
  | .nx S => k S
  | o => o
@[simp] theorem Out.then_nx (S : AS) (k : AS → Out) : (Out.nx S).then k = k S := rfl
@[simp] theorem Out.then_rt (r : SV) (S : AS) (k : AS → Out) : (Out.rt r S).then k = .rt r S := rfl
@[simp] theorem Out.then_bk (S : AS) (k : AS → Out) : (Out.bk S).then k = .bk S := rfl
@[simp] theorem Out.then_ct (S : AS) (k : AS → Out) : (Out.ct S).then k = .ct S := rfl
@[simp] theorem Out.then_exc (c : Str) (w : D) (S : AS) (k : AS → Out) : (Out.exc c w S).then k = .exc c w S := rfl
@[simp] theorem Out.then_stuck (k : AS → Out) : Out.stuck.then k = .stuck := rfl
section
variable {K : PySem.W.Frag} {mg : Str → Option Value} {G : Gd} {W : XK} {B B' : Hp} {D D' : Ends} {o : Out}
theorem PostS.mono (h : PostS K mg G W B D o) (e : Ex B B') : PostS K mg G W B' D o := by
  cases o with
  | nx S => exact fun B1 σ1 H1 e1 r1 => h B1 σ1 H1 (e.trans e1) r1
  | bk S => exact fun B1 σ1 H1 e1 r1 => h B1 σ1 H1 (e.trans e1) r1
  | ct S => exact fun B1 σ1 H1 e1 r1 => h B1 σ1 H1 (e.trans e1) r1
  | rt r S => exact fun v B1 σ1 H1 e1 r1 => h v B1 σ1 H1 (e.trans e1) r1
  | exc c w S => exact fun C d v B1 σ1 H1 e0 e1 => h C d v B1 σ1 H1 e0 (e.trans e1)
  | stuck => exact h
theorem PostS.expr {α β : Type} {σ : L2.St} {R : Hp → AS → Hp → β → α → Prop} {Q : β → Hp → Prop} {r : Rs α} {k : α → AS → Out} (h : PostS K mg G W B D (r.out k))
    (hk : ∀ a S' b B' H', Ex B B' → Rep K G B' S' σ H' → R B' S' H' b a → PostS K mg G W B' D (k a S') → Q b H') : Post K mg G W B σ R Q r := by
  cases r with
  | ok a S => exact fun b B1 H1 e1 r1 q1 => hk a S b B1 H1 e1 r1 q1 (h.mono e1)
  | exc c w S => exact fun C d v B1 H1 e0 e1 r1 q x => h C d v B1 σ H1 e0 e1 r1 q x
  | stuck => exact h
theorem PostS.seq {k : AS → Out} {nx : L2.St → Hp → Prop} (h : PostS K mg G W B D (o.then k)) (hk : ∀ S' σ' B' H', Ex B B' → Rep K G B' S' σ' H' → PostS K mg G W B' D (k S') → nx σ' H') : PostS K mg G W B { D with nx := nx } o := by
  cases o with
  | nx S => exact fun B1 σ1 H1 e1 r1 => hk S σ1 B1 H1 e1 r1 (h.mono e1)
  | bk S => exact h
  | ct S => exact h
  | rt r S => exact h
  | exc c w S => exact h
  | stuck => exact h
end
structure DS (X : Cx) (W : XK) (st : Stmt) (f : AS → Out) : Prop where
  run : ∃ t, PS X st t ∧ ∀ G B S σ H D, Rep X.K G B S σ H → PostS X.K X.mg G W B D (f S) → t D σ H
structure DSs (X : Cx) (W : XK) (st : List Stmt) (f : AS → Out) : Prop where
  run : ∃ t, PSs X st t ∧ ∀ G B S σ H D, Rep X.K G B S σ H → PostS X.K X.mg G W B D (f S) → t D σ H
section
variable {X : Cx} {W : XK} {k : Nat} {e a b c : Expr} {st : Stmt} {sts : List Stmt} {rest es : List Expr} {pos : Pos} {fd gd hd : AS → Rs D} {fa ga : AS → Rs (List D)} {ft gt : AS → Rs Bool} {fe ge : AS → Rs SV} {f g : AS → Out}
def gNx : AS → Out := fun S => .nx S
theorem ss_nil : DSs X W [] gNx := ⟨_, pss_nil, fun G B S σ H D r po => po B σ H (Ex.refl _) r⟩
def gSeq (f g : AS → Out) : AS → Out := fun S => (f S).then g
theorem ss_cons (h : DS X W st f) (h2 : DSs X W sts g) : DSs X W (st :: sts) (gSeq f g) := by
  obtain ⟨t, p, q⟩ := h.run
  obtain ⟨t2, p2, q2⟩ := h2.run
  exact ⟨_, pss_cons p p2, fun G B S σ H D r po => q G B S σ H _ r (po.seq fun S1 σ1 B1 H1 e1 r1 po1 => q2 G B1 S1 σ1 H1 D r1 po1)⟩
theorem ss_one (h : DS X W st f) : DSs X W [st] f := by
  obtain ⟨t, p, q⟩ := h.run
  exact ⟨_, pss_one p, q⟩
theorem s_pass : DS X W (.Pass pos) gNx := ⟨_, ps_pass, fun G B S σ H D r po => po B σ H (Ex.refl _) r⟩
theorem s_break : DS X W (.Break pos) (fun S => .bk S) := ⟨_, ps_break, fun G B S σ H D r po => po B σ H (Ex.refl _) r⟩
theorem s_continue : DS X W (.Continue pos) (fun S => .ct S) := ⟨_, ps_continue, fun G B S σ H D r po => po B σ H (Ex.refl _) r⟩
/-- a statement that is not come to -/
theorem s_never : DS X W st (fun _ => .stuck) := ⟨_, ps_never, fun G B S σ H D r po => po⟩
def gDrop (f : AS → Rs SV) : AS → Out := fun S => (f S).out fun _ S1 => .nx S1
theorem s_expr (h : DE X W e fe) (hs : swapsWith e none pos.line X.env = pure false := by rfl) : DS X W (.Expr e pos) (gDrop fe) := by
  obtain ⟨t, p, q⟩ := h.run
  exact ⟨_, ps_expr p hs, fun G B S σ H D r po => q G B S σ H _ r (po.expr fun x S1 v B1 H1 e1 r1 x1 po1 => po1 B1 σ H1 (Ex.refl _) r1)⟩
def gRet (f : AS → Rs SV) : AS → Out := fun S => (f S).out fun r S1 => .rt r S1
theorem s_ret (h : DE X W e fe) : DS X W (.Return (some e) pos) (gRet fe) := by
  obtain ⟨t, p, q⟩ := h.run
  exact ⟨_, ps_ret p, fun G B S σ H D r po => q G B S σ H _ r (po.expr fun x S1 v B1 H1 e1 r1 x1 po1 => po1 v B1 σ H1 (Ex.refl _) r1 x1)⟩
def gIf (t : AS → Rs Bool) (f g : AS → Out) : AS → Out := fun S => (t S).out fun b S1 => if b = true then f S1 else g S1
theorem s_if {aa bb : List Stmt} (h : DT X W c ft) (h1 : DSs X W aa f) (h2 : DSs X W bb g) : DS X W (.If c aa bb pos) (gIf ft f g) := by
  obtain ⟨t, p, q⟩ := h.run
  obtain ⟨t1, p1, q1⟩ := h1.run
  obtain ⟨t2, p2, q2⟩ := h2.run
  refine ⟨_, ps_if p p1 p2, fun G B S σ H D r po => q G B S σ H _ r (po.expr fun x S1 v B1 H1 e1 r1 x1 po1 => ?_)⟩
  have x1 : v = x := x1
  subst x1
  cases v with
  | true => exact q1 G B1 S1 σ H1 D r1 po1
  | false => exact q2 G B1 S1 σ H1 D r1 po1
/-- name = value; own: a list is kept as one's own -/
def gSet (i : Nat) (f : AS → Rs D) : AS → Out := fun S => (f S).out fun d S1 => .nx (S1.set i (some (.dat d)))
def gSetO (i : Nat) (f : AS → Rs SV) : AS → Out := fun S => (f S).out fun r S1 => .nx (S1.set i (some r))
theorem s_set (i : Nat) {x : Str} {pos' : Pos} (C : Ctx X W k) (h : DD X W e fd) (hi : X.N[i]? = some x := by rfl) (hx : Loc X.env.scope x := by first | exact Or.inl rfl | exact Or.inr rfl) (hs : swapsWith e (some (.Name x pos')) pos.line X.env = pure false := by rfl) (hf : X.fn x = true ∨ X.env.scope.names.lookup x = some .local := by first | exact .inl rfl | exact .inr rfl | assumption) :
    DS X W (.Assign [.Name x pos'] e pos) (gSet i fd) := by
  obtain ⟨t, p, q⟩ := h.run
  exact ⟨_, ps_set C.nd hi hx p hs hf, fun G B S σ H D r po => q G B S σ H _ r (po.expr fun x S1 v B1 H1 e1 r1 x1 po1 => po1 B1 _ H1 (Ex.refl _) (r1.setR (r := .dat x) x1))⟩
theorem s_setO (i : Nat) {x : Str} {pos' : Pos} (C : Ctx X W k) (h : DE X W e fe) (hi : X.N[i]? = some x := by rfl) (hx : Loc X.env.scope x := by first | exact Or.inl rfl | exact Or.inr rfl) (hs : swapsWith e (some (.Name x pos')) pos.line X.env = pure false := by rfl) (hf : X.fn x = true ∨ X.env.scope.names.lookup x = some .local := by first | exact .inl rfl | exact .inr rfl | assumption) :
    DS X W (.Assign [.Name x pos'] e pos) (gSetO i fe) := by
  obtain ⟨t, p, q⟩ := h.run
  exact ⟨_, ps_set C.nd hi hx p hs hf, fun G B S σ H D r po => q G B S σ H _ r (po.expr fun x S1 v B1 H1 e1 r1 x1 po1 => po1 B1 _ H1 (Ex.refl _) (r1.setR x1))⟩
/-! ### x.append(e), x.extend(fresh), x[i] = e -/
def ownAt (i : Nat) (S : AS) : Bool := match S[i]? with
  | some (some (.own _)) => true
  | some (some (.par _ _)) => true
  | _ => false
theorem own_has {K : PySem.W.Frag} {G : Gd} {B H : Hp} {S : AS} {σ : L2.St} {i : Nat} (r : Rep K G B S σ H) (h : ownAt i S = true) : ∃ a vs, σ[i]? = some (some (.ref a)) ∧ H a = some (.lst vs) := by
  unfold ownAt at h
  split at h
  · rename_i e; obtain ⟨v, e1, a, vs, rfl, e2, _⟩ := r.sl _ _ e; exact ⟨a, vs, e1, e2⟩
  · rename_i e; obtain ⟨v, e1, a, vs, rfl, _, e2, _⟩ := r.sl _ _ e; exact ⟨a, vs, e1, e2⟩
  · cases h
def appL (d : D) (ds : List D) : Option (D × List D) := if small (ds.length + 1) = true then some (.none, ds ++ [d]) else none
def gApp (i : Nat) (f : AS → Rs D) : AS → Out := fun S => if ownAt i S = true then (f S).out (fun d S1 => match chg i (appL d) S1 with
    | some (_, S2) => .nx S2
    | none => .stuck) else .stuck
theorem s_app (i : Nat) {x : Str} {p apos cpos : Pos} (h : DD X W e fd) (hN : X.N[i]? = some x := by rfl) (hv : Vis X.env.scope x := by first | exact Or.inl rfl | exact Or.inr (Or.inl rfl) | exact Or.inr (Or.inr rfl)) (hd : (x == ("__debug__" : Str)) = false := by decide)
    (hcd : (x == ("__classdict__" : Str)) = false := by decide) (hbase : attributeBase (.Name x p) "append" X.env (eval (.Name x p) X.env) = eval (.Name x p) X.env := by rfl)
    (hfew : ((backTo cpos (starEach [e] X.env)).all (fun x => !x.1) && (backToKw cpos (keywordEach [] X.env)).all (fun x => x.1.isSome)
      && decide ([e].length + ([] : List Keyword).length + (if ([] : List Keyword).isEmpty then 0 else 1) < 30)) = true := by rfl)
    (hline : (apos.endLine == cpos.line) = true := by rfl) (hst : starEach [e] X.env = (false, eval e X.env) :: starEach [] X.env := by rfl) (hplain : (backTo cpos (starEach [] X.env)).any (·.1) = false := by rfl)
    (hs : swapsWith (.Call (.Attribute (.Name x p) "append" apos) [e] [] cpos) none pos.line X.env = pure false := by rfl) : DS X W (.Expr (.Call (.Attribute (.Name x p) "append" apos) [e] [] cpos) pos) (gApp i fd) := by
  obtain ⟨t, pp, q⟩ := h.run
  refine ⟨_, ps_expr (pe_bm PySem.F.plainAttrs_list PySem.F.slot_list_append PySem.F.type_list_append mt_append (pe_var hN hv hd hcd) (pa_cons pp pa_nil hst) hbase hfew hline hst hplain) hs, fun G B S σ H D r po => ?_⟩
  unfold gApp at po
  split at po
  · rename_i ho
    obtain ⟨a, vs, h1, h2⟩ := own_has r ho
    refine ⟨_, h1, .inl ⟨rfl, vs, .inl (.inl h2)⟩, ?_⟩
    refine q G B S σ H _ r (po.expr fun d S1 v B1 H1 e1 r1 x1 po1 => ?_)
    cases hc : chg i (appL d) S1 with
    | none => rw [hc] at po1; exact po1.elim
    | some qq =>
      obtain ⟨d0, S2⟩ := qq
      rw [hc] at po1
      obtain ⟨a', vs1, ds, ds', g0, g1, g2, g3, g4⟩ := chg_at r1 hc
      rw [h1] at g0
      cases g0
      unfold appL at g3
      split at g3
      · rename_i hsm
        cases g3
        refine ⟨a, vs1, v, rfl, rfl, g1, ?_, po1 B1 σ _ (Ex.refl _) (g4 _ (g2.append (.cons x1 .nil)))⟩
        rw [g2.length]
        exact small_line hsm
      · cases g3
  · exact po.elim
def extL (es : List D) (ds : List D) : Option (D × List D) := if small (ds.length + es.length) = true then some (.none, ds ++ es) else none
def gExt (i : Nat) (f : AS → Rs SV) : AS → Out := fun S => if ownAt i S = true then (f S).out (fun r S1 => match r with
    | .own es => (match chg i (extL es) S1 with
      | some (_, S2) => .nx S2
      | none => .stuck)
    | _ => .stuck) else .stuck
theorem s_ext (i : Nat) {x : Str} {p apos cpos : Pos} (h : DE X W e fe) (hN : X.N[i]? = some x := by rfl) (hv : Vis X.env.scope x := by first | exact Or.inl rfl | exact Or.inr (Or.inl rfl) | exact Or.inr (Or.inr rfl)) (hd : (x == ("__debug__" : Str)) = false := by decide)
    (hcd : (x == ("__classdict__" : Str)) = false := by decide) (hbase : attributeBase (.Name x p) "extend" X.env (eval (.Name x p) X.env) = eval (.Name x p) X.env := by rfl)
    (hfew : ((backTo cpos (starEach [e] X.env)).all (fun x => !x.1) && (backToKw cpos (keywordEach [] X.env)).all (fun x => x.1.isSome)
      && decide ([e].length + ([] : List Keyword).length + (if ([] : List Keyword).isEmpty then 0 else 1) < 30)) = true := by rfl)
    (hline : (apos.endLine == cpos.line) = true := by rfl) (hst : starEach [e] X.env = (false, eval e X.env) :: starEach [] X.env := by rfl) (hplain : (backTo cpos (starEach [] X.env)).any (·.1) = false := by rfl)
    (hs : swapsWith (.Call (.Attribute (.Name x p) "extend" apos) [e] [] cpos) none pos.line X.env = pure false := by rfl) : DS X W (.Expr (.Call (.Attribute (.Name x p) "extend" apos) [e] [] cpos) pos) (gExt i fe) := by
  obtain ⟨t, pp, q⟩ := h.run
  refine ⟨_, ps_expr (pe_bm PySem.F.plainAttrs_list PySem.F.slot_list_extend PySem.F.type_list_extend mt_extend (pe_var hN hv hd hcd) (pa_cons pp pa_nil hst) hbase hfew hline hst hplain) hs, fun G B S σ H D r po => ?_⟩
  unfold gExt at po
  split at po
  · rename_i ho
    obtain ⟨a, vs, h1, h2⟩ := own_has r ho
    refine ⟨_, h1, .inl ⟨rfl, vs, .inl (.inl h2)⟩, ?_⟩
    refine q G B S σ H _ r (po.expr fun d S1 v B1 H1 e1 r1 x1 po1 => ?_)
    split at po1
    · rename_i es'
      obtain ⟨b, ws, rfl, w1, w2, w3, w4, w5⟩ := x1
      cases hc : chg i (extL es') S1 with
      | none => rw [hc] at po1; exact po1.elim
      | some qq =>
        obtain ⟨d0, S2⟩ := qq
        rw [hc] at po1
        obtain ⟨a', vs1, ds, ds', g0, g1, g2, g3, g4⟩ := chg_at r1 hc
        rw [h1] at g0
        cases g0
        unfold extL at g3
        split at g3
        · rename_i hsm
          cases g3
          refine ⟨a, b, vs1, ws, rfl, rfl, g1, w1, ?_, po1 B1 σ _ (Ex.refl _) (g4 _ (g2.append w4))⟩
          rw [g2.length, w4.length]
          exact small_line hsm
        · cases g3
    · exact po1.elim
  · exact po.elim
def putL (j : Int) (d : D) (ds : List D) : Option (D × List D) := match ixN ds.length j with
  | some m => some (.none, ds.set m d)
  | none => none
/-- x[j] = e: e first, then j -/
def gPut (i : Nat) (f g : AS → Rs D) : AS → Out := fun S => (f S).out fun d S1 => if ownAt i S1 = true then (g S1).out (fun j S2 => match j with
    | .int j => (match chg i (putL j d) S2 with
      | some (_, S3) => .nx S3
      | none => .stuck)
    | _ => .stuck) else .stuck
theorem s_put (i : Nat) {x : Str} {p spos : Pos} (C : Ctx X W k) (h : DD X W e fd) (h2 : DD X W b gd) (hN : X.N[i]? = some x := by rfl) (hv : Vis X.env.scope x := by first | exact Or.inl rfl | exact Or.inr (Or.inl rfl) | exact Or.inr (Or.inr rfl)) (hd : (x == ("__debug__" : Str)) = false := by decide)
    (hcd : (x == ("__classdict__" : Str)) = false := by decide)
    (hta : ∀ v, assign (.Subscript (.Name x p) b spos) X.env v = (do
      let ov ← holding [v] (eval (.Name x p) X.env)
      let iv ← holding [v, ov] (eval b X.env)
      standAt spos
      holding [v, ov, iv] (setItem ov iv v)
      release [v, ov, iv] []) := by intro _; rfl)
    (hs : swapsWithSole [.Subscript (.Name x p) b spos] e pos.line X.env = pure false := by rfl) (hw : swappedStores [.Subscript (.Name x p) b spos] e X.env = pure none := by rfl)
    (h1 : (assignEach [.Subscript (.Name x p) b spos] X.env).map (·.2) = [assign (.Subscript (.Name x p) b spos) X.env] := by rfl) : DS X W (.Assign [.Subscript (.Name x p) b spos] e pos) (gPut i fd gd) := by
  obtain ⟨t, pp, q⟩ := h.run
  obtain ⟨t2, p2, q2⟩ := h2.run
  refine ⟨_, ps_asg pp (pg_sub (pe_var hN hv hd hcd) p2 set_list hta) hs hw h1, fun G B S σ H D r po => q G B S σ H _ r (po.expr fun d S1 v B1 H1 e1 r1 x1 po1 => ?_)⟩
  split at po1
  · rename_i ho
    obtain ⟨a, vs, g1, g2⟩ := own_has r1 ho
    refine ⟨_, g1, ?_⟩
    refine q2 G B1 S1 σ H1 _ r1 (po1.expr fun j S2 w B2 H2 e2 r2 x2 po2 => ?_)
    split at po2
    · rename_i j
      cases x2
      cases hc : chg i (putL j d) S2 with
      | none => rw [hc] at po2; exact po2.elim
      | some qq =>
        obtain ⟨d0, S3⟩ := qq
        rw [hc] at po2
        obtain ⟨a', vs1, ds, ds', k0, k1, k2, k3, k4⟩ := chg_at r2 hc
        rw [g1] at k0
        cases k0
        unfold putL at k3
        split at k3
        · rename_i m hm
          cases k3
          exact ⟨a, vs1, j, m, rfl, rfl, k1, by rw [k2.length]; exact hm, po2 B2 σ _ (Ex.refl _) (k4 _ (k2.set (dq_mono e2 _ _ x1) m))⟩
        · cases k3
    · exact po2.elim
  · exact po1.elim
/-! ### several names at once -/
/-- a, b = x, y -/
def gPar2 (i j : Nat) (f g : AS → Rs SV) : AS → Out := fun S => (f S).out fun r S1 => (g S1).out fun r2 S2 => .nx ((S2.set i (some r)).set j (some r2))
theorem s_par2 (i j : Nat) {x y : Str} {px py pt : Pos} {kt k2 pt2} (C : Ctx X W k) (h : DE X W a fe) (h2 : DE X W b ge) (hi : X.N[i]? = some x := by rfl) (hj : X.N[j]? = some y := by rfl) (hij : i ≠ j := by decide)
    (hx : X.env.scope.names.lookup x = some .local := by rfl) (hy : X.env.scope.names.lookup y = some .local := by rfl)
    (h1 : starEach [a, b] X.env = (false, eval a X.env) :: starEach [b] X.env := by rfl) (h3 : starEach [b] X.env = (false, eval b X.env) :: starEach [] X.env := by rfl)
    (hw : swappedStores [.Tuple [.Name x px, .Name y py] kt pt] (.Tuple [a, b] k2 pt2) X.env = pure (some [x, y]) := by rfl)
    (hs : swapsWithSole [.Tuple [.Name x px, .Name y py] kt pt] (.Tuple [a, b] k2 pt2) pos.line X.env = pure false := by rfl) :
    DS X W (.Assign [.Tuple [.Name x px, .Name y py] kt pt] (.Tuple [a, b] k2 pt2) pos) (gPar2 i j fe ge) := by
  obtain ⟨t, p, q⟩ := h.run
  obtain ⟨t2, p2, q2⟩ := h2.run
  refine ⟨_, ps_par C.calm C.nd hi hj hij hx hy (pa_cons p (pa_cons p2 pa_nil h3) h1) hw hs, fun G B S σ H D r po => q G B S σ H _ r (po.expr fun r1 S1 v B1 H1 e1 rp1 x1 po1 => ?_)⟩
  obtain ⟨G', rg, keep⟩ := guardR rp1 x1
  have po1' : Post X.K X.mg G' W B1 σ (RE X.K G' σ) (fun w H2 => ∃ v' w', [v, w] = [v', w'] ∧ D.nx ((σ.set i (some v')).set j (some w')) H2) (ge S1) := by
    cases hg : ge S1 with
    | ok r2 S2 =>
      rw [hg] at po1
      intro w B2 H2 e2 rp2 x2
      obtain ⟨rp2', y1, y2⟩ := keep B2 S2 σ H2 e2 rp2
      obtain ⟨z1, z2⟩ := y2 w r2 x2
      exact ⟨v, w, rfl, po1 B2 _ H2 e2 ((rp2'.setR y1).setR (z1.set z2 rp2'.len))⟩
    | exc c w S2 =>
      rw [hg] at po1
      intro Cc d v' B2 H2 e0 e2 rp2 dq hx
      exact po1 Cc d v' B2 σ H2 e0 e2 (keep B2 S2 σ H2 e2 rp2).1 dq hx
    | stuck => rw [hg] at po1; exact po1.elim
  exact q2 G' B1 S1 σ H1 _ rg po1'
/-- a, b, c = x, y, z -/
def gPar3 (i j l : Nat) (f g h : AS → Rs SV) : AS → Out := fun S => (f S).out fun r S1 => (g S1).out fun r2 S2 => (h S2).out fun r3 S3 => .nx (((S3.set i (some r)).set j (some r2)).set l (some r3))
theorem s_par3 (i j l : Nat) {x y z : Str} {px py pz pt : Pos} {kt k2 pt2} {he : AS → Rs SV} (C : Ctx X W k) (h : DE X W a fe) (h2 : DE X W b ge) (h3 : DE X W c he) (hi : X.N[i]? = some x := by rfl) (hj : X.N[j]? = some y := by rfl) (hl : X.N[l]? = some z := by rfl) (hij : i ≠ j := by decide) (hil : i ≠ l := by decide) (hjl : j ≠ l := by decide)
    (hx : X.env.scope.names.lookup x = some .local := by rfl) (hy : X.env.scope.names.lookup y = some .local := by rfl) (hz : X.env.scope.names.lookup z = some .local := by rfl)
    (h1 : starEach [a, b, c] X.env = (false, eval a X.env) :: starEach [b, c] X.env := by rfl) (h4 : starEach [b, c] X.env = (false, eval b X.env) :: starEach [c] X.env := by rfl) (h5 : starEach [c] X.env = (false, eval c X.env) :: starEach [] X.env := by rfl)
    (hw : swappedStores [.Tuple [.Name x px, .Name y py, .Name z pz] kt pt] (.Tuple [a, b, c] k2 pt2) X.env = pure (some [x, y, z]) := by rfl)
    (hs : swapsWithSole [.Tuple [.Name x px, .Name y py, .Name z pz] kt pt] (.Tuple [a, b, c] k2 pt2) pos.line X.env = pure false := by rfl) :
    DS X W (.Assign [.Tuple [.Name x px, .Name y py, .Name z pz] kt pt] (.Tuple [a, b, c] k2 pt2) pos) (gPar3 i j l fe ge he) := by
  obtain ⟨t, p, q⟩ := h.run
  obtain ⟨t2, p2, q2⟩ := h2.run
  obtain ⟨t3, p3, q3⟩ := h3.run
  refine ⟨_, ps_par3 C.calm C.nd hi hj hl hij hil hjl hx hy hz (pa_cons p (pa_cons p2 (pa_cons p3 pa_nil h5) h4) h1) hw hs, fun G B S σ H D r po => q G B S σ H _ r (po.expr fun r1 S1 v B1 H1 e1 rp1 x1 po1 => ?_)⟩
  obtain ⟨G', rg, keep⟩ := guardR rp1 x1
  refine q2 G' B1 S1 σ H1 _ rg ?_
  cases hg : ge S1 with
  | stuck => rw [hg] at po1; exact po1.elim
  | exc c w S2 =>
    rw [hg] at po1
    intro Cc d v' B2 H2 e0 e2 rp2 dq hx
    exact po1 Cc d v' B2 σ H2 e0 e2 (keep B2 S2 σ H2 e2 rp2).1 dq hx
  | ok r2 S2 =>
    rw [hg] at po1
    intro w B2 H2 e2 rp2 x2
    obtain ⟨rp2', y1, y2⟩ := keep B2 S2 σ H2 e2 rp2
    obtain ⟨z1, z2⟩ := y2 w r2 x2
    obtain ⟨G2, rg2, keep2⟩ := guardR rp2 x2
    have po2 : PostS X.K X.mg G W B2 D ((he S2).out fun r3 S3 => .nx (((S3.set i (some r1)).set j (some r2)).set l (some r3))) := PostS.mono po1 e2
    refine q3 G2 B2 S2 σ H2 _ rg2 ?_
    cases hh : he S2 with
    | stuck => rw [hh] at po2; exact po2.elim
    | exc c w S3 =>
      rw [hh] at po2
      intro Cc d v' B3 H3 e0 e3 rp3 dq hx
      obtain ⟨u1, _⟩ := keep2 B3 S3 σ H3 e3 rp3
      exact po2 Cc d v' B3 σ H3 e0 e3 (keep B3 S3 σ H3 (e2.trans e3) u1).1 dq hx
    | ok r3 S3 =>
      rw [hh] at po2
      intro u B3 H3 e3 rp3 x3
      obtain ⟨u1, u2, u3⟩ := keep2 B3 S3 σ H3 e3 rp3
      obtain ⟨u4, u5⟩ := u3 u r3 x3
      obtain ⟨k1, k2, k3⟩ := keep B3 S3 σ H3 (e2.trans e3) u1
      obtain ⟨m1, m2⟩ := k3 w r2 u2
      obtain ⟨m3, m4⟩ := k3 u r3 u4
      have hlen := k1.len
      have s1 := k1.setR (i := i) k2
      have s2 := s1.setR (i := j) (m1.set m2 hlen)
      refine ⟨v, w, u, rfl, po2 B3 _ H3 e3 (s2.setR (i := l) ?_)⟩
      exact (m3.set m4 hlen).set u5 s1.len
end
/-! ### unpacking -/
def setAll : List Nat → List D → AS → Option AS
  | [], [], S => some S
  | i :: is, d :: ds, S => setAll is ds (S.set i (some (.dat d)))
  | _, _, _ => none
def gUnp (is : List Nat) (f : AS → Rs D) : AS → Out := fun S => (f S).out fun d S1 => match d with
  | .tuple ds => (match setAll is ds S1 with
    | some S2 => .nx S2
    | none => .stuck)
  | _ => .stuck
/-- targets that are names -/
structure UnpOk (X : Cx) (ts : List Expr) (is : List Nat) : Prop where
  run : ∃ t, PGs X ts t ∧ (assignEach ts X.env).length = is.length ∧ ∀ (G : Gd) (B : Hp) (S S' : AS) (σ : L2.St) (H : Hp) (vs : List V) (ds : List D) (Q : L2.St → Hp → Prop), Rep X.K G B S σ H → DqAll X.K B vs ds → setAll is ds S = some S' → (∀ σ', Rep X.K G B S' σ' H → Q σ' H) → t vs σ H Q
section
variable {X : Cx} {W : XK} {k : Nat} {e a b c : Expr} {ts : List Expr} {is : List Nat} {pos : Pos} {fd gd hd : AS → Rs D}
theorem un_nil : UnpOk X [] [] := by
  refine ⟨_, pgs_nil, rfl, fun G B S S' σ H vs ds Q r al e q => ?_⟩
  cases al with
  | nil => cases e; exact ⟨rfl, q σ r⟩
  | cons _ _ => cases e
theorem un_cons (i : Nat) {x : Str} {px : Pos} (C : Ctx X W k) (h : UnpOk X ts is) (hi : X.N[i]? = some x := by rfl) (hx : Loc X.env.scope x := by first | exact Or.inl rfl | exact Or.inr rfl) (hf : X.fn x = true ∨ X.env.scope.names.lookup x = some .local := by first | exact .inl rfl | exact .inr rfl | assumption)
    (hs : (assignEach (.Name x px :: ts) X.env).map (·.2) = assign (.Name x px) X.env :: (assignEach ts X.env).map (·.2) := by rfl) : UnpOk X (.Name x px :: ts) (i :: is) := by
  obtain ⟨t, p, l, q⟩ := h.run
  refine ⟨_, pgs_cons (pg_name C.nd hi hx hf) p hs, ?_, fun G B S S' σ H vs ds Q r al e qq => ?_⟩
  · have := congrArg List.length hs
    simp only [List.length_map, List.length_cons] at this
    rw [List.length_cons, ← l]
    exact this
  · cases al with
    | nil => cases e
    | cons h1 t1 =>
      refine ⟨_, _, rfl, ?_⟩
      exact q G B _ S' _ H _ _ Q (r.setR (r := .dat _) h1) t1 e qq
theorem s_unp {kt} {pt : Pos} (C : Ctx X W k) (hu : UnpOk X ts is) (h : DD X W e fd) (hst : (assignEach ts X.env).findIdx? (·.1) = none := by rfl)
    (hs : swapsWithSole [.Tuple ts kt pt] e pos.line X.env = pure false := by rfl) (hw : swappedStores [.Tuple ts kt pt] e X.env = pure none := by rfl)
    (h1 : (assignEach [.Tuple ts kt pt] X.env).map (·.2) = [assign (.Tuple ts kt pt) X.env] := by rfl) : DS X W (.Assign [.Tuple ts kt pt] e pos) (gUnp is fd) := by
  obtain ⟨t, p, l, q⟩ := hu.run
  obtain ⟨te, pe, qe⟩ := h.run
  refine ⟨_, ps_asg pe (pg_tup C.calm p l hst) hs hw h1, fun G B S σ H D r po => qe G B S σ H _ r (po.expr fun d S1 v B1 H1 e1 r1 x1 po1 => ?_)⟩
  split at po1
  · rename_i ds
    cases hsa : setAll is ds S1 with
    | none => rw [hsa] at po1; exact po1.elim
    | some S2 =>
      rw [hsa] at po1
      cases x1 with | tup s al =>
      rename_i ad xs
      have hlen : ∀ (is : List Nat) (ds : List PyData) (S S' : AS), setAll is ds S = some S' → is.length = ds.length := by
        intro is
        induction is with
        | nil => intro ds S S' h; cases ds with | nil => rfl | cons _ _ => cases h
        | cons i is ih => intro ds S S' h; cases ds with | nil => cases h | cons d ds => rw [List.length_cons, List.length_cons, ih ds _ S' h]
      refine ⟨ad, xs, rfl, sqT_H r1 s, by rw [al.length, hlen _ _ _ _ hsa], ?_⟩
      exact q G B1 S1 S2 σ H1 xs ds _ r1 al hsa fun σ' r' => po1 B1 σ' H1 (Ex.refl _) r'
  · exact po1.elim
end
end DL

set_option maxRecDepth 100000
set_option maxHeartbeats 1000000
/-! DL7: loops, comprehensions -/
namespace DL
open PySem PySem.Spec PyProof.Rows L2
variable [Tbl]

/-! ### judgements whose reading is fixed by what is told -/
def cE (K : PySem.W.Frag) (mg : Str → Option Value) (W : XK) (f : AS → Rs SV) : TE := fun σ H Q => ∃ G B S, Rep K G B S σ H ∧ Post K mg G W B σ (RE K G σ) Q (f S)
def cD (K : PySem.W.Frag) (mg : Str → Option Value) (W : XK) (f : AS → Rs D) : TE := fun σ H Q => ∃ G B S, Rep K G B S σ H ∧ Post K mg G W B σ (RD K) Q (f S)
def cT (K : PySem.W.Frag) (mg : Str → Option Value) (W : XK) (f : AS → Rs Bool) : TT := fun σ H Q => ∃ G B S, Rep K G B S σ H ∧ Post K mg G W B σ RT Q (f S)
def W0 : XK := fun _ _ _ => False
section
variable {X : Cx} {W : XK} {k : Nat} {e a b c : Expr} {st : Stmt} {sts : List Stmt} {rest es ts : List Expr} {is : List Nat} {pos : Pos} {fd gd hd : AS → Rs D} {fa ga : AS → Rs (List D)} {ft gt : AS → Rs Bool} {fe ge : AS → Rs SV} {f g : AS → Out}
theorem DE.pe (h : DE X W e fe) : PE X e (cE X.K X.mg W fe) := by
  obtain ⟨t, p, q⟩ := h.run
  exact ⟨fun pins s σ H Q I ⟨G, B, S, r, po⟩ => p.run pins s σ H Q I (q G B S σ H Q r po)⟩
theorem DD.pe (h : DD X W e fd) : PE X e (cD X.K X.mg W fd) := by
  obtain ⟨t, p, q⟩ := h.run
  exact ⟨fun pins s σ H Q I ⟨G, B, S, r, po⟩ => p.run pins s σ H Q I (q G B S σ H Q r po)⟩
theorem DT.pt (h : DT X W e ft) : PT X e (cT X.K X.mg W ft) := by
  obtain ⟨t, p, q⟩ := h.run
  exact ⟨fun pins s σ H Q I ⟨G, B, S, r, po⟩ => p.run pins s σ H Q I (q G B S σ H Q r po)⟩

/-! ### names forgotten -/
def wipeS (S : AS) : List Nat → AS
  | [] => S
  | v :: vs => (wipeS S vs).set v none
theorem wipeS_length (S : AS) : ∀ vs, (wipeS S vs).length = S.length
  | [] => rfl
  | v :: vs => by show ((wipeS S vs).set v none).length = _; rw [List.length_set, wipeS_length S vs]
theorem rep_wipe1 {K : PySem.W.Frag} {G : Gd} {B H : Hp} {S : AS} {σ : L2.St} (r : Rep K G B S σ H) (i : Nat) : Rep K G B (S.set i none) σ H := by
  refine ⟨r.g, by rw [List.length_set]; exact r.len, fun j sv e => ?_, fun j l a x y e1 e2 e3 e4 => ?_, fun j l k x y e1 e2 => ?_, r.pn⟩
  · have hj : i ≠ j := fun z => by subst z; rw [List.getElem?_set] at e; split at e <;> (try split at e) <;> simp_all
    rw [List.getElem?_set_ne hj] at e
    exact r.sl j sv e
  · have hj : i ≠ j := fun z => by subst z; rw [List.getElem?_set] at e1; split at e1 <;> (try split at e1) <;> simp_all
    have hl : i ≠ l := fun z => by subst z; rw [List.getElem?_set] at e2; split at e2 <;> (try split at e2) <;> simp_all
    rw [List.getElem?_set_ne hj] at e1
    rw [List.getElem?_set_ne hl] at e2
    exact r.ds j l a x y e1 e2 e3 e4
  · have hj : i ≠ j := fun z => by subst z; rw [List.getElem?_set] at e1; split at e1 <;> (try split at e1) <;> simp_all
    have hl : i ≠ l := fun z => by subst z; rw [List.getElem?_set] at e2; split at e2 <;> (try split at e2) <;> simp_all
    rw [List.getElem?_set_ne hj] at e1
    rw [List.getElem?_set_ne hl] at e2
    exact r.pj j l k x y e1 e2
theorem rep_wipe {K : PySem.W.Frag} {G : Gd} {B H : Hp} {S : AS} {σ : L2.St} (r : Rep K G B S σ H) : ∀ vs, Rep K G B (wipeS S vs) σ H
  | [] => r
  | v :: vs => rep_wipe1 (rep_wipe r vs) v
/-- both forgotten -/
theorem rep_wipe2 {K : PySem.W.Frag} {G : Gd} {B H : Hp} {S : AS} {σ : L2.St} (r : Rep K G B S σ H) : ∀ vs, Rep K G B (wipeS S vs) (wipe σ vs) H
  | [] => r
  | v :: vs => (rep_wipe2 r vs).setN none
theorem wipeS_none {S : AS} {i : Nat} {x : SV} : ∀ {vs : List Nat}, (wipeS S vs)[i]? = some (some x) → i ∉ vs
  | [], _, h => by cases h
  | v :: vs, e, h => by
    have e : ((wipeS S vs).set v none)[i]? = some (some x) := e
    rcases List.mem_cons.mp h with rfl | h
    · rw [List.getElem?_set] at e
      split at e <;> (try split at e) <;> simp_all
    · by_cases hv : v = i
      · subst hv
        rw [List.getElem?_set] at e
        split at e <;> (try split at e) <;> simp_all
      · rw [List.getElem?_set_ne hv] at e
        exact wipeS_none e h
theorem wipe_ne {σ : L2.St} {i : Nat} : ∀ {vs : List Nat}, i ∉ vs → (wipe σ vs)[i]? = σ[i]?
  | [], _ => rfl
  | v :: vs, h => by
    have h1 : v ≠ i := fun z => h (by simp [z])
    show ((wipe σ vs).set v none)[i]? = _
    rw [List.getElem?_set_ne h1]
    exact wipe_ne fun z => h (List.mem_cons_of_mem _ z)
/-- two frames that are alike but for what is forgotten -/
theorem rep_over {K : PySem.W.Frag} {G : Gd} {B H : Hp} {S : AS} {σ σ' : L2.St} {vs : List Nat} (r : Rep K G B S σ H) (e : wipe σ vs = wipe σ' vs) : Rep K G B (wipeS S vs) σ' H := by
  have r' := rep_wipe r vs
  have hl : σ.length = σ'.length := by
    have := congrArg List.length e
    rwa [wipe_length, wipe_length] at this
  have get : ∀ (i : Nat) (x : SV), (wipeS S vs)[i]? = some (some x) → σ'[i]? = σ[i]? := fun i x h => by
    have := wipeS_none h
    rw [← wipe_ne (σ := σ') this, ← e, wipe_ne this]
  refine ⟨r'.g, by rw [← hl]; exact r'.len, fun j sv q => ?_, fun j l a x y e1 e2 e3 e4 => ?_, r'.pj, r'.pn⟩
  · obtain ⟨v, h1, h2⟩ := r'.sl j sv q
    exact ⟨v, by rw [get j sv q]; exact h1, h2⟩
  · exact r'.ds j l a x y e1 e2 (by rw [← get j _ e1]; exact e3) (by rw [← get l _ e2]; exact e4)

/-! ### while -/
def Out.loop (o : Out) (wp : List Nat) (k : AS → Out) : Out := match o with
  | .nx S => k (wipeS S wp)
  | .ct S => k (wipeS S wp)
  | .bk S => .nx S
  | o => o
@[simp] theorem Out.loop_nx (S : AS) (wp : List Nat) (k : AS → Out) : (Out.nx S).loop wp k = k (wipeS S wp) := rfl
@[simp] theorem Out.loop_ct (S : AS) (wp : List Nat) (k : AS → Out) : (Out.ct S).loop wp k = k (wipeS S wp) := rfl
@[simp] theorem Out.loop_bk (S : AS) (wp : List Nat) (k : AS → Out) : (Out.bk S).loop wp k = .nx S := rfl
@[simp] theorem Out.loop_rt (r : SV) (S : AS) (wp : List Nat) (k : AS → Out) : (Out.rt r S).loop wp k = .rt r S := rfl
@[simp] theorem Out.loop_exc (c : Str) (w : D) (S : AS) (wp : List Nat) (k : AS → Out) : (Out.exc c w S).loop wp k = .exc c w S := rfl
@[simp] theorem Out.loop_stuck (wp : List Nat) (k : AS → Out) : Out.stuck.loop wp k = .stuck := rfl
theorem PostS.loop {K : PySem.W.Frag} {mg : Str → Option Value} {G : Gd} {B : Hp} {En : Ends} {o : Out} {wp : List Nat} {kk : AS → Out} {nx : L2.St → Hp → Prop} (h : PostS K mg G W B En (o.loop wp kk)) (hk : ∀ S' σ' B' H', Ex B B' → Rep K G B' S' σ' H' → PostS K mg G W B' En (kk S') → nx σ' H') : PostS K mg G W B { En with nx := nx, ct := nx, bk := En.nx } o := by
  cases o with
  | nx S => exact fun B1 σ1 H1 e1 r1 => hk _ σ1 B1 H1 e1 (rep_wipe r1 wp) (h.mono e1)
  | ct S => exact fun B1 σ1 H1 e1 r1 => hk _ σ1 B1 H1 e1 (rep_wipe r1 wp) (h.mono e1)
  | bk S => exact h
  | rt r S => exact h
  | exc c w S => exact h
  | stuck => exact h
def gWhile (t : AS → Rs Bool) (b : AS → Out) (wp : List Nat) : Nat → AS → Out
  | 0, _ => .stuck
  | n + 1, S => (t S).out fun c S1 => if c = true then (b S1).loop wp (gWhile t b wp n) else .nx S1
theorem s_while (C : Ctx X W k) (wp : List Nat) (n : Nat) (h : DT X W c ft) (hb : DSs X W sts f) : DS X W (.While c sts [] pos) (gWhile ft f wp n) := by
  obtain ⟨t, p, q⟩ := h.run
  obtain ⟨tb, pb, qb⟩ := hb.run
  refine ⟨_, ps_while C.po p pb, fun G B S σ H En r po => ?_⟩
  refine ⟨fun m σ H => ∃ B' S', Rep X.K G B' S' σ H ∧ PostS X.K X.mg G W B' En (gWhile ft f wp m S'), ⟨n, B, S, r, po⟩, ?_⟩
  rintro m σ H ⟨B, S, r, po⟩
  cases m with
  | zero => exact po.elim
  | succ m =>
    refine q G B S σ H _ r (po.expr fun x S1 v B1 H1 e1 r1 x1 po1 => ?_)
    have x1 : v = x := x1
    subst x1
    cases v with
    | false => exact po1 B1 σ H1 (Ex.refl _) r1
    | true =>
      refine ⟨fun σ' H' => ∃ B' S', Rep X.K G B' S' σ' H' ∧ PostS X.K X.mg G W B' En (gWhile ft f wp m S'), fun σ' H' hN => ⟨m, Nat.lt_succ_self m, hN⟩, ?_⟩
      exact qb G B1 S1 σ H1 _ r1 (po1.loop fun S' σ' B' H' e' r' po' => ⟨B', S', r', po'⟩)

/-! ### what is walked -/
structure ItOk (K : PySem.W.Frag) (J : It) (ds : List D) (B : Hp) : Prop where
  go : ∀ (i : Nat) (d : D) (G : Gd) (B' : Hp) (S : AS) (σ : L2.St) (H' : Hp), ds[i]? = some d → Ex B B' → Rep K G B' S σ H' → J.go i H' ∧ ∀ x H'', J.yld i H' x H'' → ∃ B'', Ex B' B'' ∧ Rep K G B'' S σ H'' ∧ Dq K B'' x d
  stop : ∀ (i : Nat) (G : Gd) (B' : Hp) (S : AS) (σ : L2.St) (H' : Hp), ds.length ≤ i → Ex B B' → Rep K G B' S σ H' → J.stop i H'
abbrev RI (K : PySem.W.Frag) : Hp → AS → Hp → It → List D → Prop := fun B _ _ J ds => ItOk K J ds B
structure DI (X : Cx) (W : XK) (tg iter : Expr) (f : AS → Rs (List D)) : Prop where
  run : ∃ wi, PI X tg iter wi ∧ ∀ G B S σ H R, Rep X.K G B S σ H → Post X.K X.mg G W B σ (RI X.K) R (f S) → wi σ H R
theorem rd_inj {X : Cx} {H : Hp} {a : Addr} {xs ys : List V} (h : Rd H a (.lst xs)) (g : Rd H a (.lst ys)) : xs = ys := by
  rcases h with h | ⟨o, h⟩ <;> rcases g with g | ⟨o', g⟩ <;> rw [h] at g <;> cases g <;> rfl
def fSeq (f : AS → Rs D) : AS → Rs (List D) := fun S => (f S).bind fun d S1 => match d with
  | .list ds => .ok ds S1
  | _ => .stuck
def fTupI (f : AS → Rs D) : AS → Rs (List D) := fun S => (f S).bind fun d S1 => match d with
  | .tuple ds => .ok ds S1
  | _ => .stuck
def signs (x : Str) : List D := x.cps.toList.map fun c => PyData.str ⟨#[c]⟩
def fStrI (f : AS → Rs D) : AS → Rs (List D) := fun S => (f S).bind fun d S1 => match d with
  | .str x => .ok (signs x) S1
  | _ => .stuck
theorem itl_ok {K : PySem.W.Frag} {a : Addr} {vs : List V} {ds : List D} {B : Hp} (s : SqL K B a vs) (al : DqAll K B vs ds) : ItOk K (Itl K a) ds B := by
  refine ⟨fun i d G B' S σ H' hi e r => ?_, fun i G B' S σ H' hi e r => ?_⟩
  · obtain ⟨v, h1, h2⟩ := al.get hi
    have hS : SqL K H' a vs := (rd_H r (sqL_mono e s))
    refine ⟨⟨vs, v, hS, h1⟩, fun x H'' hy => ?_⟩
    obtain ⟨rfl, f⟩ := hy
    have := f vs hS
    rw [h1] at this
    cases this
    exact ⟨B', Ex.refl _, r, dq_mono e _ _ h2⟩
  · exact ⟨vs, (rd_H r (sqL_mono e s)), by rw [al.length]; exact hi⟩
theorem itt_ok {K : PySem.W.Frag} {a : Addr} {vs : List V} {ds : List D} {B : Hp} (s : SqT K B a vs) (al : DqAll K B vs ds) : ItOk K (Itt K a) ds B := by
  refine ⟨fun i d G B' S σ H' hi e r => ?_, fun i G B' S σ H' hi e r => ?_⟩
  · obtain ⟨v, h1, h2⟩ := al.get hi
    have hS : SqT K H' a vs := sqT_H r (sqT_mono e s)
    refine ⟨⟨vs, v, hS, h1⟩, fun x H'' hy => ?_⟩
    obtain ⟨rfl, f⟩ := hy
    have := f vs hS
    rw [h1] at this
    cases this
    exact ⟨B', Ex.refl _, r, dq_mono e _ _ h2⟩
  · exact ⟨vs, sqT_H r (sqT_mono e s), by rw [al.length]; exact hi⟩
theorem its_ok {K : PySem.W.Frag} {x : Str} {B : Hp} (h : PyData.strOk x = true) : ItOk K (Its x) (signs x) B := by
  refine ⟨fun i d G B' S σ H' hi e r => ?_, fun i G B' S σ H' hi e r => ?_⟩
  · unfold signs at hi
    rw [List.getElem?_map] at hi
    cases hc : x.cps.toList[i]? with
    | none => rw [hc] at hi; cases hi
    | some c =>
      rw [hc] at hi
      cases hi
      have hlt : i < x.cps.toList.length := (List.getElem?_eq_some_iff.mp hc).1
      refine ⟨show i < x.cps.size by simpa using hlt, fun v H'' hy => ?_⟩
      obtain ⟨rfl, c', h1, rfl⟩ := hy
      have : c' = c := by
        have h2 : x.cps.toList[i]? = some c' := by rw [Array.getElem?_toList]; exact h1
        rw [hc] at h2
        exact (Option.some.inj h2).symm
      subst this
      exact ⟨B', Ex.refl _, r, .str _ (strOk_one h (List.mem_of_getElem? hc))⟩
  · show x.cps.size ≤ i
    unfold signs at hi
    simpa using hi
def rangeD (lo : Int) (n : Nat) : List D := (List.range n).map fun (i : Nat) => PyData.int (lo + i)
theorem itr_ok {K : PySem.W.Frag} {lo : Int} {n : Nat} {B : Hp} : ItOk K (Itr lo n) (rangeD lo n) B := by
  refine ⟨fun i d G B' S σ H' hi e r => ?_, fun i G B' S σ H' hi e r => ?_⟩
  · unfold rangeD at hi
    rw [List.getElem?_map] at hi
    cases hc : (List.range n)[i]? with
    | none => rw [hc] at hi; cases hi
    | some c =>
      rw [hc] at hi
      cases hi
      obtain ⟨h1, h2⟩ := List.getElem?_eq_some_iff.mp hc
      have h1' : i < n := by simpa using h1
      have : c = i := by rw [← h2]; simp
      subst this
      refine ⟨h1', fun v H'' hy => ?_⟩
      obtain ⟨rfl, rfl⟩ := hy
      exact ⟨B', Ex.refl _, r, .int _⟩
  · show n ≤ i
    unfold rangeD at hi
    simpa using hi
theorem i_list {tg : Expr} (h : DD X W e fd) : DI X W tg e (fSeq fd) := by
  obtain ⟨t, p, q⟩ := h.run
  refine ⟨_, pi_list p, fun G B S σ H R r po => q G B S σ H _ r (po.seq fun d S1 v B1 H1 e1 r1 x1 po1 => ?_)⟩
  split at po1
  · cases x1 with | lst s al => exact ⟨_, rfl, ⟨_, (rd_H r1 s)⟩, po1 _ B1 H1 (Ex.refl _) r1 (itl_ok s al)⟩
  · exact po1.elim
theorem i_tup {tg : Expr} (h : DD X W e fd) : DI X W tg e (fTupI fd) := by
  obtain ⟨t, p, q⟩ := h.run
  refine ⟨_, pi_tup p, fun G B S σ H R r po => q G B S σ H _ r (po.seq fun d S1 v B1 H1 e1 r1 x1 po1 => ?_)⟩
  split at po1
  · cases x1 with | tup s al => exact ⟨_, rfl, ⟨_, sqT_H r1 s⟩, po1 _ B1 H1 (Ex.refl _) r1 (itt_ok s al)⟩
  · exact po1.elim
theorem i_str {tg : Expr} (h : DD X W e fd) : DI X W tg e (fStrI fd) := by
  obtain ⟨t, p, q⟩ := h.run
  refine ⟨_, pi_str p, fun G B S σ H R r po => q G B S σ H _ r (po.seq fun d S1 v B1 H1 e1 r1 x1 po1 => ?_)⟩
  split at po1
  · cases x1 with | str _ s => exact ⟨_, rfl, po1 _ B1 H1 (Ex.refl _) r1 (its_ok s)⟩
  · exact po1.elim
def rgOk (i : Int) : Bool := Nat.ble i.natAbs 4611686018427387903
theorem rgOk_lo {i : Int} (h : rgOk i = true) : -(2 ^ 62) ≤ i := by
  have := Nat.le_of_ble_eq_true h
  omega
theorem rgOk_hi {i : Int} (h : rgOk i = true) : i < 2 ^ 62 := by
  have := Nat.le_of_ble_eq_true h
  omega
def fRg1 (f : AS → Rs D) : AS → Rs (List D) := fun S => (f S).bind fun d S1 => match d with
  | .int j => if rgOk j = true then .ok (rangeD 0 j.toNat) S1 else .stuck
  | _ => .stuck
def fRg2 (f g : AS → Rs D) : AS → Rs (List D) := fun S => (f S).bind fun d S1 => (g S1).bind fun d2 S2 => match d, d2 with
  | .int i, .int j => if (rgOk i && rgOk j) = true then .ok (rangeD i (j - i).toNat) S2 else .stuck
  | _, _ => .stuck
theorem i_rg1 {tg : Expr} {p pos : Pos} (h : DD X W a fd) (hm : X.mg "range" = none) (hg : Gl X "range" := by rfl) (hs : starEach [a] X.env = [(false, eval a X.env)] := by rfl) : DI X W tg (.Call (.Name "range" p) [a] [] pos) (fRg1 fd) := by
  obtain ⟨t, pp, q⟩ := h.run
  refine ⟨_, pi_range1 hg hm (pa_cons pp pa_nil hs) hs, fun G B S σ H R r po => q G B S σ H _ r (po.seq fun d S1 v B1 H1 e1 r1 x1 po1 => ?_)⟩
  split at po1
  · split at po1
    · rename_i hj
      cases x1
      exact ⟨_, rfl, rgOk_lo hj, rgOk_hi hj, po1 _ B1 H1 (Ex.refl _) r1 itr_ok⟩
    · exact po1.elim
  · exact po1.elim
theorem i_rg2 {tg : Expr} {p pos : Pos} (h : DD X W a fd) (h2 : DD X W b gd) (hm : X.mg "range" = none) (hg : Gl X "range" := by rfl) (hs : starEach [a, b] X.env = [(false, eval a X.env), (false, eval b X.env)] := by rfl) (hs2 : starEach [b] X.env = [(false, eval b X.env)] := by rfl) : DI X W tg (.Call (.Name "range" p) [a, b] [] pos) (fRg2 fd gd) := by
  obtain ⟨t, pp, q⟩ := h.run
  obtain ⟨t2, pp2, q2⟩ := h2.run
  refine ⟨_, pi_range2 hg hm (pa_cons pp (pa_cons pp2 pa_nil hs2) (by rw [hs, hs2])) hs hs2, fun G B S σ H R r po => q G B S σ H _ r (po.seq fun d S1 v B1 H1 e1 r1 x1 po1 => ?_)⟩
  refine q2 G B1 S1 σ H1 _ r1 (po1.seq fun d2 S2 w B2 H2 e2 r2 x2 po2 => ?_)
  split at po2
  · split at po2
    · rename_i hj
      rw [Bool.and_eq_true] at hj
      cases x1
      cases x2
      exact ⟨_, _, rfl, ⟨rgOk_lo hj.1, rgOk_hi hj.1, rgOk_lo hj.2, rgOk_hi hj.2⟩, po2 _ B2 H2 (Ex.refl _) r2 itr_ok⟩
    · exact po2.elim
  · exact po2.elim
def zipD (xs ys : List D) : List D := (xs.zip ys).map fun p => PyData.tuple [p.1, p.2]
theorem itz_go {K : PySem.W.Frag} {G : Gd} {B H : Hp} {S : AS} {σ : L2.St} {T : Addr} {x y : V} {dx dy : D} (r : Rep K G B S σ H) (hT : H T = none) (hx : Dq K B x dx) (hy : Dq K B y dy) :
    ∃ B'', Ex B B'' ∧ Rep K G B'' S σ (upd H T (.tup [x, y])) ∧ Dq K B'' (.ref T) (.tuple [dx, dy]) := by
  have e : Ex B (upd B T (.tup [x, y])) := Ex.new (r.g.bh.fresh hT)
  exact ⟨_, e, r.new hT fun ps z => (by cases z), .tup (.inl (.inl upd_same)) (.cons (dq_mono e _ _ hx) (.cons (dq_mono e _ _ hy) .nil))⟩
theorem zip_get {xs ys : List D} {i : Nat} {d : D} (h : (zipD xs ys)[i]? = some d) : ∃ x y, xs[i]? = some x ∧ ys[i]? = some y ∧ d = .tuple [x, y] := by
  unfold zipD at h
  rw [List.getElem?_map] at h
  cases hz : (xs.zip ys)[i]? with
  | none => rw [hz] at h; cases h
  | some p =>
    rw [hz] at h
    cases h
    rw [List.getElem?_zip_eq_some] at hz
    exact ⟨p.1, p.2, hz.1, hz.2, rfl⟩
theorem itzL_ok {K : PySem.W.Frag} {a b : Addr} {vs ws : List V} {ds es : List D} {B : Hp} (s : SqL K B a vs) (al : DqAll K B vs ds) (s2 : SqL K B b ws) (al2 : DqAll K B ws es) : ItOk K (Itz K a b) (zipD ds es) B := by
  refine ⟨fun i d G B' S σ H' hi e r => ?_, fun i G B' S σ H' hi e r => ?_⟩
  · obtain ⟨dx, dy, hx, hy, rfl⟩ := zip_get hi
    obtain ⟨x, h1, h2⟩ := al.get hx
    obtain ⟨y, h3, h4⟩ := al2.get hy
    have hS : SqL K H' a vs := (rd_H r (sqL_mono e s))
    have hS2 : SqL K H' b ws := (rd_H r (sqL_mono e s2))
    refine ⟨⟨vs, ws, x, y, hS, hS2, h1, h3⟩, fun v H'' hyy => ?_⟩
    obtain ⟨T, x', y', rfl, hT, rfl, f, g⟩ := hyy
    have e1 := f _ hS
    have e2 := g _ hS2
    rw [h1] at e1
    rw [h3] at e2
    cases e1
    cases e2
    exact itz_go r hT (dq_mono e _ _ h2) (dq_mono e _ _ h4)
  · refine ⟨vs, ws, (rd_H r (sqL_mono e s)), (rd_H r (sqL_mono e s2)), ?_⟩
    have : (zipD ds es).length = min ds.length es.length := by unfold zipD; rw [List.length_map, List.length_zip]
    rw [al.length, al2.length]
    omega
theorem itzT_ok {K : PySem.W.Frag} {a b : Addr} {vs ws : List V} {ds es : List D} {B : Hp} (s : SqT K B a vs) (al : DqAll K B vs ds) (s2 : SqT K B b ws) (al2 : DqAll K B ws es) : ItOk K (RZ.ItzT K a b) (zipD ds es) B := by
  refine ⟨fun i d G B' S σ H' hi e r => ?_, fun i G B' S σ H' hi e r => ?_⟩
  · obtain ⟨dx, dy, hx, hy, rfl⟩ := zip_get hi
    obtain ⟨x, h1, h2⟩ := al.get hx
    obtain ⟨y, h3, h4⟩ := al2.get hy
    have hS : SqT K H' a vs := sqT_H r (sqT_mono e s)
    have hS2 : SqT K H' b ws := sqT_H r (sqT_mono e s2)
    refine ⟨⟨vs, ws, x, y, hS, hS2, h1, h3⟩, fun v H'' hyy => ?_⟩
    obtain ⟨T, x', y', rfl, hT, rfl, f, g⟩ := hyy
    have e1 := f _ hS
    have e2 := g _ hS2
    rw [h1] at e1
    rw [h3] at e2
    cases e1
    cases e2
    exact itz_go r hT (dq_mono e _ _ h2) (dq_mono e _ _ h4)
  · refine ⟨vs, ws, sqT_H r (sqT_mono e s), sqT_H r (sqT_mono e s2), ?_⟩
    have : (zipD ds es).length = min ds.length es.length := by unfold zipD; rw [List.length_map, List.length_zip]
    rw [al.length, al2.length]
    omega
def kZip : List D → AS → Rs (List D)
  | [.list xs, .list ys], S => .ok (zipD xs ys) S
  | [.tuple xs, .tuple ys], S => .ok (zipD xs ys) S
  | _, _ => .stuck
def fZip (f : AS → Rs (List D)) : AS → Rs (List D) := fun S => (f S).bind kZip
theorem i_zip {elts : List Expr} {kk : Nat} {tpos p : Pos} (h : DA X W [a, b] fa) (hm : X.mg "zip" = none) (hg : Gl X "zip" := by rfl) (hs : starEach [a, b] X.env = (false, eval a X.env) :: starEach [b] X.env := by rfl) (hpl : (backTo pos (starEach [b] X.env)).any (·.1) = false := by rfl) :
    DI X W (.Tuple elts kk tpos) (.Call (.Name "zip" p) [a, b] [] pos) (fZip fa) := by
  obtain ⟨t, pp, q⟩ := h.run
  refine ⟨_, RZ.pi_zipA hg hm pp hs hpl, fun G B S σ H R r po => q G B S σ H _ r (po.seq fun ds S1 vs B1 H1 e1 r1 x1 po1 => ?_)⟩
  unfold kZip at po1
  split at po1
  · cases x1 with | cons h t => cases t with | cons h' t => cases t; cases h with | lst s al => cases h' with | lst s2 al2 =>
    exact ⟨_, _, _, _, rfl, .inl ⟨(rd_H r1 s), (rd_H r1 s2), po1 _ B1 H1 (Ex.refl _) r1 (itzL_ok s al s2 al2)⟩⟩
  · cases x1 with | cons h t => cases t with | cons h' t => cases t; cases h with | tup s al => cases h' with | tup s2 al2 =>
    exact ⟨_, _, _, _, rfl, .inr ⟨sqT_H r1 s, sqT_H r1 s2, po1 _ B1 H1 (Ex.refl _) r1 (itzT_ok s al s2 al2)⟩⟩
  · exact po1.elim

/-! ### targets -/
structure DG (X : Cx) (tg : Expr) (bd : D → AS → Option AS) : Prop where
  run : ∃ t, PG X tg t ∧ ∀ (G : Gd) (B : Hp) (S S' : AS) (σ : L2.St) (H : Hp) (v : V) (d : D) (Q : L2.St → Hp → Prop), Rep X.K G B S σ H → Dq X.K B v d → bd d S = some S' → (∀ σ', Rep X.K G B S' σ' H → Q σ' H) → t v σ H Q
def bName (i : Nat) : D → AS → Option AS := fun d S => some (S.set i (some (.dat d)))
def bTup (is : List Nat) : D → AS → Option AS := fun d S => match d with
  | .tuple ds => setAll is ds S
  | _ => none
theorem g_name (i : Nat) {x : Str} {px : Pos} (nd : X.N.Nodup) (hi : X.N[i]? = some x := by rfl) (hx : Loc X.env.scope x := by first | exact Or.inl rfl | exact Or.inr rfl) (hf : X.fn x = true ∨ X.env.scope.names.lookup x = some .local := by first | exact .inl rfl | exact .inr rfl | assumption) : DG X (.Name x px) (bName i) := by
  refine ⟨_, pg_name nd hi hx hf, fun G B S S' σ H v d Q r hd e q => ?_⟩
  cases e
  exact q _ (r.setR (r := .dat d) hd)
theorem setAll_len : ∀ (is : List Nat) (ds : List PyData) (S S' : AS), setAll is ds S = some S' → is.length = ds.length := by
  intro is
  induction is with
  | nil => intro ds S S' h; cases ds with | nil => rfl | cons _ _ => cases h
  | cons i is ih => intro ds S S' h; cases ds with | nil => cases h | cons d ds => rw [List.length_cons, List.length_cons, ih ds _ S' h]
theorem g_tup {kt} {pt : Pos} (hc : X.calm = true) (hu : UnpOk X ts is) (hst : (assignEach ts X.env).findIdx? (·.1) = none := by rfl) : DG X (.Tuple ts kt pt) (bTup is) := by
  obtain ⟨t, p, l, q⟩ := hu.run
  refine ⟨_, pg_tup hc p l hst, fun G B S S' σ H v d Q r hd e qq => ?_⟩
  unfold bTup at e
  split at e
  · cases hd with | tup s al =>
    exact ⟨_, _, rfl, sqT_H r s, by rw [al.length, setAll_len _ _ _ _ e], q G B S S' σ H _ _ _ r al e qq⟩
  · cases e

/-! ### for -/
def gFor (bd : D → AS → Option AS) (b : AS → Out) (wp : List Nat) : List D → AS → Out
  | [], S => .nx S
  | d :: ds, S => match bd d S with
    | some S1 => (b S1).loop wp (gFor bd b wp ds)
    | none => .stuck
def gForI (fi : AS → Rs (List D)) (bd : D → AS → Option AS) (b : AS → Out) (wp : List Nat) : AS → Out := fun S => (fi S).out (gFor bd b wp)
theorem s_for (C : Ctx X W k) (wp : List Nat) {tg iter : Expr} {fi : AS → Rs (List D)} {bd : D → AS → Option AS} (hi : DI X W tg iter fi) (hg : DG X tg bd) (hb : DSs X W sts f)
    (hs : ∀ x, foldedSetIterable iter X.env x = pure x := by intro _; rfl) : DS X W (.For tg iter sts [] pos) (gForI fi bd f wp) := by
  obtain ⟨wi, p, q⟩ := hi.run
  obtain ⟨tg', pg, qg⟩ := hg.run
  obtain ⟨tb, pb, qb⟩ := hb.run
  refine ⟨_, ps_for C.po C.calm p pg pb hs, fun G B S σ H En r po => q G B S σ H _ r (po.expr fun ds S1 J B1 H1 e1 r1 it po1 => ?_)⟩
  refine ⟨fun i m σ H => ∃ B' S', Ex B1 B' ∧ Rep X.K G B' S' σ H ∧ i + m = ds.length ∧ PostS X.K X.mg G W B' En (gFor bd f wp (ds.drop i) S'), ⟨ds.length, B1, S1, Ex.refl _, r1, by omega, po1⟩, ?_⟩
  rintro i m σ H ⟨B', S', e', r', em, po'⟩
  cases m with
  | zero =>
    have hi : ds.length ≤ i := by omega
    rw [List.drop_of_length_le hi] at po'
    exact .inl ⟨it.stop i G B' S' σ H hi e' r', po' B' σ H (Ex.refl _) r'⟩
  | succ m =>
    have hi : i < ds.length := by omega
    have hd : ds[i]? = some ds[i] := List.getElem?_eq_getElem hi
    rw [List.drop_eq_getElem_cons hi] at po'
    obtain ⟨g1, g2⟩ := it.go i _ G B' S' σ H hd e' r'
    refine .inr ⟨g1, fun σ' H' => ∃ B'' S'', Ex B1 B'' ∧ Rep X.K G B'' S'' σ' H' ∧ i + 1 + m = ds.length ∧ PostS X.K X.mg G W B'' En (gFor bd f wp (ds.drop (i + 1)) S''), fun σ' H' hN => ⟨m, Nat.lt_succ_self m, hN⟩, fun x H' hy => ?_⟩
    obtain ⟨B2, e2, r2, d2⟩ := g2 x H' hy
    cases hbd : bd ds[i] S' with
    | none => simp only [gFor, hbd] at po'; exact po'.elim
    | some S2 =>
      simp only [gFor, hbd] at po'
      refine qg G B2 S' S2 σ H' x _ _ r2 d2 hbd fun σ2 r3 => ?_
      exact qb G B2 S2 σ2 H' _ r3 ((po'.mono e2).loop fun S4 σ4 B4 H4 e4 r4 po4 => ⟨B4, S4, e'.trans (e2.trans e4), r4, by omega, po4⟩)

/-! ### comprehensions -/
def fComp (bd : D → AS → Option AS) (t : AS → Rs Bool) (f : AS → Rs D) (vs : List Nat) : List D → AS → List D → Rs (List D)
  | [], S, acc => .ok acc S
  | d :: ds, S, acc => match bd d S with
    | some S1 => (match t S1 with
      | .ok true S2 => (match f S2 with
        | .ok y S3 => if small (acc.length + 2) = true then fComp bd t f vs ds (wipeS S3 vs) (acc ++ [y]) else .stuck
        | _ => .stuck)
      | .ok false S2 => fComp bd t f vs ds (wipeS S2 vs) acc
      | _ => .stuck)
    | none => .stuck
def fLc (fi : AS → Rs (List D)) (bd : D → AS → Option AS) (t : AS → Rs Bool) (f : AS → Rs D) (vs : List Nat) : AS → Rs SV := fun S => (fi S).bind fun ds S1 => (fComp bd t f vs ds (wipeS S1 vs) []).bind fun acc S2 => .ok (.own acc) (wipeS S2 vs)
/-- the tests of a clause -/
structure DTs (X : Cx) (W : XK) (ifs : List Expr) (f : AS → Rs Bool) : Prop where
  run : ∃ t, PTs X ifs t ∧ ∀ G B S σ H Q, Rep X.K G B S σ H → Post X.K X.mg G W B σ RT Q (f S) → t σ H Q
theorem ts_nil : DTs X W [] (fun S => .ok true S) := ⟨_, pts_nil, fun G B S σ H Q r po => po _ B H (Ex.refl _) r rfl⟩
theorem ts_one (h : DT X W c ft) : DTs X W [c] ft := by
  obtain ⟨t, p, q⟩ := h.run
  exact ⟨_, pts_one p, q⟩
theorem DTs.pts {ifs : List Expr} (h : DTs X W ifs ft) : PTs X ifs (cT X.K X.mg W ft) := by
  obtain ⟨t, p, q⟩ := h.run
  exact ⟨fun pins s σ H Q I ⟨G, B, S, r, po⟩ => p.run pins s σ H Q I (q G B S σ H Q r po)⟩
def cG (K : PySem.W.Frag) (bd : D → AS → Option AS) : TG := fun v σ H Q => ∃ G B S S' d, Rep K G B S σ H ∧ Dq K B v d ∧ bd d S = some S' ∧ ∀ σ', Rep K G B S' σ' H → Q σ' H
theorem DG.pg {tg : Expr} {bd : D → AS → Option AS} (h : DG X tg bd) : PG X tg (cG X.K bd) := by
  obtain ⟨t, p, q⟩ := h.run
  exact ⟨fun pins s σ H v u Q I rv ⟨G, B, S, S', d, r, hd, e, qq⟩ => p.run pins s σ H v u Q I rv (q G B S S' σ H v d Q r hd e qq)⟩

/-- a new list that no name holds is written -/
theorem Rep.writeT {K : PySem.W.Frag} {G : Gd} {B H : Hp} {S : AS} {σ : L2.St} {a : Addr} {ds ds' : List D} {vs' : List V} (r : Rep K G B S σ H) (q : ResR K G B S σ H (.ref a) (.own ds)) (al : DqAll K B vs' ds') :
    Rep K G B S σ (upd H a (.lst vs')) ∧ ResR K G B S σ (upd H a (.lst vs')) (.ref a) (.own ds') := by
  obtain ⟨a', vs, e0, h1, h2, h3, h4, h5⟩ := q
  cases e0
  refine ⟨⟨⟨r.g.b0, r.g.bn, fun b o q => ?_, r.g.nt, fun b o q hp hu => ?_, fun b q => ?_, tabs_upd r.g.tb h1, r.g.pa, r.g.ht, pl_upd r.g.pl⟩, r.len, fun j sv e => ?_, r.ds, r.pj, r.pn⟩, a, vs', rfl, upd_same, h2, h3, al, h5⟩
  · have : b ≠ a := fun z => by subst z; rw [h2] at q; cases q
    rw [upd_ne this]
    exact r.g.bh b o q
  · have : b ≠ a := fun z => by subst z; rw [h3] at q; cases q
    rw [upd_ne this]
    exact r.g.fr b o q hp hu
  · by_cases hb : b = a
    · subst hb; exact h3
    · rw [upd_ne hb] at q; exact r.g.dm b q
  · obtain ⟨v, e1, e2⟩ := r.sl j sv e
    refine ⟨v, e1, ?_⟩
    cases sv with
    | exn _ _ _ => exact ExnR.upd e2 h1
    | dat d => exact e2
    | own es =>
      obtain ⟨b, ws, rfl, g1, g2, g3, g4⟩ := e2
      have : b ≠ a := fun z => by subst z; exact h5 j es e e1
      exact ⟨b, ws, rfl, by rw [upd_ne this]; exact g1, g2, g3, g4⟩
    | par k es =>
      obtain ⟨b, ws, rfl, g1, g2, g3⟩ := e2
      have : b ≠ a := fun z => by subst z; exact (r.g.pa b (List.mem_of_getElem? g1)).2 h3
      exact ⟨b, ws, rfl, g1, by rw [upd_ne this]; exact g2, g3⟩
/-- a result, when the frame is another one but for names forgotten -/
theorem res_over {K : PySem.W.Frag} {G : Gd} {B H : Hp} {S : AS} {σ σ' : L2.St} {vs : List Nat} {v : V} {r : SV} (q : ResR K G B S σ H v r) (e : wipe σ vs = wipe σ' vs) : ResR K G B (wipeS S vs) σ' H v r := by
  cases r with
  | exn _ _ _ => exact q.elim
  | dat d => exact q
  | par _ _ => exact q.elim
  | own ds =>
    obtain ⟨a, ws, rfl, h1, h2, h3, h4, h5⟩ := q
    refine ⟨a, ws, rfl, h1, h2, h3, h4, fun i x e1 e2 => ?_⟩
    have hn := wipeS_none e1
    have e1' : S[i]? = some (some (.own x)) := by
      have : ∀ vs : List Nat, i ∉ vs → (wipeS S vs)[i]? = S[i]? := by
        intro vs
        induction vs with
        | nil => intro _; rfl
        | cons v vs ih =>
          intro h
          have h1 : v ≠ i := fun z => h (by simp [z])
          show ((wipeS S vs).set v none)[i]? = _
          rw [List.getElem?_set_ne h1]
          exact ih fun z => h (List.mem_cons_of_mem _ z)
      rw [← this vs hn]; exact e1
    refine h5 i x e1' ?_
    rw [← wipe_ne (σ := σ) hn, e, wipe_ne hn]
    exact e2
/-- what the block's rules ask of the frame: the target stores in the block's own names alone -/
theorem wipe_set {σ : L2.St} {i : Nat} {o : Option V} {vs : List Nat} (h : i ∈ vs) : wipe (σ.set i o) vs = wipe σ vs := by
  apply List.ext_getElem?
  intro j
  by_cases hj : j ∈ vs
  · have key : ∀ (σ : L2.St) (vs : List Nat), j ∈ vs → (wipe σ vs)[j]? = if j < σ.length then some none else none := by
      intro σ vs
      induction vs with
      | nil => intro h; cases h
      | cons v vs ih =>
        intro h
        show ((wipe σ vs).set v none)[j]? = _
        by_cases hv : v = j
        · subst hv
          rw [List.getElem?_set]
          rw [if_pos rfl, wipe_length]
        · rw [List.getElem?_set_ne hv]
          rcases List.mem_cons.mp h with e | h
          · exact absurd e.symm hv
          · exact ih h
    rw [key _ _ hj, key _ _ hj, List.length_set]
  · rw [wipe_ne hj, wipe_ne hj]
    have : i ≠ j := fun z => by subst z; exact hj h
    rw [List.getElem?_set_ne this]
section
variable {X : Cx} {W : XK} {k : Nat} {e a b c elt tg iter : Expr} {ifs rest es ts : List Expr} {is : List Nat} {pos : Pos} {scope : Scope} {own : List (Str × Nat)} {fi : AS → Rs (List D)} {bd : D → AS → Option AS} {ft : AS → Rs Bool} {fe : AS → Rs D}
/-- a target that stores in these names alone -/
structure DGw (X : Cx) (vs : List Nat) (tg : Expr) (bd : D → AS → Option AS) : Prop where
  run : ∃ t, PG X tg t ∧ ∀ (G : Gd) (B : Hp) (S S' : AS) (σ : L2.St) (H : Hp) (v : V) (d : D) (Q : L2.St → Hp → Prop), Rep X.K G B S σ H → Dq X.K B v d → bd d S = some S' → (∀ σ', wipe σ' vs = wipe σ vs → Rep X.K G B S' σ' H → Q σ' H) → t v σ H Q
theorem gw_name (vs : List Nat) (i : Nat) {x : Str} {px : Pos} (nd : X.N.Nodup) (hv : i ∈ vs) (hi : X.N[i]? = some x := by rfl) (hx : Loc X.env.scope x := by first | exact Or.inl rfl | exact Or.inr rfl) (hf : X.fn x = true ∨ X.env.scope.names.lookup x = some .local := by first | exact .inl rfl | exact .inr rfl | assumption) : DGw X vs (.Name x px) (bName i) := by
  refine ⟨_, pg_name nd hi hx hf, fun G B S S' σ H v d Q r hd e q => ?_⟩
  cases e
  exact q _ (wipe_set hv) (r.setR (r := .dat d) hd)
structure UnpW (X : Cx) (vs : List Nat) (ts : List Expr) (is : List Nat) : Prop where
  run : ∃ t, PGs X ts t ∧ (assignEach ts X.env).length = is.length ∧ ∀ (G : Gd) (B : Hp) (S S' : AS) (σ : L2.St) (H : Hp) (ws : List V) (ds : List D) (Q : L2.St → Hp → Prop), Rep X.K G B S σ H → DqAll X.K B ws ds → setAll is ds S = some S' → (∀ σ', wipe σ' vs = wipe σ vs → Rep X.K G B S' σ' H → Q σ' H) → t ws σ H Q
theorem uw_nil {vs : List Nat} : UnpW X vs [] [] := by
  refine ⟨_, pgs_nil, rfl, fun G B S S' σ H ws ds Q r al e q => ?_⟩
  cases al with
  | nil => cases e; exact ⟨rfl, q σ rfl r⟩
  | cons _ _ => cases e
theorem uw_cons {vs : List Nat} (i : Nat) {x : Str} {px : Pos} (nd : X.N.Nodup) (hv : i ∈ vs) (h : UnpW X vs ts is) (hi : X.N[i]? = some x := by rfl) (hx : Loc X.env.scope x := by first | exact Or.inl rfl | exact Or.inr rfl) (hf : X.fn x = true ∨ X.env.scope.names.lookup x = some .local := by first | exact .inl rfl | exact .inr rfl | assumption)
    (hs : (assignEach (.Name x px :: ts) X.env).map (·.2) = assign (.Name x px) X.env :: (assignEach ts X.env).map (·.2) := by rfl) : UnpW X vs (.Name x px :: ts) (i :: is) := by
  obtain ⟨t, p, l, q⟩ := h.run
  refine ⟨_, pgs_cons (pg_name nd hi hx hf) p hs, ?_, fun G B S S' σ H ws ds Q r al e qq => ?_⟩
  · have := congrArg List.length hs
    simp only [List.length_map, List.length_cons] at this
    rw [List.length_cons, ← l]
    exact this
  · cases al with
    | nil => cases e
    | cons h1 t1 =>
      refine ⟨_, _, rfl, ?_⟩
      exact q G B _ S' _ H _ _ Q (r.setR (r := .dat _) h1) t1 e fun σ' hw r' => qq σ' (hw.trans (wipe_set hv)) r'
theorem gw_tup {vs : List Nat} {kt} {pt : Pos} (hc : X.calm = true) (hu : UnpW X vs ts is) (hst : (assignEach ts X.env).findIdx? (·.1) = none := by rfl) : DGw X vs (.Tuple ts kt pt) (bTup is) := by
  obtain ⟨t, p, l, q⟩ := hu.run
  refine ⟨_, pg_tup hc p l hst, fun G B S S' σ H v d Q r hd e qq => ?_⟩
  unfold bTup at e
  split at e
  · cases hd with | tup s al =>
    exact ⟨_, _, rfl, sqT_H r s, by rw [al.length, setAll_len _ _ _ _ e], q G B S S' σ H _ _ _ r al e qq⟩
  · cases e
def cGw (K : PySem.W.Frag) (vs : List Nat) (bd : D → AS → Option AS) : TG := fun v σ H Q => ∃ G B S S' d, Rep K G B S σ H ∧ Dq K B v d ∧ bd d S = some S' ∧ ∀ σ', wipe σ' vs = wipe σ vs → Rep K G B S' σ' H → Q σ' H
theorem DGw.pg {vs : List Nat} (h : DGw X vs tg bd) : PG X tg (cGw X.K vs bd) := by
  obtain ⟨t, p, q⟩ := h.run
  exact ⟨fun pins s σ H v u Q I rv ⟨G, B, S, S', d, r, hd, e, qq⟩ => p.run pins s σ H v u Q I rv (q G B S S' σ H v d Q r hd e qq)⟩
/-- the reading of a comprehension -/
theorem lc_run {K : PySem.W.Frag} {mg : Str → Option Value} {wi : TI} {vs : List Nat} (q : ∀ G B S σ H R, Rep K G B S σ H → Post K mg G W B σ (RI K) R (fi S) → wi σ H R) {G : Gd} {B H : Hp} {S : AS} {σ : L2.St} {Q : VK} (r : Rep K G B S σ H)
    (po : Post K mg G W B σ (RE K G σ) Q (fLc fi bd ft fe vs S)) : tLc wi (cGw K vs bd) (cT K mg W0 ft) (cD K mg W0 fe) vs σ H Q := by
  refine q G B S σ H _ r (po.seq fun ds S1 J B1 H1 e1 r1 it po1 => ?_)
  intro Dl hD
  have we : wipe (wipe σ vs) vs = wipe σ vs := by
    have key : ∀ (ws : List Nat), (∀ w ∈ ws, w ∈ vs) → wipe (wipe σ ws) vs = wipe σ vs := by
      intro ws
      induction ws with
      | nil => intro _; rfl
      | cons w ws ih =>
        intro h
        show wipe ((wipe σ ws).set w none) vs = _
        rw [wipe_set (h w (by simp))]
        exact ih fun x hx => h x (List.mem_cons_of_mem _ hx)
    exact key vs fun _ h => h
  have r1w := rep_wipe2 r1 vs
  refine ⟨fun i m H => ∃ B' S' acc, Ex B1 B' ∧ Rep K G B' S' (wipe σ vs) H ∧ ResR K G B' S' (wipe σ vs) H (.ref Dl) (.own acc) ∧ i + m = ds.length ∧ Post K mg G W B' σ (RE K G σ) Q ((fComp bd ft fe vs (ds.drop i) S' acc).bind fun acc S2 => .ok (.own acc) (wipeS S2 vs)), ⟨ds.length, B1, _, [], Ex.refl _, r1w.newH hD, ⟨Dl, [], rfl, upd_same, r1.g.bh.fresh hD, r1.g.dm Dl hD, .nil, fun i x e1 e2 => ?_⟩, by omega, po1⟩, ?_⟩
  · obtain ⟨v, h1, a, ws, rfl, h2, _⟩ := r1w.sl i _ e1
    rw [h1] at e2
    cases e2
    rw [hD] at h2
    cases h2
  rintro i m H ⟨B', S', acc, e', r', q', em, po'⟩
  cases m with
  | zero =>
    have hi : ds.length ≤ i := by omega
    rw [List.drop_of_length_le hi] at po'
    refine .inl ⟨it.stop i G B' S' (wipe σ vs) H hi e' r', ?_⟩
    exact po' _ B' H (Ex.refl _) (rep_over r' we) (res_over q' we)
  | succ m =>
    have hi : i < ds.length := by omega
    have hd : ds[i]? = some ds[i] := List.getElem?_eq_getElem hi
    rw [List.drop_eq_getElem_cons hi] at po'
    obtain ⟨G', rg, keep⟩ := guardR r' q'
    obtain ⟨g1, g2⟩ := it.go i _ G' B' S' (wipe σ vs) H hd e' rg
    refine .inr ⟨g1, fun H' => ∃ B'' S'' acc'', Ex B1 B'' ∧ Rep K G B'' S'' (wipe σ vs) H' ∧ ResR K G B'' S'' (wipe σ vs) H' (.ref Dl) (.own acc'') ∧ i + 1 + m = ds.length ∧ Post K mg G W B'' σ (RE K G σ) Q ((fComp bd ft fe vs (ds.drop (i + 1)) S'' acc'').bind fun acc S2 => .ok (.own acc) (wipeS S2 vs)), fun H' hN => ⟨m, Nat.lt_succ_self m, hN⟩, fun x H' hy => ?_⟩
    obtain ⟨B2, e2, r2, d2⟩ := g2 x H' hy
    cases hbd : bd ds[i] S' with
    | none => simp only [fComp, hbd] at po'; exact po'.elim
    | some Sb =>
      simp only [fComp, hbd] at po'
      refine ⟨G', B2, S', Sb, _, r2, d2, hbd, fun σ2 hw rb => ⟨hw.trans we, ?_⟩⟩
      refine ⟨G', B2, Sb, rb, ?_⟩
      cases ht : ft Sb with
      | stuck => simp only [ht] at po'; exact po'.elim
      | exc c w S3 => simp only [ht] at po'; exact po'.elim
      | ok b S3 =>
        intro b' B3 H3 e3 r3 eb
        have eb : b' = b := eb
        subst eb
        simp only [ht] at po'
        cases b' with
        | false =>
          rw [if_neg Bool.false_ne_true]
          obtain ⟨k1, k2, _⟩ := keep B3 S3 σ2 H3 (e2.trans e3) r3
          exact ⟨B3, wipeS S3 vs, acc, e'.trans (e2.trans e3), rep_over k1 hw, res_over k2 hw, by omega, po'.mono (e2.trans e3)⟩
        | true =>
          rw [if_pos rfl]
          refine ⟨G', B3, S3, r3, ?_⟩
          cases hf : fe S3 with
          | stuck => simp only [hf] at po'; exact po'.elim
          | exc c w S4 => simp only [hf] at po'; exact po'.elim
          | ok y S4 =>
            intro yv B4 H4 e4 r4 dy
            simp only [hf] at po'
            split at po'
            · rename_i hsm
              obtain ⟨k1, k2, _⟩ := keep B4 S4 σ2 H4 (e2.trans (e3.trans e4)) r4
              have k2' := k2
              obtain ⟨a, ws, ea, h1, h2, h3, h4, h5⟩ := k2
              cases ea
              have r5 := rep_over k1 hw
              have q5 := res_over k2' hw
              obtain ⟨r6, q6⟩ := r5.writeT q5 (h4.append (.cons dy .nil))
              refine ⟨ws, h1, ?_, B4, wipeS S4 vs, acc ++ [y], e'.trans (e2.trans (e3.trans e4)), r6, q6, by omega, po'.mono (e2.trans (e3.trans e4))⟩
              have := small_line hsm
              rw [h4.length]
              have h9 : sizeLine = 16777216 := sizeLine_eq
              unfold small at hsm
              have := of_decide_eq_true hsm
              omega
            · exact po'.elim
theorem d_comp (C : Ctx X W k) (own : List (Str × Nat)) (hi : DI X W tg iter fi) (hblk : blkC X.N X.env.scope scope own = true)
    (hg : ∀ (s : Shared) (H : Hp) (Cc : Addr) (cl : List (Str × Addr)) (fp : List Addr), DGw (X.blk s H scope (compEnvC scope cl Cc X.env) fp) (own.map (·.2)) tg bd)
    (ht : ∀ (s : Shared) (H : Hp) (Cc : Addr) (cl : List (Str × Addr)) (fp : List Addr), DTs (X.blk s H scope (compEnvC scope cl Cc X.env) fp) W0 ifs ft)
    (he : ∀ (s : Shared) (H : Hp) (Cc : Addr) (cl : List (Str × Addr)) (fp : List Addr), DD (X.blk s H scope (compEnvC scope cl Cc X.env) fp) W0 elt fe) (hs : ∀ x, foldedSetIterable iter X.env x = pure x := by intro _; rfl) :
    DE X W (.ListComp elt [⟨tg, iter, ifs, 0⟩] scope pos) (fLc fi bd ft fe (own.map (·.2))) := by
  obtain ⟨wi, p, q⟩ := hi.run
  refine ⟨_, pe_lc (own := own) (g := cGw X.K (own.map (·.2)) bd) (tt := cT X.K X.mg W0 ft) (te := cD X.K X.mg W0 fe) C.calm C.nd p (blkOk_by hblk) (fun s H Cc cl fp => (hg s H Cc cl fp).pg) (fun s H Cc cl fp => (ht s H Cc cl fp).pts) (fun s H Cc cl fp => (he s H Cc cl fp).pe) hs, fun G B S σ H Q r po => lc_run q r po⟩
/-- y = [..] on one line -/
theorem s_setC (i : Nat) {y : Str} {py spos : Pos} (C : Ctx X W k) (own : List (Str × Nat)) (hi : DI X W tg iter fi) (hblk : blkC X.N X.env.scope scope own = true)
    (hg : ∀ (s : Shared) (H : Hp) (Cc : Addr) (cl : List (Str × Addr)) (fp : List Addr), DGw (X.blk s H scope (compEnvC scope cl Cc X.env) fp) (own.map (·.2)) tg bd)
    (ht : ∀ (s : Shared) (H : Hp) (Cc : Addr) (cl : List (Str × Addr)) (fp : List Addr), DTs (X.blk s H scope (compEnvC scope cl Cc X.env) fp) W0 ifs ft)
    (he : ∀ (s : Shared) (H : Hp) (Cc : Addr) (cl : List (Str × Addr)) (fp : List Addr), DD (X.blk s H scope (compEnvC scope cl Cc X.env) fp) W0 elt fe)
    (hy : X.N[i]? = some y := by rfl) (hyl : X.env.scope.names.lookup y = some .local := by rfl) (hsw : swapsWith (.ListComp elt [⟨tg, iter, ifs, 0⟩] scope pos) (some (.Name y py)) spos.line X.env = pure true := by exact sw_true rfl rfl rfl (by decide +kernel)) (hs : ∀ x, foldedSetIterable iter X.env x = pure x := by intro _; rfl) :
    DS X W (.Assign [.Name y py] (.ListComp elt [⟨tg, iter, ifs, 0⟩] scope pos) spos) (gSetO i (fLc fi bd ft fe (own.map (·.2)))) := by
  obtain ⟨wi, p, q⟩ := hi.run
  refine ⟨_, ps_setLc (i := i) (own := own) (g := cGw X.K (own.map (·.2)) bd) (tt := cT X.K X.mg W0 ft) (te := cD X.K X.mg W0 fe) C.calm C.nd hy hyl hsw p (blkOk_by hblk) (fun s H Cc cl fp => (hg s H Cc cl fp).pg) (fun s H Cc cl fp => (ht s H Cc cl fp).pts) (fun s H Cc cl fp => (he s H Cc cl fp).pe) hs, fun G B S σ H D r po => ?_⟩
  exact lc_run (W := W) q r (po.expr fun x S1 v B1 H1 e1 r1 x1 po1 => po1 B1 _ H1 (Ex.refl _) (r1.setR x1))
theorem takesN0 {X : Cx} : L2N.Takes X (fun c d _ H => W0 c d H) := fun _ _ x => by
  obtain ⟨_, _, _, _, _, _, _, _, _, _, _, _, _, _, _, _, z⟩ := x
  exact z.elim
/-- the context of a block -/
theorem Ctx.blk (C : Ctx X W k) (s : Shared) (H : Hp) (Cc : Addr) (cl : List (Str × Addr)) (fp : List Addr) : Ctx (X.blk s H scope (compEnvC scope cl Cc X.env) fp) W0 k := ⟨takesN0, C.room, C.calm, C.nd, PassesOwn.never⟩
end
end
end DL

set_option maxRecDepth 100000
set_option maxHeartbeats 1000000
/-! DL8: defs and calls -/
namespace DL
open PySem PySem.Spec PyProof.Rows L2
variable [Tbl]

inductive Fr where
  | ok (r : SV) (o : List D)
  | exc (c : Str) (w : D) (o : List D)
  | stuck
/-- the bound arguments: data, or (none) the list that is lent -/
abbrev AL := List (Option D)
def one : AL → Bool
  | [] => true
  | some _ :: r => one r
  | none :: r => r.all Option.isSome
inductive AR (K : PySem.W.Frag) (B : Hp) (u : V) : List V → AL → Prop
  | nil : AR K B u [] []
  | cons {v : V} {vs : List V} {d : D} {as : AL} : Dq K B v d → AR K B u vs as → AR K B u (v :: vs) (some d :: as)
  | lent {vs : List V} {as : AL} : AR K B u vs as → AR K B u (u :: vs) (none :: as)
theorem AR.length {K : PySem.W.Frag} {B : Hp} {u : V} : ∀ {vs : List V} {as : AL}, AR K B u vs as → vs.length = as.length
  | _, _, .nil => rfl
  | _, _, .cons _ t => by simp [t.length]
  | _, _, .lent t => by simp [t.length]
theorem AR.mono {K : PySem.W.Frag} {B B' : Hp} {u : V} (e : Ex B B') : ∀ {vs : List V} {as : AL}, AR K B u vs as → AR K B' u vs as
  | _, _, .nil => .nil
  | _, _, .cons h t => .cons (dq_mono e _ _ h) (t.mono e)
  | _, _, .lent t => .lent (t.mono e)
theorem AR.get {K : PySem.W.Frag} {B : Hp} {u : V} : ∀ {vs : List V} {as : AL} {i : Nat} {d : D}, AR K B u vs as → as[i]? = some (some d) → ∃ v, vs[i]? = some v ∧ Dq K B v d
  | _, _, _, _, .nil, e => by simp at e
  | _, _, 0, _, .cons h _, e => by simp at e; subst e; exact ⟨_, by simp, h⟩
  | _, _, i + 1, _, .cons _ t, e => by obtain ⟨v, a, b⟩ := t.get (i := i) (by simpa using e); exact ⟨v, by simpa using a, b⟩
  | _, _, 0, _, .lent _, e => by simp at e
  | _, _, i + 1, _, .lent t, e => by obtain ⟨v, a, b⟩ := t.get (i := i) (by simpa using e); exact ⟨v, by simpa using a, b⟩
theorem AR.getL {K : PySem.W.Frag} {B : Hp} {u : V} : ∀ {vs : List V} {as : AL} {i : Nat}, AR K B u vs as → as[i]? = some none → vs[i]? = some u
  | _, _, _, .nil, e => by simp at e
  | _, _, 0, .cons h _, e => by simp at e
  | _, _, i + 1, .cons _ t, e => by have := t.getL (i := i) (by simpa using e); simpa using this
  | _, _, 0, .lent _, e => by simp
  | _, _, i + 1, .lent t, e => by have := t.getL (i := i) (by simpa using e); simpa using this
theorem all_isSome : ∀ {as : AL} {i : Nat}, as.all Option.isSome = true → as[i]? ≠ some none
  | [], _, _, e => by simp at e
  | some _ :: r, 0, _, e => by simp at e
  | some _ :: r, i + 1, h, e => all_isSome (as := r) (i := i) (by simpa using h) (by simpa using e)
  | none :: r, _, h, _ => by simp at h
theorem one_eq : ∀ {as : AL} {i j : Nat}, one as = true → as[i]? = some none → as[j]? = some none → i = j
  | [], _, _, _, e, _ => by simp at e
  | some _ :: r, 0, _, _, e, _ => by simp at e
  | some _ :: r, _ + 1, 0, _, _, e => by simp at e
  | some _ :: r, i + 1, j + 1, h, e, f => by rw [one_eq (as := r) (i := i) (j := j) h (by simpa using e) (by simpa using f)]
  | none :: r, 0, 0, _, _, _ => rfl
  | none :: r, 0, j + 1, h, _, f => absurd (by simpa using f) (all_isSome (as := r) (i := j) h)
  | none :: r, i + 1, _, h, e, _ => absurd (by simpa using e) (all_isSome (as := r) (i := i) h)

/-- the list that is lent, if one is -/
def Lent (K : PySem.W.Frag) (B H : Hp) (PA : List Addr) (u : V) (ld : List D) (as : AL) : Prop :=
  (PA = [] ∧ as.all Option.isSome = true) ∨ (one as = true ∧ as.all Option.isSome = false ∧ ∃ a vs, PA = [a] ∧ u = .ref a ∧ H a = some (.lst vs) ∧ B a = none ∧ DqAll K B vs ld)
def Outs (K : PySem.W.Frag) (B' H' : Hp) (PA : List Addr) (o : List D) : Prop := ∀ a ∈ PA, ∃ vs, H' a = some (.lst vs) ∧ DqAll K B' vs o
def RetR (K : PySem.W.Frag) (H B' H' : Hp) (v : V) : SV → Prop
  | .dat d => Dq K B' v d
  | .own ds => ∃ a vs, v = .ref a ∧ H' a = some (.lst vs) ∧ B' a = none ∧ ntH H a = none ∧ DqAll K B' vs ds
  | .par _ _ => False
  | .exn _ _ _ => False
def FPost (K : PySem.W.Frag) (mg : Str → Option Value) (B H : Hp) (PA : List Addr) (Q : VK) (E : XK) : Fr → Prop
  | .ok r o => ∀ v B' H', Grd K ⟨B, ntH H, PA⟩ B' H' → Outs K B' H' PA o → RetR K H B' H' v r → Q v H'
  | .exc c w o => ∀ C d v B' H', mg c = some (.ref C) → Grd K ⟨B, ntH H, PA⟩ B' H' → Outs K B' H' PA o → Dq K B' v w → H' d = some (.xd [(("what" : Str), v)]) → E (.ref C) (some d) H'
  | .stuck => False
def spD (K : PySem.W.Frag) (mg : Str → Option Value) (n : Nat) (g : AL → List D → Fr) : Sp := fun vs H Q E =>
  vs.length = n ∧ ∃ B as PA u ld, Ex B H ∧ (∀ a ps, B a ≠ some (.tbl ps)) ∧ LamX.Tabs (Tbl.TT K) H ∧ AR K B u vs as ∧ Lent K B H PA u ld as ∧ FPost K mg B H PA Q E (g as ld)

/-! ### a def's body -/
def argS (ld : List D) : Option D → Option SV
  | some d => some (.dat d)
  | none => some (.par 0 ld)
def S0 (n : Nat) (as : AL) (ld : List D) : AS := as.map (argS ld) ++ List.replicate (n - as.length) none
def lastP : AS → List D
  | [] => []
  | some (.par 0 ds) :: _ => ds
  | _ :: r => lastP r
def hasP : AS → Bool
  | [] => false
  | some (.par 0 _) :: _ => true
  | _ :: r => hasP r
def parOk (as : AL) (S : AS) : Bool := as.all Option.isSome || hasP S
def finF (as : AL) : Out → Fr
  | .nx S => if parOk as S = true then .ok (.dat .none) (lastP S) else .stuck
  | .rt r S => if parOk as S = true then .ok r (lastP S) else .stuck
  | .exc c w S => if parOk as S = true then .exc c w (lastP S) else .stuck
  | _ => .stuck
theorem lastP_at : ∀ {S : AS}, hasP S = true → ∃ i : Nat, S[i]? = some (some (.par 0 (lastP S)))
  | [], h => by cases h
  | some (.par 0 ds) :: r, _ => ⟨0, rfl⟩
  | some (.par (k + 1) ds) :: r, h => by obtain ⟨i, e⟩ := lastP_at (S := r) h; exact ⟨i + 1, by rw [List.getElem?_cons_succ]; exact e⟩
  | some (.dat _) :: r, h => by obtain ⟨i, e⟩ := lastP_at (S := r) h; exact ⟨i + 1, by rw [List.getElem?_cons_succ]; exact e⟩
  | some (.own _) :: r, h => by obtain ⟨i, e⟩ := lastP_at (S := r) h; exact ⟨i + 1, by rw [List.getElem?_cons_succ]; exact e⟩
  | some (.exn _ _ _) :: r, h => by obtain ⟨i, e⟩ := lastP_at (S := r) h; exact ⟨i + 1, by rw [List.getElem?_cons_succ]; exact e⟩
  | none :: r, h => by obtain ⟨i, e⟩ := lastP_at (S := r) h; exact ⟨i + 1, by rw [List.getElem?_cons_succ]; exact e⟩
section
variable {K : PySem.W.Frag} {mg : Str → Option Value} {B H : Hp} {PA : List Addr} {u : V} {ld : List D} {as : AL} {vs : List V}
theorem outs_of {B' H' : Hp} {S' : AS} {σ' : L2.St} (l : Lent K B H PA u ld as) (r : Rep K ⟨B, ntH H, PA⟩ B' S' σ' H') (p : parOk as S' = true) : Outs K B' H' PA (lastP S') := fun a ha => by
  rcases l with ⟨rfl, _⟩ | ⟨o, nl, a0, ws, rfl, _, _, _, _⟩
  · cases ha
  · have ha : a = a0 := by simpa using ha
    subst ha
    unfold parOk at p
    rw [nl, Bool.false_or] at p
    obtain ⟨i, e⟩ := lastP_at p
    obtain ⟨v, _, b, zs, rfl, h1, h2, h3⟩ := r.sl i _ e
    cases h1
    exact ⟨zs, h2, h3⟩
theorem start_get {N : List Str} {vs : List V} {i : Nat} (hi : i < vs.length) : (L2.start N vs)[i]? = some (vs[i]?) := by
  unfold L2.start
  rw [List.getElem?_append_left (by rw [List.length_map]; exact hi), List.getElem?_map]
  rw [List.getElem?_eq_getElem hi]
  rfl
theorem S0_get {n : Nat} {i : Nat} {sv : SV} (h : (S0 n as ld)[i]? = some (some sv)) : i < as.length ∧ ((∃ d, as[i]? = some (some d) ∧ sv = .dat d) ∨ (as[i]? = some none ∧ sv = .par 0 ld)) := by
  unfold S0 at h
  by_cases hi : i < as.length
  · rw [List.getElem?_append_left (by rw [List.length_map]; exact hi), List.getElem?_map] at h
    refine ⟨hi, ?_⟩
    rw [List.getElem?_eq_getElem hi] at h ⊢
    cases e : as[i] with
    | none => rw [e] at h; simp [argS] at h; exact .inr ⟨rfl, h.symm⟩
    | some d => rw [e] at h; simp [argS] at h; exact .inl ⟨d, rfl, h.symm⟩
  · rw [List.getElem?_append_right (by rw [List.length_map]; omega), List.getElem?_replicate] at h
    split at h <;> simp at h
theorem rep_start {N : List Str} (hB : Ex B H) (hnt : ∀ a ps, B a ≠ some (.tbl ps)) (tb : LamX.Tabs (Tbl.TT K) H) (ar : AR K B u vs as) (l : Lent K B H PA u ld as) : Rep K ⟨B, ntH H, PA⟩ B (S0 N.length as ld) (L2.start N vs) H := by
  refine ⟨⟨Ex.refl _, fun a o e => .inl e, hB, hnt, fun a o e _ _ => (nt_some e).1, fun a e => by show ntH H a = none; unfold ntH; rw [e], tb, fun a ha => ?_, fun a ps e => (nt_some e).2 ps rfl, fun a ha => ?_⟩, ?_, fun i sv e => ?_, fun i j a x y e => ?_, fun i j k x y e1 e2 => ?_, ?_⟩
  · rcases l with ⟨rfl, _⟩ | ⟨_, _, a0, ws, rfl, _, h1, h2, _⟩
    · cases ha
    · have ha : a = a0 := by simpa using ha
      subst ha
      exact ⟨h2, by show ntH H a ≠ none; rw [nt_of h1 (fun ps z => by cases z)]; simp⟩
  · rcases l with ⟨rfl, _⟩ | ⟨_, _, a0, ws, rfl, _, h1, h2, _⟩
    · cases ha
    · have ha : a = a0 := by simpa using ha
      subst ha
      exact ⟨_, h1⟩
  · unfold L2.start S0
    simp [ar.length]
  · obtain ⟨hi, h⟩ := S0_get e
    rw [start_get (by rw [ar.length]; exact hi)]
    rcases h with ⟨d, h, rfl⟩ | ⟨h, rfl⟩
    · obtain ⟨v, h1, h2⟩ := ar.get h
      exact ⟨v, by rw [h1], h2⟩
    · have h1 := ar.getL h
      rcases l with ⟨_, n⟩ | ⟨_, _, a0, ws, rfl, rfl, g1, g2, g3⟩
      · exact absurd h (all_isSome n)
      · exact ⟨_, by rw [h1], a0, ws, rfl, rfl, g1, g3⟩
  · obtain ⟨_, h⟩ := S0_get e
    rcases h with ⟨d, _, z⟩ | ⟨_, z⟩ <;> cases z
  · obtain ⟨_, h⟩ := S0_get e1
    obtain ⟨_, h'⟩ := S0_get e2
    rcases h with ⟨d, _, z⟩ | ⟨h, _⟩
    · cases z
    · rcases h' with ⟨d, _, z⟩ | ⟨h', _⟩
      · cases z
      · rcases l with ⟨_, n⟩ | ⟨o, _⟩
        · exact absurd h (all_isSome n)
        · exact one_eq o h h'
  · rcases l with ⟨rfl, _⟩ | ⟨_, _, a0, ws, rfl, _⟩
    · exact List.nodup_nil
    · simp
theorem ret_of {B' H' : Hp} {S' : AS} {σ' : L2.St} {v : V} {r : SV} (q : ResR K ⟨B, ntH H, PA⟩ B' S' σ' H' v r) : RetR K H B' H' v r := by
  cases r with
  | exn _ _ _ => exact q
  | dat d => exact q
  | par _ _ => exact q
  | own ds =>
    obtain ⟨a, vs, e, h1, h2, h3, h4, _⟩ := q
    exact ⟨a, vs, e, h1, h2, h3, h4⟩
/-- a body's end is the promise's -/
theorem fin_of {N : List Str} {Q : VK} {E : XK} {o : Out} (l : Lent K B H PA u ld as) (p : FPost K mg B H PA Q E (finF as o)) : PostS K mg ⟨B, ntH H, PA⟩ E B { nx := fun _ H' => Q .non H', rt := Q } o := by
  cases o with
  | nx S =>
    unfold finF at p
    dsimp only at p
    split at p
    · exact fun B' σ' H' e r => p .non B' H' r.g (outs_of l r ‹_›) .non
    · exact p.elim
  | rt x S =>
    unfold finF at p
    dsimp only at p
    split at p
    · exact fun v B' σ' H' e r q => p v B' H' r.g (outs_of l r ‹_›) (ret_of q)
    · exact p.elim
  | exc c w S =>
    unfold finF at p
    dsimp only at p
    split at p
    · exact fun C d v B' σ' H' e0 e r q q2 => p C d v B' H' e0 r.g (outs_of l r ‹_›) q q2
    · exact p.elim
  | bk S => exact p.elim
  | ct S => exact p.elim
  | stuck => exact p.elim
end
/-- what is known of a def -/
structure FF (P : Program) (w : World) (K : PySem.W.Frag) (mg : Str → Option Value) (base : Heap) (k : Nat) (x : Str) (n : Nat) (g : AL → List D → Fr) : Prop where
  ex : ∃ f fd ps, mg x = some (.ref f) ∧ PySem.W.keepIn K (.ref f) = true ∧ Binds K fd ps [] ∧ FnOk P w K mg base (L2N.CX P w) k f fd ps (spD K mg n g)
theorem FF.mono {P : Program} {w : World} {K : PySem.W.Frag} {mg : Str → Option Value} {base : Heap} {j k : Nat} {x : Str} {n : Nat} {g : AL → List D → Fr} (F : FF P w K mg base j x n g) (h : j ≤ k) : FF P w K mg base k x n g := by
  obtain ⟨f, fd, ps, h1, h2, h3, h4⟩ := F.ex
  exact ⟨f, fd, ps, h1, h2, h3, h4.mono h⟩
/-- where X stands, for the bodies -/
structure At (X : Cx) (P : Program) (w : World) (K : PySem.W.Frag) (mg : Str → Option Value) (base : Heap) (N : List Str) (scope : Scope) : Prop where
  p : X.prog = P
  w : X.w = w
  K : X.K = K
  mg : X.mg = mg
  base : X.base = base
theorem fpost_imp {K : PySem.W.Frag} {mg : Str → Option Value} {B H : Hp} {PA : List Addr} {Q : VK} {E : XK} {r r' : Fr} (p : FPost K mg B H PA Q E r) (h : r = .stuck ∨ r' = r) : FPost K mg B H PA Q E r' := by
  rcases h with rfl | rfl
  · exact p.elim
  · exact p
section
variable {P : Program} {w : World} {K : PySem.W.Frag} {mg : Str → Option Value} {base : Heap} {x qual : Str} {params : Arguments} {body : List Stmt} {scope : Scope} {f : Addr} {fd : FuncData} {N ps : List Str} {k : Nat}
/-- THE RULE of a def -/
theorem fn_d {g : AL → List D → Fr} {fb : AS → Out} (F : FunD K x qual params body scope [] [] f fd) (S : FnScope N ps scope) (hm : mg x = some (.ref f))
    (hbd : ∀ (kV doc pm : Value) (an : Option Addr) (cdv ct : Value) (us : List Value), us.length = ps.length → bindArgs (PySem.W.fnOf x qual params body scope .none kV doc pm an cdv ct) ⟨us, []⟩ = pure (ps.zip us))
    (hb : ∀ (cdv : Value) (A : Around) (outer : List Env) (s : Shared) (H : Hp) (E : XK), Ctx (cxOf (L2N.CX P w) P w K mg base N qual scope f cdv A outer s H E) E k → DSs (cxOf (L2N.CX P w) P w K mg base N qual scope f cdv A outer s H E) E body fb)
    (hg : ∀ as ld, as.length = ps.length → g as ld = .stuck ∨ finF as (fb (S0 N.length as ld)) = g as ld) : FF P w K mg base (k + 1) x ps.length g := by
  refine ⟨f, fd, ps, hm, F.kp, F.bindsN hbd, F.ok S (fun vs H Q E h => h.1) fun cdv A outer s H vs Q E hr h => ?_⟩
  have C : Ctx (cxOf (L2N.CX P w) P w K mg base N qual scope f cdv A outer s H E) E k := ⟨L2N.takes_of rfl rfl rfl rfl, hr, rfl, S.nd, passes_of (X := cxOf (L2N.CX P w) P w K mg base N qual scope f cdv A outer s H E) rfl⟩
  obtain ⟨t, p, q⟩ := (hb cdv A outer s H E C).run
  refine ⟨t, p, ?_⟩
  obtain ⟨hn, B, as, PA, u, ld, e1, e2, e3, ar, l, po⟩ := h
  refine q ⟨B, ntH H, PA⟩ B _ _ H _ (rep_start e1 e2 e3 ar l) (fin_of (N := N) l ?_)
  exact fpost_imp po (hg as ld (by rw [← ar.length, hn]))
end
end DL

set_option maxRecDepth 100000
set_option maxHeartbeats 1000000
/-! DL9: calls -/
namespace DL
open PySem PySem.Spec PyProof.Rows L2
variable [Tbl]
def ldOf : SV → Option (List D)
  | .dat _ => none
  | .own ds => some ds
  | .par _ ds => some ds
  | .exn _ _ _ => none
def ldSet : SV → List D → SV
  | .dat d, _ => .dat d
  | .own _, o => .own o
  | .par k _, o => .par k o
  | .exn a d w, _ => .exn a d w
section
variable {K : PySem.W.Frag} {mg : Str → Option Value} {G : Gd} {B H B' H' : Hp} {PA : List Addr} {S : AS} {σ : L2.St}
theorem Grd.nn (g : Grd K G B H) {a : Addr} (h : ntH H a = none) : G.H0 a = none := by
  rcases nt_none h with h | ⟨ps, h⟩
  · exact g.dm a h
  · cases q : G.H0 a with
    | none => rfl
    | some o =>
      by_cases hm : a ∈ G.PA
      · obtain ⟨vs, e⟩ := g.pl a hm
        rw [h] at e; cases e
      · have := g.fr a o q hm fun ps' z => g.ht a ps' (by rw [q, z])
        rw [h] at this
        cases this
        exact absurd q (g.ht a ps)
theorem Grd.after (g : Grd K G B H) (c : Grd K ⟨B, ntH H, PA⟩ B' H') (hp : ∀ a ∈ PA, G.H0 a = none ∨ a ∈ G.PA) : Grd K G B' H' where
  b0 := g.b0.trans c.b0
  bn := fun a o e => by
    rcases c.bn a o e with h | h
    · exact g.bn a o h
    · exact .inr (g.nn h)
  bh := c.bh
  nt := c.nt
  fr := fun a o e ha hu => c.fr a o (nt_of (g.fr a o e ha hu) hu) (fun h => by
    rcases hp a h with z | z
    · rw [z] at e; cases e
    · exact ha z) hu
  dm := fun a e => g.nn (c.dm a e)
  tb := c.tb
  pa := fun a ha => ⟨by
    cases q : B' a with
    | none => rfl
    | some o =>
      rcases c.bn a o q with h | h
      · exact nomatch (g.pa a ha).1.symm.trans h
      · exact absurd (g.nn h) (g.pa a ha).2, (g.pa a ha).2⟩
  ht := g.ht
  pl := fun a ha => by
    by_cases h : a ∈ PA
    · exact c.pl a h
    · obtain ⟨vs, e⟩ := g.pl a ha
      exact ⟨vs, c.fr a _ (nt_of e fun ps z => by cases z) h fun ps z => by cases z⟩
theorem Grd.keepB (c : Grd K ⟨B, ntH H, PA⟩ B' H') {a : Addr} {vs : List V} (h : B a = none) (h2 : H a = some (.lst vs)) : B' a = none := by
  cases q : B' a with
  | none => rfl
  | some o =>
    rcases c.bn a o q with z | z
    · exact nomatch h.symm.trans z
    · have z : ntH H a = none := z
      rw [nt_of h2 fun ps z => by cases z] at z
      cases z
theorem Grd.keepH (c : Grd K ⟨B, ntH H, PA⟩ B' H') {a : Addr} {vs : List V} (h : H a = some (.lst vs)) (h2 : a ∉ PA) : H' a = some (.lst vs) := c.fr a _ (nt_of h fun ps z => by cases z) h2 fun ps z => by cases z
theorem par_none (r : Rep K G B S σ H) {a : Addr} {k : Nat} (h : G.PA[k]? = some a) : B a = none := (r.g.pa a (List.mem_of_getElem? h)).1
theorem Rep.after0 (r : Rep K G B S σ H) (c : Grd K ⟨B, ntH H, []⟩ B' H') : Rep K G B' S σ H' := by
  refine ⟨r.g.after c (fun a h => by cases h), r.len, fun i sv e => ?_, r.ds, r.pj, r.pn⟩
  obtain ⟨v, h1, h2⟩ := r.sl i sv e
  refine ⟨v, h1, ?_⟩
  cases sv with
  | exn _ _ _ => exact ExnR.mono h2 c.b0 fun d o z => c.fr d _ (nt_of z fun ps q => by cases q) (by simp) fun ps q => by cases q
  | dat d => exact dq_mono c.b0 _ _ h2
  | own ds =>
    obtain ⟨a, vs, rfl, g1, g2, g3, g4⟩ := h2
    exact ⟨a, vs, rfl, c.keepH g1 (by simp), c.keepB g2 g1, g3, dqAll_mono c.b0 _ _ g4⟩
  | par k ds =>
    obtain ⟨a, vs, rfl, g1, g2, g3⟩ := h2
    exact ⟨a, vs, rfl, g1, c.keepH g2 (by simp), dqAll_mono c.b0 _ _ g3⟩
theorem Rep.afterL {i : Nat} {sv0 : SV} {ld o : List D} {a0 : Addr} (r : Rep K G B S σ H) (hi : S[i]? = some (some sv0)) (hl : ldOf sv0 = some ld) (hv : σ[i]? = some (some (.ref a0))) (c : Grd K ⟨B, ntH H, [a0]⟩ B' H') (ou : Outs K B' H' [a0] o) :
    Rep K G B' (S.set i (some (ldSet sv0 o))) σ H' := by
  obtain ⟨v0, h0, hs⟩ := r.sl i _ hi
  rw [hv] at h0
  cases h0
  obtain ⟨ws, w1, w2⟩ := ou a0 (by simp)
  have hH : ∃ us, H a0 = some (.lst us) := by
    cases sv0 with
    | exn _ _ _ => cases hl
    | dat d => cases hl
    | own ds => obtain ⟨a, vs, z, g1, _⟩ := hs; cases z; exact ⟨_, g1⟩
    | par k ds => obtain ⟨a, vs, z, _, g1, _⟩ := hs; cases z; exact ⟨_, g1⟩
  have hB : B a0 = none := by
    cases sv0 with
    | exn _ _ _ => cases hl
    | dat d => cases hl
    | own ds => obtain ⟨a, vs, z, g1, g2, _⟩ := hs; cases z; exact g2
    | par k ds => obtain ⟨a, vs, z, g1, _⟩ := hs; cases z; exact par_none r g1
  refine ⟨r.g.after c (fun a h => ?_), by rw [List.length_set]; exact r.len, fun j sv e => ?_, fun j l b x y e1 e2 e3 e4 => ?_, fun j l k x y e1 e2 => ?_, r.pn⟩
  · have : a = a0 := by simpa using h
    subst this
    cases sv0 with
    | exn _ _ _ => cases hl
    | dat d => cases hl
    | own ds => obtain ⟨a, vs, z, g1, g2, g3, _⟩ := hs; cases z; exact .inl g3
    | par k ds => obtain ⟨a, vs, z, g1, _⟩ := hs; cases z; exact .inr (List.mem_of_getElem? g1)
  · rcases get_set_eq e with ⟨rfl, rfl⟩ | ⟨hj, e9⟩
    · refine ⟨_, hv, ?_⟩
      cases sv0 with
      | exn _ _ _ => cases hl
      | dat d => cases hl
      | own ds => obtain ⟨a, vs, z, g1, g2, g3, g4⟩ := hs; cases z; exact ⟨a0, ws, rfl, w1, c.keepB hB hH.choose_spec, g3, w2⟩
      | par k ds => obtain ⟨a, vs, z, g1, g2, g3⟩ := hs; cases z; exact ⟨a0, ws, rfl, g1, w1, w2⟩
    · obtain ⟨v, h1, h2⟩ := r.sl j sv e9
      refine ⟨v, h1, ?_⟩
      cases sv with
      | exn _ _ _ => exact ExnR.mono h2 c.b0 fun d o z => c.fr d _ (nt_of z fun ps q => by cases q) (fun m => by
          have : d = a0 := by simpa using m
          subst this
          obtain ⟨us, e⟩ := hH
          rw [e] at z; cases z) fun ps q => by cases q
      | dat d => exact dq_mono c.b0 _ _ h2
      | own es =>
        obtain ⟨a, vs, rfl, g1, g2, g3, g4⟩ := h2
        have hne : a ≠ a0 := fun z => by
          subst z
          cases sv0 with
          | exn _ _ _ => cases hl
          | dat d => cases hl
          | own ds => exact hj (r.ds i j a ds es hi e9 hv h1)
          | par k ds => obtain ⟨a, vs, z, q1, _⟩ := hs; cases z; exact (r.g.pa _ (List.mem_of_getElem? q1)).2 g3
        exact ⟨a, vs, rfl, c.keepH g1 (by simpa using hne), c.keepB g2 g1, g3, dqAll_mono c.b0 _ _ g4⟩
      | par k es =>
        obtain ⟨a, vs, rfl, g1, g2, g3⟩ := h2
        have hne : a ≠ a0 := fun z => by
          subst z
          cases sv0 with
          | exn _ _ _ => cases hl
          | dat d => cases hl
          | own ds => obtain ⟨a, vs, z, q1, q2, q3, _⟩ := hs; cases z; exact (r.g.pa _ (List.mem_of_getElem? g1)).2 q3
          | par k' ds =>
            obtain ⟨a, vs, z, q1, _⟩ := hs
            cases z
            have hk : k' = k := by
              obtain ⟨l1, z1⟩ := List.getElem?_eq_some_iff.mp q1
              obtain ⟨l2, z2⟩ := List.getElem?_eq_some_iff.mp g1
              exact (List.getElem_inj r.pn).mp (z1.trans z2.symm)
            subst hk
            exact hj (r.pj i j k' ds es hi e9)
        exact ⟨a, vs, rfl, g1, c.keepH g2 (by simpa using hne), dqAll_mono c.b0 _ _ g3⟩
  · have f : ∀ (m : Nat) (z : List D), (S.set i (some (ldSet sv0 o)))[m]? = some (some (.own z)) → ∃ z', S[m]? = some (some (.own z')) := fun m z e => by
      rcases get_set_eq e with ⟨rfl, q⟩ | ⟨_, e⟩
      · cases sv0 with
        | exn _ _ _ => cases hl
        | dat d => cases hl
        | own ds => exact ⟨_, hi⟩
        | par k ds => cases q
      · exact ⟨_, e⟩
    obtain ⟨x', e1⟩ := f _ _ e1
    obtain ⟨y', e2⟩ := f _ _ e2
    exact r.ds j l b x' y' e1 e2 e3 e4
  · have f : ∀ (m : Nat) (z : List D), (S.set i (some (ldSet sv0 o)))[m]? = some (some (.par k z)) → ∃ z', S[m]? = some (some (.par k z')) := fun m z e => by
      rcases get_set_eq e with ⟨rfl, q⟩ | ⟨_, e⟩
      · cases sv0 with
        | exn _ _ _ => cases hl
        | dat d => cases hl
        | own ds => cases q
        | par k' ds =>
          have q' : SV.par k' o = SV.par k z := q
          cases q'
          exact ⟨_, hi⟩
      · exact ⟨_, e⟩
    obtain ⟨x', e1⟩ := f _ _ e1
    obtain ⟨y', e2⟩ := f _ _ e2
    exact r.pj j l k x' y' e1 e2
/-- a callee's result at the caller -/
theorem res_ret {S' : AS} {v : V} {x : SV} (r : Rep K G B S σ H) (q : RetR K H B' H' v x) (hS : ∀ (j : Nat) (z : List D), S'[j]? = some (some (SV.own z)) → ∃ z', S[j]? = some (some (SV.own z'))) : ResR K G B' S' σ H' v x := by
  cases x with
  | exn _ _ _ => exact q
  | dat d => exact q
  | par _ _ => exact q
  | own ds =>
    obtain ⟨a, vs, e, h1, h2, h3, h4⟩ := q
    refine ⟨a, vs, e, h1, h2, r.g.nn h3, h4, fun j z e1 e2 => ?_⟩
    obtain ⟨z', e1⟩ := hS j z e1
    obtain ⟨v', q1, b, ws, rfl, q2, _⟩ := r.sl j _ e1
    rw [q1] at e2
    cases e2
    rw [nt_of q2 fun ps z => by cases z] at h3
    cases h3
end
def slotV (σ : L2.St) (i : Nat) : V := match σ[i]? with
  | some (some u) => u
  | _ => .non
abbrev RAL (K : PySem.W.Frag) (σ : L2.St) (i : Nat) : Hp → AS → Hp → List V → AL → Prop := fun B _ _ vs as => AR K B (slotV σ i) vs as
/-- arguments, one a list that is lent -/
structure DAL (X : Cx) (W : XK) (i : Nat) (es : List Expr) (f : AS → Rs AL) : Prop where
  run : ∃ t, PA X es t ∧ ∀ G B S σ H Q, Rep X.K G B S σ H → Post X.K X.mg G W B σ (RAL X.K σ i) Q (f S) → t σ H Q
def lNil : AS → Rs AL := fun S => .ok [] S
def lCons (f : AS → Rs D) (g : AS → Rs AL) : AS → Rs AL := fun S => (f S).bind fun d S1 => (g S1).bind fun ds S2 => .ok (some d :: ds) S2
def lLoan (i : Nat) (g : AS → Rs AL) : AS → Rs AL := fun S => if ownAt i S = true then (g S).bind fun ds S2 => .ok (none :: ds) S2 else .stuck
def outC (r : Fr) (S : AS) (i : Nat) (sv : SV) : Rs SV := match r with
  | .ok r o => .ok r (S.set i (some (ldSet sv o)))
  | .exc c w o => .exc c w (S.set i (some (ldSet sv o)))
  | .stuck => .stuck
def out0 (r : Fr) (S : AS) : Rs SV := match r with
  | .ok r _ => .ok r S
  | .exc c w _ => .exc c w S
  | .stuck => .stuck
def kCall (g : AL → List D → Fr) (i : Nat) (as : AL) (S : AS) : Rs SV :=
  if as.all Option.isSome = true then out0 (g as []) S
  else if one as = true then (match S[i]? with
    | some (some (.own ds)) => outC (g as ds) S i (.own ds)
    | some (some (.par k ds)) => outC (g as ds) S i (.par k ds)
    | _ => .stuck) else .stuck
def fFn (g : AL → List D → Fr) (i : Nat) (fa : AS → Rs AL) : AS → Rs SV := fun S => (fa S).bind (kCall g i)
section
variable {X : Cx} {W : XK} {k j i : Nat} {e : Expr} {es : List Expr} {pos : Pos} {fd : AS → Rs D} {fa : AS → Rs AL}
theorem al_nil (i : Nat) : DAL X W i [] lNil := ⟨_, pa_nil, fun G B S σ H Q r po => po _ B H (Ex.refl _) r .nil⟩
theorem al_cons (h : DD X W e fd) (ht : DAL X W i es fa) (hs : starEach (e :: es) X.env = (false, eval e X.env) :: starEach es X.env := by rfl) : DAL X W i (e :: es) (lCons fd fa) := by
  obtain ⟨t, p, q⟩ := h.run
  obtain ⟨t2, p2, q2⟩ := ht.run
  refine ⟨_, pa_cons p p2 hs, fun G B S σ H Q r po => q G B S σ H _ r (po.seq fun d S1 v B1 H1 e1 r1 x1 po1 => ?_)⟩
  refine q2 G B1 S1 σ H1 _ r1 (po1.seq fun ds S2 vs B2 H2 e2 r2 x2 po2 => ?_)
  exact po2 _ B2 H2 (Ex.refl _) r2 (.cons (dq_mono e2 _ _ x1) x2)
theorem own_slot {K : PySem.W.Frag} {G : Gd} {B H : Hp} {S : AS} {σ : L2.St} (r : Rep K G B S σ H) (h : ownAt i S = true) : ∃ v, σ[i]? = some (some v) := by
  unfold ownAt at h
  split at h
  · obtain ⟨v, e, _⟩ := r.sl i _ ‹_›; exact ⟨v, e⟩
  · obtain ⟨v, e, _⟩ := r.sl i _ ‹_›; exact ⟨v, e⟩
  · cases h
theorem al_loan {x : Str} (ht : DAL X W i es fa) (hN : X.N[i]? = some x := by rfl) (hv : Vis X.env.scope x := by first | exact Or.inl rfl | exact Or.inr (Or.inl rfl) | exact Or.inr (Or.inr rfl)) (hd : (x == ("__debug__" : Str)) = false := by decide)
    (hcd : (x == ("__classdict__" : Str)) = false := by decide) (hs : starEach (.Name x pos :: es) X.env = (false, eval (.Name x pos) X.env) :: starEach es X.env := by rfl) : DAL X W i (.Name x pos :: es) (lLoan i fa) := by
  obtain ⟨t2, p2, q2⟩ := ht.run
  refine ⟨_, pa_cons (pe_var hN hv hd hcd) p2 hs, fun G B S σ H Q r po => ?_⟩
  unfold lLoan at po
  split at po
  · obtain ⟨v, hv⟩ := own_slot r ‹_›
    refine ⟨v, hv, q2 G B S σ H _ r (po.seq fun ds S2 vs B2 H2 e2 r2 x2 po2 => ?_)⟩
    refine po2 _ B2 H2 (Ex.refl _) r2 ?_
    have : slotV σ i = v := by unfold slotV; rw [hv]
    rw [← this]
    exact .lent x2
  · exact po.elim
theorem out_own {S : AS} {sv0 : SV} {o ld : List D} (hi : S[i]? = some (some sv0)) (hl : ldOf sv0 = some ld) : ∀ (m : Nat) (z : List D), (S.set i (some (ldSet sv0 o)))[m]? = some (some (SV.own z)) → ∃ z', S[m]? = some (some (.own z')) := fun m z e => by
  rcases get_set_eq e with ⟨rfl, q⟩ | ⟨_, e⟩
  · cases sv0 with
    | exn _ _ _ => cases hl
    | dat d => cases hl
    | own ds => exact ⟨ds, hi⟩
    | par k ds => cases q
  · exact ⟨_, e⟩
/-- the callee's promise at the caller's state -/
theorem sp_of {K : PySem.W.Frag} {mg : Str → Option Value} {G : Gd} {B H : Hp} {S : AS} {σ : L2.St} {Q : VK} {n : Nat} {g : AL → List D → Fr} {vs : List V} {as : AL} (r : Rep K G B S σ H) (hn : as.length = n) (ar : AR K B (slotV σ i) vs as)
    (po : Post K mg G W B σ (RE K G σ) Q (kCall g i as S)) : spD K mg n g vs H Q W := by
  unfold kCall at po
  split at po
  · rename_i h0
    refine ⟨ar.length.trans hn, B, as, [], slotV σ i, [], r.g.bh, r.g.nt, r.g.tb, ar, .inl ⟨rfl, h0⟩, ?_⟩
    revert po
    cases g as [] with
    | ok x o => exact fun po v B' H' c _ q => po v B' H' c.b0 (r.after0 c) (res_ret r q fun _ z e => ⟨z, e⟩)
    | exc c w o => exact fun po C d v B' H' e0 c _ q q2 => po C d v B' H' e0 c.b0 (r.after0 c) q q2
    | stuck => exact fun po => po.elim
  · rename_i h0
    split at po
    · rename_i h1
      have main : ∀ (sv : SV) (ld : List D) (a : Addr) (ws : List V), S[i]? = some (some sv) → ldOf sv = some ld → σ[i]? = some (some (.ref a)) → H a = some (.lst ws) → B a = none → DqAll K B ws ld → Post K mg G W B σ (RE K G σ) Q (outC (g as ld) S i sv) → spD K mg n g vs H Q W := by
        intro sv ld a ws hi hl hv hH hB al po
        have hu : slotV σ i = .ref a := by unfold slotV; rw [hv]
        refine ⟨ar.length.trans hn, B, as, [a], slotV σ i, ld, r.g.bh, r.g.nt, r.g.tb, ar, .inr ⟨h1, by simpa using h0, a, ws, rfl, hu, hH, hB, al⟩, ?_⟩
        revert po
        cases g as ld with
        | ok x o => exact fun po v B' H' c ou q => po v B' H' c.b0 (r.afterL hi hl hv c ou) (res_ret r q (out_own hi hl))
        | exc c w o => exact fun po C d v B' H' e0 c ou q q2 => po C d v B' H' e0 c.b0 (r.afterL hi hl hv c ou) q q2
        | stuck => exact fun po => po.elim
      split at po
      · rename_i ds hi
        obtain ⟨v, hv, a, ws, rfl, g1, g2, g3, g4⟩ := r.sl i _ hi
        exact main _ ds a ws hi rfl hv g1 g2 g4 po
      · rename_i kk ds hi
        obtain ⟨v, hv, a, ws, rfl, g1, g2, g3⟩ := r.sl i _ hi
        exact main _ ds a ws hi rfl hv g2 (par_none r g1) g3 po
      · exact po.elim
    · exact po.elim
/-- f(..) of a def -/
theorem d_call {x : Str} {p : Pos} {n : Nat} {g : AL → List D → Fr} (C : Ctx X W k) (F : FF X.prog X.w X.K X.mg X.base j x n g) (ha : DAL X W i (e :: es) fa) (hn : ∀ S as S', fa S = .ok as S' → as.length = n) (hj : j ≤ k := by omega) (hg : Gl X x := by rfl) (hdb : (x == ("__debug__" : Str)) = false := by decide)
    (he : starEach (e :: es) X.env = (false, eval e X.env) :: starEach es X.env := by rfl) (hpl : (backTo pos (starEach es X.env)).any (·.1) = false := by rfl) : DE X W (.Call (.Name x p) (e :: es) [] pos) (fFn g i fa) := by
  obtain ⟨f, fd, ps, h1, h2, h3, h4⟩ := F.ex
  obtain ⟨t, pp, q⟩ := ha.run
  refine ⟨_, pe_call (h4.mono hj) C.room hg h1 h2 h3 .nil (L2N.passes_call (E := W) C.tk fun _ _ _ _ h => h) pp hdb he hpl, fun G B S σ H Q r po => ?_⟩
  cases hS : fa S with
  | ok as S1 =>
    refine q G B S σ H _ r ?_
    have po' : Post X.K X.mg G W B σ (RE X.K G σ) Q (kCall g i as S1) := by unfold fFn at po; rw [hS] at po; exact po
    rw [hS]
    intro vs B1 H1 e1 r1 x1
    rw [List.append_nil]
    exact sp_of r1 (hn _ _ _ hS) x1 (po'.mono e1)
  | exc c w S1 =>
    refine q G B S σ H _ r ?_
    unfold fFn at po
    rw [hS] at po ⊢
    exact po
  | stuck =>
    unfold fFn at po
    rw [hS] at po
    exact po.elim
end
end DL

set_option maxRecDepth 100000
set_option maxHeartbeats 1000000
/-! DL10: any iterable, tables of the module -/
namespace DL
open PySem PySem.Spec PyProof.Rows L2
variable [Tbl]
section
variable {X : Cx} {W : XK} {k : Nat} {e a b c : Expr} {rest es : List Expr} {pos : Pos} {fd gd hd : AS → Rs D} {fa ga : AS → Rs (List D)} {ft gt : AS → Rs Bool} {fe ge : AS → Rs SV}
def itemsD : D → Option (List D)
  | .list ds => some ds
  | .tuple ds => some ds
  | .str x => some (signs x)
  | _ => none
def fAnyI (f : AS → Rs D) : AS → Rs (List D) := fun S => (f S).bind fun d S1 => match itemsD d with
  | some ds => .ok ds S1
  | none => .stuck
theorem PI.or {tg iter : Expr} {wi wj : TI} (h : PI X tg iter wi) (g : PI X tg iter wj) : PI X tg iter (fun σ H R => wi σ H R ∨ wj σ H R) := ⟨fun pins s σ H R I w => by
  rcases w with w | w
  · exact h.run pins s σ H R I w
  · exact g.run pins s σ H R I w⟩
theorem i_any {tg : Expr} (h : DD X W e fd) : DI X W tg e (fAnyI fd) := by
  obtain ⟨w1, p1, q1⟩ := (i_list (tg := tg) h).run
  obtain ⟨w2, p2, q2⟩ := (i_tup (tg := tg) h).run
  obtain ⟨w3, p3, q3⟩ := (i_str (tg := tg) h).run
  refine ⟨_, PI.or p1 (PI.or p2 p3), fun G B S σ H R r po => ?_⟩
  have l := q1 G B S σ H R r
  have t := q2 G B S σ H R r
  have z := q3 G B S σ H R r
  unfold fSeq at l
  unfold fTupI at t
  unfold fStrI at z
  unfold fAnyI at po
  cases hf : fd S with
  | exc c w S1 =>
    rw [hf] at l po
    exact .inl (l po)
  | stuck =>
    rw [hf] at po
    exact po.elim
  | ok d S1 =>
    rw [hf] at l t z po
    cases d with
    | list ds => exact .inl (l po)
    | tuple ds => exact .inr (.inl (t po))
    | str x => exact .inr (.inr (z po))
    | none => exact po.elim
    | bool _ => exact po.elim
    | int _ => exact po.elim
    | dict _ => exact po.elim
/-! ### a table of the module with text keys -/
structure GK (K : PySem.W.Frag) (w : World) (mg : Str → Option Value) (x : Str) (kvs : List (Str × D)) : Prop where
  at_ : ∃ a es n, mg x = some (.ref a) ∧ KDict K w a es n ∧ ∀ z, (∃ u v d, kvs.lookup z = some d ∧ PySem.W.nsIn K a z = some (some u) ∧ RelV v u ∧ ∀ B, Dq K B v d) ∨ (kvs.lookup z = none ∧ PySem.W.nsIn K a z = some none)
def kInK (kvs : List (Str × D)) (g : Bool → Bool) (x : D) (S : AS) : Rs SV := match x with
  | .str z => okB (g (kvs.lookup z).isSome) S
  | _ => .stuck
def kItK (kvs : List (Str × D)) (x : D) (S : AS) : Rs SV := match x with
  | .str z => (match kvs.lookup z with
    | some d => okD d S
    | none => .stuck)
  | _ => .stuck
def fK (k : D → AS → Rs SV) (f : AS → Rs D) : AS → Rs SV := fun S => (f S).bind k
theorem d_inK {x : Str} {p : Pos} {kvs : List (Str × D)} (c : GK X.K X.w X.mg x kvs) (h : DD X W a fd) (hg : Gl X x := by rfl) (hd : (x == ("__debug__" : Str)) = false := by decide) : DE X W (.Compare a [.In] [.Name x p] pos) (fK (kInK kvs id) fd) := by
  obtain ⟨ad, es, n, h1, h2, h3⟩ := c.at_
  obtain ⟨t, pp, q⟩ := h.run
  refine ⟨_, pe_cmpR (op_in_kd h2) pp (pe_glob (v := .ref ad) hg h1 rfl hd) (by first | rfl | exact nomark _), fun G B S σ H Q r po => q G B S σ H _ r (po.seq fun d S1 v B1 H1 e1 r1 x1 po1 => ?_)⟩
  unfold kInK at po1
  split at po1
  · rename_i z
    cases x1
    rcases h3 z with ⟨u, v, d, k1, k2, k3, k4⟩ | ⟨k1, k2⟩
    · refine ⟨z, _, rfl, rfl, k2, ?_⟩
      have := post_okB r1 po1
      rw [k1] at this
      exact this
    · refine ⟨z, _, rfl, rfl, k2, ?_⟩
      have := post_okB r1 po1
      rw [k1] at this
      exact this
  · exact po1.elim
theorem d_notInK {x : Str} {p : Pos} {kvs : List (Str × D)} (c : GK X.K X.w X.mg x kvs) (h : DD X W a fd) (hg : Gl X x := by rfl) (hd : (x == ("__debug__" : Str)) = false := by decide) : DE X W (.Compare a [.NotIn] [.Name x p] pos) (fK (kInK kvs not) fd) := by
  obtain ⟨ad, es, n, h1, h2, h3⟩ := c.at_
  obtain ⟨t, pp, q⟩ := h.run
  refine ⟨_, pe_cmpR (op_notIn_kd h2) pp (pe_glob (v := .ref ad) hg h1 rfl hd) (by first | rfl | exact nomark _), fun G B S σ H Q r po => q G B S σ H _ r (po.seq fun d S1 v B1 H1 e1 r1 x1 po1 => ?_)⟩
  unfold kInK at po1
  split at po1
  · rename_i z
    cases x1
    rcases h3 z with ⟨u, v, d, k1, k2, k3, k4⟩ | ⟨k1, k2⟩
    · refine ⟨z, _, rfl, rfl, k2, ?_⟩
      have := post_okB r1 po1
      rw [k1] at this
      exact this
    · refine ⟨z, _, rfl, rfl, k2, ?_⟩
      have := post_okB r1 po1
      rw [k1] at this
      exact this
  · exact po1.elim
theorem t_inK {x : Str} {p : Pos} {kvs : List (Str × D)} (c : GK X.K X.w X.mg x kvs) (h : DD X W a fd) (hg : Gl X x := by rfl) (hd : (x == ("__debug__" : Str)) = false := by decide) : DT X W (.Compare a [.In] [.Name x p] pos) (fun S => toB (fK (kInK kvs id) fd S)) := by
  obtain ⟨ad, es, n, h1, h2, h3⟩ := c.at_
  obtain ⟨t, pp, q⟩ := h.run
  refine ⟨_, pt_cmpR (op_in_kd h2) pp (pe_glob (v := .ref ad) hg h1 rfl hd) (by first | rfl | exact nomark _), fun G B S σ H Q r po => q G B S σ H _ r ?_⟩
  have po : Post X.K X.mg G W B σ RT Q ((fd S).bind fun x S1 => toB (kInK kvs id x S1)) := by
    unfold fK toB at po
    cases hf : fd S with
    | ok d S1 => rw [hf] at po; exact po
    | exc _ _ _ => rw [hf] at po; exact po
    | stuck => rw [hf] at po; exact po
  refine po.seq fun d S1 v B1 H1 e1 r1 x1 po1 => ?_
  unfold kInK at po1
  split at po1
  · rename_i z
    cases x1
    have po2 := po1 (kvs.lookup z).isSome B1 H1 (Ex.refl _) r1 rfl
    rcases h3 z with ⟨u, v, d, k1, k2, k3, k4⟩ | ⟨k1, k2⟩
    · rw [k1] at po2
      exact ⟨z, _, rfl, rfl, k2, _, rfl, po2⟩
    · rw [k1] at po2
      exact ⟨z, _, rfl, rfl, k2, _, rfl, po2⟩
  · exact po1.elim
theorem t_notInK {x : Str} {p : Pos} {kvs : List (Str × D)} (c : GK X.K X.w X.mg x kvs) (h : DD X W a fd) (hg : Gl X x := by rfl) (hd : (x == ("__debug__" : Str)) = false := by decide) : DT X W (.Compare a [.NotIn] [.Name x p] pos) (fun S => toB (fK (kInK kvs not) fd S)) := by
  obtain ⟨ad, es, n, h1, h2, h3⟩ := c.at_
  obtain ⟨t, pp, q⟩ := h.run
  refine ⟨_, pt_cmpR (op_notIn_kd h2) pp (pe_glob (v := .ref ad) hg h1 rfl hd) (by first | rfl | exact nomark _), fun G B S σ H Q r po => q G B S σ H _ r ?_⟩
  have po : Post X.K X.mg G W B σ RT Q ((fd S).bind fun x S1 => toB (kInK kvs not x S1)) := by
    unfold fK toB at po
    cases hf : fd S with
    | ok d S1 => rw [hf] at po; exact po
    | exc _ _ _ => rw [hf] at po; exact po
    | stuck => rw [hf] at po; exact po
  refine po.seq fun d S1 v B1 H1 e1 r1 x1 po1 => ?_
  unfold kInK at po1
  split at po1
  · rename_i z
    cases x1
    have po2 := po1 (!(kvs.lookup z).isSome) B1 H1 (Ex.refl _) r1 rfl
    rcases h3 z with ⟨u, v, d, k1, k2, k3, k4⟩ | ⟨k1, k2⟩
    · rw [k1] at po2
      exact ⟨z, _, rfl, rfl, k2, _, rfl, po2⟩
    · rw [k1] at po2
      exact ⟨z, _, rfl, rfl, k2, _, rfl, po2⟩
  · exact po1.elim
theorem d_itemK {x : Str} {p : Pos} {kvs : List (Str × D)} (c : GK X.K X.w X.mg x kvs) (h : DD X W b fd) (hg : Gl X x := by rfl) (hd : (x == ("__debug__" : Str)) = false := by decide) (hs : PlainIx b := by exact fun _ _ => rfl) : DE X W (.Subscript (.Name x p) b pos) (fK (kItK kvs) fd) := by
  obtain ⟨ad, es, n, h1, h2, h3⟩ := c.at_
  obtain ⟨t, pp, q⟩ := h.run
  refine ⟨_, pe_ix ix_kdict (pe_glob (v := .ref ad) hg h1 rfl hd) pp hs, fun G B S σ H Q r po => q G B S σ H _ r (po.seq fun d S1 v B1 H1 e1 r1 x1 po1 => ?_)⟩
  unfold kItK at po1
  split at po1
  · rename_i z
    cases x1
    rcases h3 z with ⟨u, v, d, k1, k2, k3, k4⟩ | ⟨k1, k2⟩
    · rw [k1] at po1
      exact ⟨ad, z, v, rfl, rfl, ⟨es, n, u, h2.at_, h2.lit, k2, k3⟩, post_ok r1 (k4 _) po1⟩
    · rw [k1] at po1
      exact po1.elim
  · exact po1.elim
end
end DL

set_option maxRecDepth 100000
set_option maxHeartbeats 1000000
/-! DL11: short words for the printed walks -/
namespace DL
open PySem PySem.Spec PyProof.Rows L2
variable [Tbl]
abbrev fzF (f : AS → Rs SV) : AS → Rs D := fun S => fzR (f S)
abbrev inF (f : AS → Rs D) : AS → Rs SV := fun S => inR (f S)
abbrev toBF (f : AS → Rs SV) : AS → Rs Bool := fun S => toB (f S)
/-- how many arguments a list of arguments gives -/
structure AlLen (f : AS → Rs AL) (n : Nat) : Prop where
  at_ : ∀ S as S', f S = .ok as S' → as.length = n
theorem alLen_nil : AlLen lNil 0 := ⟨fun S as S' h => by cases h; rfl⟩
theorem alLen_cons {f : AS → Rs D} {g : AS → Rs AL} {n : Nat} (h : AlLen g n) : AlLen (lCons f g) (n + 1) := ⟨fun S as S' e => by
  unfold lCons at e
  cases hf : f S with
  | ok d S1 =>
    rw [hf] at e
    simp only [Rs.bind_ok] at e
    cases hg : g S1 with
    | ok ds S2 =>
      rw [hg] at e
      simp only [Rs.bind_ok] at e
      cases e
      rw [List.length_cons, h.at_ _ _ _ hg]
    | exc c w S2 => rw [hg] at e; cases e
    | stuck => rw [hg] at e; cases e
  | exc c w S1 => rw [hf] at e; cases e
  | stuck => rw [hf] at e; cases e⟩
theorem alLen_loan {i : Nat} {g : AS → Rs AL} {n : Nat} (h : AlLen g n) : AlLen (lLoan i g) (n + 1) := ⟨fun S as S' e => by
  unfold lLoan at e
  split at e
  · cases hg : g S with
    | ok ds S2 =>
      rw [hg] at e
      simp only [Rs.bind_ok] at e
      cases e
      rw [List.length_cons, h.at_ _ _ _ hg]
    | exc c w S2 => rw [hg] at e; cases e
    | stuck => rw [hg] at e; cases e
  · cases e⟩
/-- a def of which nothing is promised -/
theorem ff_z {P : Program} {w : World} {K : PySem.W.Frag} {mg : Str → Option Value} {base : Heap} {x qual : Str} {params : Arguments} {body : List Stmt} {scope : Scope} {f : Addr} {fd : FuncData} {ps : List Str} {k n : Nat} {g : AL → List D → Fr} (F : FunD K x qual params body scope [] [] f fd) (hm : mg x = some (.ref f))
    (hbd : ∀ (kV doc pm : Value) (an : Option Addr) (cdv ct : Value) (us : List Value), us.length = ps.length → bindArgs (PySem.W.fnOf x qual params body scope .none kV doc pm an cdv ct) ⟨us, []⟩ = pure (ps.zip us))
    (hg : ∀ as ld, g as ld = .stuck) (hn : ps.length = n := by rfl) : FF P w K mg base k x n g := by
  subst hn
  refine ⟨f, fd, ps, hm, F.kp, F.bindsN hbd, ⟨fun vs H Q E h => h.1, fun A outer s H args us vs Q E hr he hb hv hs => ?_⟩⟩
  obtain ⟨_, B, as, PA, u, ld, _, _, _, _, _, po⟩ := hs
  rw [hg] at po
  exact po.elim
end DL

set_option maxRecDepth 100000
set_option maxHeartbeats 1000000
/-! DL12: bool(..), four names at once, two items swapped -/
namespace DL
open PySem PySem.Spec PyProof.Rows L2
variable [Tbl]
section
variable {X : Cx} {G : Gd} {W : XK} {k : Nat} {e a b c d : Expr} {rest es : List Expr} {pos : Pos} {fd gd hd : AS → Rs D} {fa ga : AS → Rs (List D)} {ft gt : AS → Rs Bool} {fe ge : AS → Rs SV}
def kBool : List D → AS → Rs SV
  | [.int i], S => okB (i != 0) S
  | [.bool b], S => okB b S
  | _, _ => .stuck
theorem c_bool : OpC X W (.type "bool") kBool := by
  refine ⟨_, call_bool1, fun G B S σ H Q ds vs r hx po => ?_⟩
  unfold kBool at po
  split at po
  · cases hx with | cons h t => cases t; cases h; exact .inl ⟨_, rfl, post_okB r po⟩
  · cases hx with | cons h t => cases t; cases h; exact .inr ⟨_, rfl, post_okB r po⟩
  · exact po.elim
theorem ResR.newH {K : PySem.W.Frag} {G : Gd} {B H : Hp} {S : AS} {σ : L2.St} {v : V} {r : SV} {p : Addr} {o : HO} (q : ResR K G B S σ H v r) (hp : H p = none) : ResR K G B S σ (upd H p o) v r := by
  cases r with
  | exn _ _ _ => exact q.elim
  | dat d => exact q
  | par _ _ => exact q.elim
  | own ds =>
    obtain ⟨a, vs, e, h1, h2⟩ := q
    exact ⟨a, vs, e, Ex.new hp _ _ h1, h2⟩
theorem ResR.setD {K : PySem.W.Frag} {G : Gd} {B H : Hp} {S : AS} {σ : L2.St} {v w : V} {r : SV} {i : Nat} {d : D} (q : ResR K G B S σ H v r) : ResR K G B (S.set i (some (.dat d))) (σ.set i (some w)) H v r := by
  cases r with
  | exn _ _ _ => exact q.elim
  | dat d => exact q
  | par _ _ => exact q.elim
  | own ds =>
    obtain ⟨a, vs, e, h1, h2, h3, h4, h5⟩ := q
    refine ⟨a, vs, e, h1, h2, h3, h4, fun j x e1 e2 => ?_⟩
    rcases get_set_eq e1 with ⟨_, z⟩ | ⟨hj, e1⟩
    · cases z
    · rw [List.getElem?_set_ne hj] at e2
      exact h5 j x e1 e2
def gPar4 (i j l m : Nat) (f1 f2 : AS → Rs D) (f3 : AS → Rs SV) (f4 : AS → Rs D) : AS → Out := fun S => (f1 S).out fun d1 S1 => (f2 S1).out fun d2 S2 => (f3 S2).out fun r S3 => (f4 S3).out fun d4 S4 =>
  .nx ((((S4.set i (some (.dat d1))).set j (some (.dat d2))).set l (some r)).set m (some (.dat d4)))
theorem s_par4 (i j l m : Nat) {x y z u : Str} {px py pz pu pt : Pos} {kt k2 pt2} {f1 f2 f4 : AS → Rs D} {f3 : AS → Rs SV} (C : Ctx X W k) (h1 : DD X W a f1) (h2 : DD X W b f2) (h3 : DE X W c f3) (h4 : DD X W d f4)
    (hi : X.N[i]? = some x := by rfl) (hj : X.N[j]? = some y := by rfl) (hl : X.N[l]? = some z := by rfl) (hm : X.N[m]? = some u := by rfl)
    (hx : Loc X.env.scope x := by first | exact Or.inl rfl | exact Or.inr rfl) (hy : Loc X.env.scope y := by first | exact Or.inl rfl | exact Or.inr rfl) (hz : Loc X.env.scope z := by first | exact Or.inl rfl | exact Or.inr rfl) (hu : Loc X.env.scope u := by first | exact Or.inl rfl | exact Or.inr rfl)
    (hfx : X.fn x = true := by rfl) (hfy : X.fn y = true := by rfl) (hfz : X.fn z = true := by rfl) (hfu : X.fn u = true := by rfl)
    (s1 : starEach [a, b, c, d] X.env = (false, eval a X.env) :: starEach [b, c, d] X.env := by rfl) (s2 : starEach [b, c, d] X.env = (false, eval b X.env) :: starEach [c, d] X.env := by rfl) (s3 : starEach [c, d] X.env = (false, eval c X.env) :: starEach [d] X.env := by rfl) (s4 : starEach [d] X.env = (false, eval d X.env) :: starEach [] X.env := by rfl)
    (t1 : (assignEach [.Name x px, .Name y py, .Name z pz, .Name u pu] X.env).map (·.2) = assign (.Name x px) X.env :: (assignEach [.Name y py, .Name z pz, .Name u pu] X.env).map (·.2) := by rfl)
    (t2 : (assignEach [.Name y py, .Name z pz, .Name u pu] X.env).map (·.2) = assign (.Name y py) X.env :: (assignEach [.Name z pz, .Name u pu] X.env).map (·.2) := by rfl)
    (t3 : (assignEach [.Name z pz, .Name u pu] X.env).map (·.2) = assign (.Name z pz) X.env :: (assignEach [.Name u pu] X.env).map (·.2) := by rfl)
    (t4 : (assignEach [.Name u pu] X.env).map (·.2) = assign (.Name u pu) X.env :: (assignEach [] X.env).map (·.2) := by rfl)
    (ln : (assignEach [.Name x px, .Name y py, .Name z pz, .Name u pu] X.env).length = 4 := by rfl)
    (hst : (assignEach [.Name x px, .Name y py, .Name z pz, .Name u pu] X.env).findIdx? (·.1) = none := by rfl)
    (hs : swapsWithSole [.Tuple [.Name x px, .Name y py, .Name z pz, .Name u pu] kt pt] (.Tuple [a, b, c, d] k2 pt2) pos.line X.env = pure false := by rfl) (hw : swappedStores [.Tuple [.Name x px, .Name y py, .Name z pz, .Name u pu] kt pt] (.Tuple [a, b, c, d] k2 pt2) X.env = pure none := by rfl)
    (ha : (assignEach [.Tuple [.Name x px, .Name y py, .Name z pz, .Name u pu] kt pt] X.env).map (·.2) = [assign (.Tuple [.Name x px, .Name y py, .Name z pz, .Name u pu] kt pt) X.env] := by rfl) :
    DS X W (.Assign [.Tuple [.Name x px, .Name y py, .Name z pz, .Name u pu] kt pt] (.Tuple [a, b, c, d] k2 pt2) pos) (gPar4 i j l m f1 f2 f3 f4) := by
  obtain ⟨te1, p1, q1⟩ := h1.run
  obtain ⟨te2, p2, q2⟩ := h2.run
  obtain ⟨te3, p3, q3⟩ := h3.run
  obtain ⟨te4, p4, q4⟩ := h4.run
  refine ⟨_, ps_asg (pe_tup (pa_cons p1 (pa_cons p2 (pa_cons p3 (pa_cons p4 pa_nil s4) s3) s2) s1)) (pg_tup C.calm (pgs_cons (pg_name C.nd hi hx (.inl hfx)) (pgs_cons (pg_name C.nd hj hy (.inl hfy)) (pgs_cons (pg_name C.nd hl hz (.inl hfz)) (pgs_cons (pg_name C.nd hm hu (.inl hfu)) pgs_nil t4) t3) t2) t1) ln hst) hs hw ha, fun G B S σ H En r po => ?_⟩
  refine q1 G B S σ H _ r (po.expr fun d1 S1 v1 B1 H1 e1 r1 x1 po1 => ?_)
  refine q2 G B1 S1 σ H1 _ r1 (po1.expr fun d2 S2 v2 B2 H2 e2 r2 x2 po2 => ?_)
  refine q3 G B2 S2 σ H2 _ r2 (po2.expr fun rr S3 v3 B3 H3 e3 r3 x3 po3 => ?_)
  obtain ⟨G', rg, keep⟩ := guardR r3 x3
  refine q4 G' B3 S3 σ H3 _ rg ?_
  cases hf : f4 S3 with
  | stuck => rw [hf] at po3; exact po3.elim
  | exc cc w S4 =>
    rw [hf] at po3
    intro Cc dd v' B4 H4 e0 e4 r4 dq hx'
    exact po3 Cc dd v' B4 σ H4 e0 e4 (keep B4 S4 σ H4 e4 r4).1 dq hx'
  | ok d4 S4 =>
    rw [hf] at po3
    intro v4 B4 H4 e4 r4 x4
    obtain ⟨k1, k2, _⟩ := keep B4 S4 σ H4 e4 r4
    refine ⟨by show (4 : Nat) ≤ sizeLine; decide, fun p hp => ⟨p, _, rfl, .inl (.inl upd_same), rfl, ?_⟩⟩
    have n1 := k1.newH (o := .tup [v1, v2, v3, v4]) hp
    have y1 : Dq X.K B4 v1 d1 := dq_mono (e2.trans (e3.trans e4)) _ _ x1
    have y2 : Dq X.K B4 v2 d2 := dq_mono (e3.trans e4) _ _ x2
    have z1 := n1.setR (i := i) (r := .dat d1) y1
    have z2 := z1.setR (i := j) (r := .dat d2) y2
    have z3 := z2.setR (i := l) (r := rr) (((k2.newH hp).setD).setD)
    have z4 := z3.setR (i := m) (r := .dat d4) x4
    exact ⟨_, _, rfl, _, _, rfl, _, _, rfl, _, _, rfl, rfl, po3 B4 _ _ e4 z4⟩
/-- x[b1], x[b2] = e1, e2 -/
def put1 (i : Nat) (d : D) (g : AS → Rs D) (k : AS → Out) : AS → Out := fun S => if ownAt i S = true then (g S).out (fun j S2 => match j with
    | .int j => (match chg i (putL j d) S2 with
      | some (_, S3) => k S3
      | none => .stuck)
    | _ => .stuck) else .stuck
def gPut2 (i : Nat) (f1 f2 g1 g2 : AS → Rs D) : AS → Out := fun S => (f1 S).out fun d1 S1 => (f2 S1).out fun d2 S2 => put1 i d1 g1 (put1 i d2 g2 (fun S5 => .nx S5)) S2
theorem put1_ok {i : Nat} {t : TE} {v : V} {dd : D} {gd : AS → Rs D} {kk : AS → Out} {B H : Hp} {S : AS} {σ : L2.St} {En : Ends} {nx : L2.St → Hp → Prop} (q2 : ∀ G B S σ H Q, Rep X.K G B S σ H → Post X.K X.mg G W B σ (RD X.K) Q (gd S) → t σ H Q)
    (r : Rep X.K G B S σ H) (x1 : Dq X.K B v dd) (po : PostS X.K X.mg G W B En (put1 i dd gd kk S)) (hk : ∀ B' S' H', Ex B B' → Rep X.K G B' S' σ H' → PostS X.K X.mg G W B' En (kk S') → nx σ H') :
    ∃ a, σ[i]? = some (some (.ref a)) ∧ t σ H fun w H2 => ∃ ad vs1 j m, V.ref a = .ref ad ∧ w = .int j ∧ H2 ad = some (.lst vs1) ∧ ixN vs1.length j = some m ∧ nx σ (upd H2 ad (.lst (vs1.set m v))) := by
  unfold put1 at po
  split at po
  · rename_i ho
    obtain ⟨a, vs, g1, g2⟩ := own_has r ho
    refine ⟨a, g1, q2 G B S σ H _ r (po.expr fun j S2 w B2 H2 e2 r2 x2 po2 => ?_)⟩
    split at po2
    · rename_i j
      cases x2
      cases hc : chg i (putL j dd) S2 with
      | none => rw [hc] at po2; exact po2.elim
      | some qq =>
        obtain ⟨d0, S3⟩ := qq
        rw [hc] at po2
        obtain ⟨a', vs1, ds, ds', k0, k1, k2, k3, k4⟩ := chg_at r2 hc
        rw [g1] at k0
        cases k0
        unfold putL at k3
        split at k3
        · rename_i m hm
          cases k3
          exact ⟨a, vs1, j, m, rfl, rfl, k1, by rw [k2.length]; exact hm, hk B2 S3 _ e2 (k4 _ (k2.set (dq_mono e2 _ _ x1) m)) po2⟩
        · cases k3
    · exact po2.elim
  · exact po.elim
theorem s_put2 (i : Nat) {x : Str} {b1 b2 : Expr} {px1 px2 sp1 sp2 pt : Pos} {kt k2 pt2} {f1 f2 g1 g2 : AS → Rs D} (C : Ctx X W k) (h1 : DD X W a f1) (h2 : DD X W b f2) (h3 : DD X W b1 g1) (h4 : DD X W b2 g2) (hN : X.N[i]? = some x := by rfl) (hv : Vis X.env.scope x := by first | exact Or.inl rfl | exact Or.inr (Or.inl rfl) | exact Or.inr (Or.inr rfl)) (hd : (x == ("__debug__" : Str)) = false := by decide)
    (hcd : (x == ("__classdict__" : Str)) = false := by decide)
    (s1 : starEach [a, b] X.env = (false, eval a X.env) :: starEach [b] X.env := by rfl) (s2 : starEach [b] X.env = (false, eval b X.env) :: starEach [] X.env := by rfl)
    (ht1 : ∀ v, assign (.Subscript (.Name x px1) b1 sp1) X.env v = (do
      let ov ← holding [v] (eval (.Name x px1) X.env)
      let iv ← holding [v, ov] (eval b1 X.env)
      standAt sp1
      holding [v, ov, iv] (setItem ov iv v)
      release [v, ov, iv] []) := by intro _; rfl)
    (ht2 : ∀ v, assign (.Subscript (.Name x px2) b2 sp2) X.env v = (do
      let ov ← holding [v] (eval (.Name x px2) X.env)
      let iv ← holding [v, ov] (eval b2 X.env)
      standAt sp2
      holding [v, ov, iv] (setItem ov iv v)
      release [v, ov, iv] []) := by intro _; rfl)
    (t1 : (assignEach [.Subscript (.Name x px1) b1 sp1, .Subscript (.Name x px2) b2 sp2] X.env).map (·.2) = assign (.Subscript (.Name x px1) b1 sp1) X.env :: (assignEach [.Subscript (.Name x px2) b2 sp2] X.env).map (·.2) := by rfl)
    (t2 : (assignEach [.Subscript (.Name x px2) b2 sp2] X.env).map (·.2) = assign (.Subscript (.Name x px2) b2 sp2) X.env :: (assignEach [] X.env).map (·.2) := by rfl)
    (ln : (assignEach [.Subscript (.Name x px1) b1 sp1, .Subscript (.Name x px2) b2 sp2] X.env).length = 2 := by rfl)
    (hst : (assignEach [.Subscript (.Name x px1) b1 sp1, .Subscript (.Name x px2) b2 sp2] X.env).findIdx? (·.1) = none := by rfl)
    (hs : swapsWithSole [.Tuple [.Subscript (.Name x px1) b1 sp1, .Subscript (.Name x px2) b2 sp2] kt pt] (.Tuple [a, b] k2 pt2) pos.line X.env = pure false := by rfl) (hw : swappedStores [.Tuple [.Subscript (.Name x px1) b1 sp1, .Subscript (.Name x px2) b2 sp2] kt pt] (.Tuple [a, b] k2 pt2) X.env = pure none := by rfl)
    (ha : (assignEach [.Tuple [.Subscript (.Name x px1) b1 sp1, .Subscript (.Name x px2) b2 sp2] kt pt] X.env).map (·.2) = [assign (.Tuple [.Subscript (.Name x px1) b1 sp1, .Subscript (.Name x px2) b2 sp2] kt pt) X.env] := by rfl) :
    DS X W (.Assign [.Tuple [.Subscript (.Name x px1) b1 sp1, .Subscript (.Name x px2) b2 sp2] kt pt] (.Tuple [a, b] k2 pt2) pos) (gPut2 i f1 f2 g1 g2) := by
  obtain ⟨te1, p1, q1⟩ := h1.run
  obtain ⟨te2, p2, q2⟩ := h2.run
  obtain ⟨te3, p3, q3⟩ := h3.run
  obtain ⟨te4, p4, q4⟩ := h4.run
  refine ⟨_, ps_asg (pe_tup (pa_cons p1 (pa_cons p2 pa_nil s2) s1)) (pg_tup C.calm (pgs_cons (pg_sub (pe_var hN hv hd hcd) p3 set_list ht1) (pgs_cons (pg_sub (pe_var hN hv hd hcd) p4 set_list ht2) pgs_nil t2) t1) ln hst) hs hw ha, fun G B S σ H En r po => ?_⟩
  refine q1 G B S σ H _ r (po.expr fun d1 S1 v1 B1 H1 e1 r1 x1 po1 => ?_)
  refine q2 G B1 S1 σ H1 _ r1 (po1.expr fun d2 S2 v2 B2 H2 e2 r2 x2 po2 => ?_)
  refine ⟨by show (2 : Nat) ≤ sizeLine; decide, fun p hp => ⟨p, _, rfl, .inl (.inl upd_same), rfl, ?_⟩⟩
  have n1 := r2.newH (o := .tup [v1, v2]) hp
  refine ⟨_, _, rfl, ?_⟩
  have key : ∀ B' S' H', Ex B2 B' → Rep X.K G B' S' σ H' → PostS X.K X.mg G W B' En (put1 i d2 g2 (fun S5 => .nx S5) S') → gCons (gSub (tVar i) te4 rSetL) gNil [v2] σ H' En.nx := fun B' S' H' e' r' po' => by
    refine ⟨_, _, rfl, ?_⟩
    obtain ⟨a2, w3, w4⟩ := put1_ok (nx := fun σ' H' => gNil [] σ' H' En.nx) q4 r' (dq_mono e' _ _ x2) po' fun B'' S'' H'' e'' r'' po'' => ⟨rfl, po'' B'' σ H'' (Ex.refl _) r''⟩
    exact ⟨_, w3, w4⟩
  obtain ⟨a1, w1, w2⟩ := put1_ok (nx := fun σ' H' => gCons (gSub (tVar i) te4 rSetL) gNil [v2] σ' H' En.nx) q3 n1 (dq_mono e2 _ _ x1) po2 key
  exact ⟨_, w1, w2⟩
end
end DL

set_option maxRecDepth 100000
set_option maxHeartbeats 1000000
/-! DL13: raising an own error that bears what -/
namespace DL
open PySem PySem.Spec PyProof.Rows L2
variable [Tbl]
/-- C(e), its own __init__ keeping sp, where the context stays none -/
theorem makeN {X : Cx} {k : Nat} {x : Str} {C fI : Addr} {fd : FuncData} {ps : List Str} {sp : Sp} {e : Expr} {ta : TA} {p pos : Pos} (T : OexC X.K C) (iC : PySem.W.findIn X.K (.ref C) "__init__" = some (some (.ref fI))) (tI : PySem.W.typeIn X.K (.ref fI) = some (.type "function"))
    (F1 : FnOk X.prog X.w X.K X.mg X.base (L2N.CX X.prog X.w) k fI fd ps sp) (room : Room (k + 1) X.A) (bd : Binds X.K fd ps []) (hx : Passes (L2N.CX X.prog X.w) X (fun _ _ _ => False)) (hg : Gl X x) (hm : X.mg x = some (.ref C)) (ha : PA X [e] ta)
    (hdb : (x == ("__debug__" : Str)) = false := by decide) (st : starEach [e] X.env = (false, eval e X.env) :: starEach [] X.env := by rfl) (pl : (backTo pos (starEach [] X.env)).any (·.1) = false := by rfl) : L2N.PMk X (.Call (.Name x p) [e] [] pos) (tMkO C sp [] ta) := by
  intro pins s σ H Q I hh
  obtain ⟨_, _, _, _, bm, _, _, _, _, _, _, _, _, _, _, clsC, mroC⟩ := T.cls
  refine wpAny_Call_Name_kw (ld_glob I hg hm (PySem.W.callWith_K (h₀ := X.base) I.ok.mod.kin T.kC (thn (ha.run pos pins s σ H _ I hh) fun us s1 ⟨vs, H1, J, rv, few, pr⟩ => ⟨J.kIn, ?_⟩) st pl) hdb)
  obtain ⟨g, gs, dr, tk', os⟩ := s1
  generalize hA : g.objs.size + 1 = A0
  have le0 : g.objs.size ≤ A0 := by omega
  have fr0 : H1 A0 = none := J.hok.fresh le0
  have got : ((g.push (PySem.W.kdv_tup us)).push (PySem.HandSPX.excO C g.objs.size)).get? A0 = some (PySem.HandSPX.excO C g.objs.size) := by subst hA; heap_get
  have stay : ∀ b o, g.get? b = some o → ((g.push (PySem.W.kdv_tup us)).push (PySem.HandSPX.excO C g.objs.size)).get? b = some o := fun b o z => Heap.get?_push_of_some _ (Heap.get?_push_of_some _ z)
  have J2 := J.laid (t' := tk') (h' := (g.push (PySem.W.kdv_tup us)).push (PySem.HandSPX.excO C g.objs.size)) stay le0 (exo_ok (P := X.prog) (w := X.w) (H := upd H1 A0 (exo A0 C none)) got)
  have pr0 := pr A0 fr0
  have rv2 : Vals (V.ref A0 :: (vs ++ [])) (Value.ref A0 :: us) := .cons rfl (by rw [List.append_nil]; exact rv)
  have len2 : (Value.ref A0 :: us ++ []).length = ps.length := by rw [List.append_nil, ← rv2.length]; exact F1.len _ _ _ _ pr0
  have few2 : us.length ≤ sizeLine := by rw [← Paired.length rv, sizeLine_eq]; omega
  have callee := codeAny_mono (F1.run _ X.stack _ _ ⟨Value.ref A0 :: us, []⟩ (Value.ref A0 :: us) _ _ (fun _ _ _ => False) (room.make C us []) (J2.env0.make C us []) (by have := bd _ (Value.ref A0 :: us) J2.kIn len2; rwa [List.append_nil] at this) rv2 pr0) (R' := fun r s' => match r with
    | .ok (.ret u) => u = .none ∧ L2N.MkP X pins σ Q (.ref A0) s'
    | .ok _ => False
    | .error er => X.xe er s') fun r s' z => ?_
  · show wpAny _ _ (call (.ref C) us) _ _ _
    subst hA
    refine wpAny_call (PySem.HandSPX.call_own F.excBase_ValueError (fun Y => PySem.HandSPX.refsVE_contains Y bm mroC) (J.kIn _ _ clsC) (PySem.W.looks_findIn J.kIn iC) (fun self => PySem.W.bind_fn J.kIn self tI) few2 (codeAny_mono callee fun r s' z => ?_))
    cases r with
    | error er => exact z
    | ok fl => cases fl <;> first | exact z | exact z.elim
  · cases r with
    | error er => exact hx pins σ _ _ er s' J2 z
    | ok fl =>
      cases fl with
      | ret u =>
        obtain ⟨v, H2, oeq, bare, un2, hok2, rvv, ev, d, fs, a1, a2, a3, a4⟩ := z
        subst ev
        obtain ⟨h2, g2, d2, t2, os'⟩ := s'
        obtain ⟨t0, G, K1, K2, K3, K4, K5⟩ := mk_end0 (d2 := d2) (t2 := t2) J le0 stay un2 hok2 oeq bare a1 a2 a3
        exact ⟨rvv, A0, _, _, ⟨G, g2, d2, t2, os'⟩, _, .ref C, some d, rfl, K1, K2, K3, K4, ⟨rfl, rfl, fun ws ew => by cases ew; rfl⟩, rfl, rfl, K5, rfl, bare, raises_own T.exC T.tyC, a4⟩
      | next => exact z.elim
      | brk => exact z.elim
      | cont => exact z.elim
/-- what __init__(self, what) promises -/
def spI (K : PySem.W.Frag) : Sp := fun vs H Q _ => ∃ (a C : Addr) (v : V), vs = [.ref a, v] ∧ OexC K C ∧ PySem.W.findIn K (.ref C) "what" = some none ∧ H a = some (exo a C none) ∧
  ∀ dx, H dx = none → dx ≠ a → Q .non (upd (upd H dx (exd dx [(("what" : Str), v)])) a (exo a C (some dx)))
structure RX (P : Program) (w : World) (K : PySem.W.Frag) (mg : Str → Option Value) (base : Heap) (x : Str) : Prop where
  ex : ∃ C fI fd ps, mg x = some (.ref C) ∧ OexC K C ∧ PySem.W.findIn K (.ref C) "__init__" = some (some (.ref fI)) ∧ PySem.W.typeIn K (.ref fI) = some (.type "function") ∧ PySem.W.findIn K (.ref C) "what" = some none ∧ Binds K fd ps [] ∧ FnOk P w K mg base (L2N.CX P w) 1 fI fd ps (spI K)
def gRaise (x : Str) (f : AS → Rs D) : AS → Out := fun S => (f S).out fun d S1 => .exc x d S1
theorem s_raise {X : Cx} {W : XK} {k : Nat} {x : Str} {e : Expr} {fd : AS → Rs D} {p pos pos2 : Pos} (C : Ctx X W k) (R : RX X.prog X.w X.K X.mg X.base x) (h : DD X W e fd) (hk : 2 ≤ k := by omega) (hg : Gl X x := by rfl)
    (hdb : (x == ("__debug__" : Str)) = false := by decide) (st : starEach [e] X.env = (false, eval e X.env) :: starEach [] X.env := by rfl) (pl : (backTo pos (starEach [] X.env)).any (·.1) = false := by rfl) : DS X W (.Raise (some (.Call (.Name x p) [e] [] pos)) none pos2) (gRaise x fd) := by
  obtain ⟨Ca, fI, fdI, ps, h1, h2, h3, h4, h5, h6, h7⟩ := R.ex
  obtain ⟨t, pp, q⟩ := h.run
  refine ⟨_, L2N.ps_raise C.calm C.tk (makeN h2 h3 h4 h7 (C.room.mono hk) h6 (L2N.passes_call (E := fun _ _ _ => False) C.tk fun _ _ _ _ z => z.elim) hg h1 (pa_cons pp pa_nil st) hdb st pl), fun G B S σ H En r po => ?_⟩
  refine q G B S σ H _ r (po.expr fun d S1 v B1 H1 e1 r1 x1 po1 => ?_)
  refine ⟨by show (1 : Nat) ≤ 1000; decide, fun a ha => ⟨a, Ca, v, rfl, h2, h5, upd_same, fun dx hd hne => ⟨rfl, dx, [(("what" : Str), v)], upd_same, ?_, ?_, ?_⟩⟩⟩
  · rw [upd_ne hne]; exact upd_same
  · rw [upd_ne hne] at hd; exact hd
  · have hd' : H1 dx = none := by rw [upd_ne hne] at hd; exact hd
    have eH : upd (del (upd (upd (upd H1 a (exo a Ca none)) dx (exd dx [(("what" : Str), v)])) a (exo a Ca (some dx))) a) dx (.xd [(("what" : Str), v)]) = upd H1 dx (.xd [(("what" : Str), v)]) := by
      funext b
      by_cases hb : b = dx
      · subst hb; rw [upd_same, upd_same]
      · rw [upd_ne hb, upd_ne hb]
        by_cases hba : b = a
        · subst hba; rw [del_same]; exact ha.symm
        · rw [del_ne hba, upd_ne hba, upd_ne hb, upd_ne hba]
    rw [eH]
    exact po1 Ca dx v B1 σ _ h1 (Ex.refl _) (r1.newH hd') x1 upd_same
end DL

set_option maxRecDepth 100000
set_option maxHeartbeats 2000000
/-! DL14: lists walked and tuples unpacked while an error is handled -/
namespace DL
open PySem PySem.Spec PyProof.Rows L2 HotX MeetsSeq
section
variable {prog : Program} {w : World} {A : Around} {E : Value → Shared → Prop} {s : Shared}
theorem list_end_hot {it l x1 : Addr} {i : Nat} {xs : Array Value} {Q : Option Value → Shared → Prop} (hot : HotAt A x1 s.heap) (st : s.heap.IsListIter it l i) (dif : x1 ≠ it) (pl : s.heap.IsList l xs) (no : xs[i]? = none)
    (fin : ∀ g, Heap.ExtBut it s.heap g → Q none { s with heap := g }) : wpAny (model prog w) A (pyNext (.ref it)) Q E s := by
  obtain ⟨oi, gi, ci, di⟩ := id st
  obtain ⟨oL, gL, _, kL, dL⟩ := pl
  obtain ⟨hA, oE, fE, gE, dE, cE⟩ := hot
  unfold pyNext
  refine wpAny_bind (wpAny_attempt (wpAny_callSpecial?_slot (name := Str.ofString "__next__") st.typeIs slot_listiter_next (wpAny_call_entry slot_listiter_next st.typeIs entry_listiter_next ?_ (args_listiter_next _))))
  show wpAny _ _ (field (.ref it) 0 >>= _) _ _ s
  refine wpAny_bind (wpAny_field gi di (x := .ref l) rfl ?_)
  show wpAny _ _ (if (Value.ref l == Value.none) = true then _ else _) _ _ s
  have nn : ¬ ((Value.ref l == Value.none) = true) := Bool.false_ne_true
  rw [if_neg nn]
  show wpAny _ _ (field (.ref it) 1 >>= _) _ _ s
  refine wpAny_bind (wpAny_field gi di (x := .int i 0) rfl (wpAny_bind (wpAny_seqItems gL dL ?_)))
  simp only [Int.toNat_natCast, no]
  refine wpAny_bind (wpAny_rule (wpAny_bind (wpAny_setField gi di (by simp) ?_)))
  have gE' : (s.heap.update it (Obj.mapFields (·.setIfInBounds 0 .none))).get? x1 = some oE := by rw [Heap.get?_update_other _ _ (Ne.symm dif)]; exact gE
  show wpAny _ _ (newExc (.type "StopIteration") [] >>= raiseNew) _ _ _
  refine wpAny_bind ?_
  simp only [newExc, newTuple]
  refine wpAny_bind (wpAny_newObj_type (wpAny_bind (m := firstArgMember _ _) (wpAny_of_eq (a := Value.none) (by first | rfl | (simp only [firstArgMember]; rfl)) (wpAny_newObj_type ?_ (by size_fits)))) (by size_fits))
  refine raiseNew_hot ⟨hA, oE, fE, Heap.get?_push_of_some _ (Heap.get?_push_of_some _ gE'), dE, cE⟩ (Nat.ne_of_lt (Heap.lt_size (Heap.get?_push_of_some _ gE'))) (Heap.get?_push_size _ rfl) rfl (by first | (simp; done) | (simp; omega)) ?_
  refine wpAny_bind (wpAny_isInstance (T := "StopIteration") (b := true) ⟨_, Heap.get?_update_self _ (Heap.get?_push_size _ rfl) rfl, rfl⟩ isSubtype_stop (wpAny_pure (fin _ fun b u hb e => ?_)))
  have e1 : (s.heap.update it (Obj.mapFields (·.setIfInBounds 0 .none))).get? b = some u := by rw [Heap.get?_update_other _ _ (Ne.symm hb)]; exact e
  rw [Heap.get?_update_other _ _ (Nat.ne_of_gt (Heap.lt_size (Heap.get?_push_of_some _ e1)))]
  exact Heap.get?_push_of_some _ (Heap.get?_push_of_some _ e1)
theorem tup_end_hot {it l x1 : Addr} {i : Nat} {xs : Array Value} {Q : Option Value → Shared → Prop} (hot : HotAt A x1 s.heap) (st : IsTupIter s.heap it l i) (dif : x1 ≠ it) (pl : IsTup s.heap l xs) (no : xs[i]? = none)
    (fin : ∀ g, Heap.ExtBut it s.heap g → Q none { s with heap := g }) : wpAny (model prog w) A (pyNext (.ref it)) Q E s := by
  obtain ⟨oi, gi, ci, di⟩ := id st
  obtain ⟨oL, gL, _, kL, dL⟩ := pl
  obtain ⟨hA, oE, fE, gE, dE, cE⟩ := hot
  unfold pyNext
  refine wpAny_bind (wpAny_attempt (wpAny_callSpecial?_slot (name := Str.ofString "__next__") st.typeIs slot_tupleiter_next (wpAny_call_entry slot_tupleiter_next st.typeIs entry_tupleiter_next ?_ (args_tupleiter_next _))))
  show wpAny _ _ (field (.ref it) 0 >>= _) _ _ s
  refine wpAny_bind (wpAny_field gi di (x := .ref l) rfl ?_)
  show wpAny _ _ (if (Value.ref l == Value.none) = true then _ else _) _ _ s
  have nn : ¬ ((Value.ref l == Value.none) = true) := Bool.false_ne_true
  rw [if_neg nn]
  show wpAny _ _ (field (.ref it) 1 >>= _) _ _ s
  refine wpAny_bind (wpAny_field gi di (x := .int i 0) rfl (wpAny_bind (wpAny_seqItems gL dL ?_)))
  simp only [Int.toNat_natCast, no]
  refine wpAny_bind (wpAny_rule (wpAny_bind (wpAny_setField gi di (by simp) ?_)))
  have gE' : (s.heap.update it (Obj.mapFields (·.setIfInBounds 0 .none))).get? x1 = some oE := by rw [Heap.get?_update_other _ _ (Ne.symm dif)]; exact gE
  show wpAny _ _ (newExc (.type "StopIteration") [] >>= raiseNew) _ _ _
  refine wpAny_bind ?_
  simp only [newExc, newTuple]
  refine wpAny_bind (wpAny_newObj_type (wpAny_bind (m := firstArgMember _ _) (wpAny_of_eq (a := Value.none) (by first | rfl | (simp only [firstArgMember]; rfl)) (wpAny_newObj_type ?_ (by size_fits)))) (by size_fits))
  refine raiseNew_hot ⟨hA, oE, fE, Heap.get?_push_of_some _ (Heap.get?_push_of_some _ gE'), dE, cE⟩ (Nat.ne_of_lt (Heap.lt_size (Heap.get?_push_of_some _ gE'))) (Heap.get?_push_size _ rfl) rfl (by first | (simp; done) | (simp; omega)) ?_
  refine wpAny_bind (wpAny_isInstance (T := "StopIteration") (b := true) ⟨_, Heap.get?_update_self _ (Heap.get?_push_size _ rfl) rfl, rfl⟩ isSubtype_stop (wpAny_pure (fin _ fun b u hb e => ?_)))
  have e1 : (s.heap.update it (Obj.mapFields (·.setIfInBounds 0 .none))).get? b = some u := by rw [Heap.get?_update_other _ _ (Ne.symm hb)]; exact e
  rw [Heap.get?_update_other _ _ (Nat.ne_of_gt (Heap.lt_size (Heap.get?_push_of_some _ e1)))]
  exact Heap.get?_push_of_some _ (Heap.get?_push_of_some _ e1)
/-- (a, b, ..) = a tuple, there -/
theorem spread_hot {env : Env} {elts : List Expr} {k0} {pos : Pos} {t x1 : Addr} {xs : Array Value} {Q : Unit → Shared → Prop} (hot : HotAt A x1 s.heap) (ht : IsTup s.heap t xs) (hn : (assignEach elts env).length = xs.size) (noStar : (assignEach elts env).findIdx? (·.1) = none)
    (go : ∀ g, Heap.ExtBut s.heap.objs.size s.heap g → wpAny (model prog w) A (assignInOrder ((assignEach elts env).map (·.2)) xs.toList) Q E { s with heap := g }) : wpAny (model prog w) A (assign (.Tuple elts k0 pos) env (.ref t)) Q E s := by
  rw [assign_Tuple]
  refine wpAny_bind (wpAny_standAt ?_)
  unfold unpack
  rw [hn, noStar]
  have tlt : t < s.heap.objs.size := by obtain ⟨o, ho, _⟩ := ht; exact Heap.lt_size ho
  have xlt : x1 < s.heap.objs.size := by obtain ⟨_, o, _, ho, _⟩ := hot; exact Heap.lt_size ho
  refine wpAny_bind (wpAny_holding ?_)
  unfold unpackItems notIterableAtAll
  refine wpAny_bind (wpAny_bind (wpAny_specialOf ht.typeIs slot_tuple_iter.lookup (wpAny_pure ?_)))
  simp only [Bool.false_eq_true, if_false]
  refine wpAny_bind (wpAny_holding (iter_tuple ht ?_))
  refine wpAny_bind (wpAny_holding (draw_tuple (Nat.ne_of_lt tlt) xs.size 0 _ _ ⟨_, Heap.get?_push_size _ rfl, rfl, rfl⟩ (ht.push _) (by omega) fun g1 st1 sb1 => ?_))
  have whole : List.take xs.size (List.drop 0 xs.toList) = xs.toList := by rw [List.drop_zero]; exact List.take_of_length_le (by simp)
  rw [whole, if_neg (by simp)]
  have ht1 : IsTup g1 t xs := (ht.push _).extBut sb1.extBut (Nat.ne_of_lt tlt)
  have hot1 : HotAt A x1 g1 := by
    obtain ⟨a1, o, vs, a2, a3, a4⟩ := hot
    exact ⟨a1, o, vs, sb1.extBut _ _ (Nat.ne_of_lt xlt) (Heap.get?_push_of_some _ a2), a3, a4⟩
  refine wpAny_bind (wpAny_holding (tup_end_hot hot1 st1 (Nat.ne_of_lt xlt) ht1 (by simp) fun g2 eb2 => ?_))
  simp only [Option.isSome_none, Bool.false_eq_true, if_false]
  exact wpAny_pure (go g2 fun b o hb e => eb2 b o hb (sb1.extBut b o hb (Heap.get?_push_of_some _ e)))
end
end DL

set_option maxRecDepth 100000
set_option maxHeartbeats 4000000
/-! DL15: [.. for .. in a list if ..] while an error is handled -/
namespace DL
open PySem PySem.Spec PyProof.Rows L2 L2H HotX
/-- a target, stored in while an error is handled -/
structure PGh (X : Cx) (tg : Expr) (t : TG) : Prop where
  run : ∀ (pins : List (Addr × Obj)) (s : Shared) (σ : L2.St) (H : Hp) (v : V) (u : Value) (Q : L2.St → Hp → Prop) (x1 : Addr), Inv X pins σ H s → HotAt X.A x1 s.heap → RelV v u → t v σ H Q →
    wpAny (model X.prog X.w) X.A (assign tg X.env u) (fun _ s2 => ∃ σ2 H2, Inv X pins σ2 H2 s2 ∧ Q σ2 H2) X.xe s
theorem pgh_tup {X : Cx} {es : List Expr} {k : Nat} {pos : Pos} {t : TGs} {n : Nat} (h : PGs X es t) (hn : (assignEach es X.env).length = n) (st : (assignEach es X.env).findIdx? (·.1) = none) : PGh X (.Tuple es k pos) (gTup X.K n t) := ⟨fun pins s σ H v u Q x1 I hot r hw => by
  obtain ⟨a, xs, rfl, hq, hl, hw⟩ := hw
  cases r
  obtain ⟨its, rv, ht, hz⟩ := I.tuple hq
  refine spread_hot hot ht (by rw [hn, ← hl, rv.length]; simp) st fun g eb => ?_
  have J : Inv X pins σ H { s with heap := g } := I.kept (t' := s.toks) fun b o e => eb b o (Nat.ne_of_lt (Heap.lt_size e)) e
  exact h.run pins _ σ H xs _ Q J (by simpa using rv) hw⟩
section
variable {X : Cx}
theorem nofrs {pins : List (Addr × Obj)} {σ : L2.St} {H : Hp} {s : Shared} (I : Inv X pins σ H s) {a : Addr} (h1 : a ≠ X.env.locals) (h2 : a ∉ X.fs) : a ∉ frs X.stack := fun hm => by
  rcases I.ok.stk with e | ⟨e, f⟩
  · rw [e] at hm; exact h2 hm
  · rw [e] at hm
    unfold frs at hm
    rw [List.filterMap_cons, f] at hm
    rcases List.mem_cons.mp hm with z | z
    · exact h1 z
    · exact h2 z
theorem pe_lcH {elt tg iter : Expr} {ifs : List Expr} {scope : Scope} {own : List (Str × Nat)} {pos : Pos} {tl te : TE} {g : TG} {tt : TT} (hc : HotC X) (hN : X.N.Nodup) (hl : PE X iter tl) (ok : BlkOk X.N X.env.scope scope own)
    (hg : ∀ (s : Shared) (H : Hp) (C : Addr) (cl : List (Str × Addr)) (fp : List Addr), PGh (X.blk s H scope (compEnvC scope cl C X.env) fp) tg g)
    (ht : ∀ (s : Shared) (H : Hp) (C : Addr) (cl : List (Str × Addr)) (fp : List Addr), PTs (X.blk s H scope (compEnvC scope cl C X.env) fp) ifs tt)
    (he : ∀ (s : Shared) (H : Hp) (C : Addr) (cl : List (Str × Addr)) (fp : List Addr), PE (X.blk s H scope (compEnvC scope cl C X.env) fp) elt te)
    (hs : ∀ x, foldedSetIterable iter X.env x = pure x := by intro _; rfl) : PE X (.ListComp elt [⟨tg, iter, ifs, 0⟩] scope pos) (tLc (iList X.K tl) g tt te (own.map (·.2))) := by
  refine ⟨fun pins s σ H Q I h => ?_⟩
  obtain ⟨⟨a, oe⟩, ⟨hA, fe, de, kE⟩, hpn⟩ := hc
  have free1 : ∀ y ∈ scope.names, y.2 = .free → ∃ c, X.env.cells.lookup y.1 = some c := fun y hy e => (ok.free y hy e).elim (fun k => I.ok.has _ (.inl k)) fun k => I.ok.has _ (.inr k)
  rw [eval_ListComp]
  refine wpAny_comprehension_free (use := none) rfl hs (closure_ok free1) ok.kind (fun y hy e => by rw [ok.uniq y hy, e]) (thn (hl.run pins s σ H _ I h) fun xv s1 ⟨x, H1, I1, r1, l, ex, ⟨xs, hq⟩, q⟩ => ?_)
  subst ex
  cases r1
  obtain ⟨its, rv, pl, hz⟩ := I1.list hq
  refine wpAny_pyIter_list pl.isList ?_
  generalize hit : s1.heap.objs.size = it
  -- the iterator is made
  generalize hs2 : ({ s1 with heap := s1.heap.push { cls := .type "list_iterator", data := .fields #[.ref l, .int 0 0] } } : Shared) = s2
  have I2 : Inv X pins σ H1 s2 := by rw [← hs2]; exact I1.kept (t' := s1.toks) fun b o e => Heap.get?_push_of_some _ e
  have st2 : s2.heap.IsListIter it l 0 := by rw [← hs2, ← hit]; exact ⟨_, Heap.get?_push_size _ rfl, rfl, rfl⟩
  have itH : H1 it = none := by rw [← hit]; exact I1.hok.fresh (Nat.le_refl _)
  have f2 : FpOk X pins H1 it := I1.fpOk (by rw [hit]; exact Nat.le_refl _) itH
  have it2 : it < s2.heap.objs.size := by obtain ⟨o, e, _⟩ := st2; exact Heap.lt_size e
  refine wpAny_newObj_type (newEnv_comp ?_) (by show 0 ≤ sizeLine; decide)
  generalize hD : s2.heap.objs.size = Dn
  have Dfree : H1 Dn = none := I2.hok.fresh (Nat.le_of_eq hD)
  obtain ⟨W, ⟨m0, w0⟩, turn⟩ := q Dn Dfree
  generalize hs3 : ({ s2 with heap := s2.heap.push { cls := .type "list", data := .seq ([] : List Value).toArray } } : Shared) = s3
  have push3 : ∀ b o, s2.heap.get? b = some o → s3.heap.get? b = some o := fun b o e => by rw [← hs3]; exact Heap.get?_push_of_some _ e
  have I3 : Inv X pins σ (upd H1 Dn (.lst [])) s3 := by
    rw [← hs3]
    refine I2.laid (t' := s2.toks) (fun b o e => Heap.get?_push_of_some _ e) (Nat.le_of_eq hD) ⟨Nat.zero_le _, [], 0, .nil, ?_⟩
    rw [← hD]; exact Heap.get?_push_size _ rfl
  have size3 : s3.heap.objs.size = Dn + 1 := by rw [← hs3, ← hD]; exact Heap.size_push _ _
  have it3 : it < s3.heap.objs.size := by rw [size3, ← hD]; omega
  have f3 : ∀ b ∈ [it], FpOk X pins (upd H1 Dn (.lst [])) b ∧ b < s3.heap.objs.size := fun b hb => by
    obtain rfl : b = it := by simpa using hb
    refine ⟨⟨?_, f2.2⟩, it3⟩
    rw [upd_ne (by rw [← hD]; exact Nat.ne_of_lt it2)]; exact itH
  have st3 : s3.heap.IsListIter it l 0 := st2.at fun o e => push3 _ _ e
  have B4 := block_start I3 ok hN f3
  generalize hC : s3.heap.objs.size = C0 at B4
  have pg := hg s3 (upd H1 Dn (.lst [])) C0 (cellsFrom (C0 + 1) scope.names (cloFrom X.env.cells scope.names [])) [it]
  have pt := ht s3 (upd H1 Dn (.lst [])) C0 (cellsFrom (C0 + 1) scope.names (cloFrom X.env.cells scope.names [])) [it]
  have pe := he s3 (upd H1 Dn (.lst [])) C0 (cellsFrom (C0 + 1) scope.names (cloFrom X.env.cells scope.names [])) [it]
  show codeAny _ _ (.compStart (.ListComp elt [⟨tg, iter, ifs, 0⟩] scope pos) 0 (.ref it) (.ref Dn) (compEnvC scope (cellsFrom (C0 + 1) scope.names (cloFrom X.env.cells scope.names [])) C0 X.env)) (compPost (model X.prog X.w) X.A X.xe none (EP X pins σ Q) (.ref Dn) C0) { s3 with heap := pushCells (s3.heap.push { cls := .type "dict", data := .dict #[] }) scope.names }
  generalize hE : compEnvC scope (cellsFrom (C0 + 1) scope.names (cloFrom X.env.cells scope.names [])) C0 X.env = ce at B4 pg pt pe ⊢
  have cL : ce.locals = C0 := by rw [← hE]; rfl
  generalize hH3 : upd H1 Dn (.lst []) = H3 at I3 B4 pg pt pe w0 f3
  generalize hs4 : ({ s3 with heap := pushCells (s3.heap.push { cls := .type "dict", data := .dict #[] }) scope.names } : Shared) = s4 at B4 ⊢
  have push4 : ∀ b o, s3.heap.get? b = some o → s4.heap.get? b = some o := fun b o e => by rw [← hs4]; exact pushCells_keeps _ _ _ _ (Heap.get?_push_of_some _ e)
  have st4 : s4.heap.IsListIter it l 0 := st3.at fun o e => push4 _ _ e
  -- the error stays pinned
  obtain ⟨P1, P2, P3, P4, P5⟩ := I3.pin (a, oe) (List.mem_append_left _ hpn)
  have aIt : a ≠ it := fun z => by
    subst z
    obtain ⟨_, _, _, _, _, f6⟩ := (f3 a (by simp)).1
    exact f6 (a, oe) (List.mem_append_left _ hpn) rfl
  have I4 : Inv (X.blk s3 H3 scope ce [it]) [(a, oe)] (wipe σ (own.map (·.2))) H3 s4 := B4.pins_of fun p hp => by
    obtain rfl : p = (a, oe) := by simpa using hp
    exact ⟨push4 _ _ P1, P2, by show a ≠ ce.locals; rw [cL, ← hC]; exact Nat.ne_of_lt (Heap.lt_size P1), nofrs I3 P3 P4, P5⟩
  have hotI : ∀ {pl : List (Addr × Obj)} {σ' : L2.St} {H' : Hp} {s' : Shared}, Inv (X.blk s3 H3 scope ce [it]) ((a, oe) :: pl) σ' H' s' → HotAt X.A a s'.heap := fun {pl σ' H' s'} J => ⟨hA, oe, fe, (J.pin (a, oe) (by simp)).1, de, kE⟩
  have stat : ∀ {σ' : L2.St} {H' : Hp} {s' : Shared}, Inv (X.blk s3 H3 scope ce [it]) [(a, oe)] σ' H' s' → H' it = none → ∀ b ∈ [it], FpOk (X.blk s3 H3 scope ce [it]) [(a, oe)] H' b := fun {σ' H' s'} J hn b hb => by
    obtain rfl : b = it := by simpa using hb
    refine ⟨hn, (J.ok.exf b (by show b ∈ [b]; simp)).1, J.ok.exfs b (by show b ∈ [b]; simp), .inl (by show b ∈ [b]; simp), fun x c e => (J.ok.exf b (by show b ∈ [b]; simp)).2 x c e, fun p hp => ?_⟩
    obtain rfl : p = (a, oe) := by simpa using hp
    exact aIt
  have loop : codeAny (model X.prog X.w) X.A (.compLoop (.ListComp elt [⟨tg, iter, ifs, 0⟩] scope pos) 0 (.ref it) (.ref Dn) ce) (compPost (model X.prog X.w) X.A X.xe none (EP X pins σ Q) (.ref Dn) C0) s4 := by
    refine compLoop_any (fun n s' => ∃ i H', Inv (X.blk s3 H3 scope ce [it]) [(a, oe)] (wipe σ (own.map (·.2))) H' s' ∧ s'.heap.IsListIter it l i ∧ H' it = none ∧ W i n H') ?_ m0 ⟨0, H3, I4, st4, (f3 it (by simp)).1.1, w0⟩
    rintro n s5 ⟨i, H5, I5, st5, n5, w5⟩
    have ff := stat I5 n5
    obtain ⟨g0, g1, g2, g3, g4, g5⟩ := ff it (by simp)
    rcases turn i n H5 w5 with ⟨stop, qq⟩ | ⟨go, Nx, hNx, step⟩
    · obtain ⟨ys, hq5, hi5⟩ := stop
      obtain ⟨us, rv5, pl5, _⟩ := I5.list hq5
      refine list_end_hot (hotI I5) st5 aIt pl5.isList (by have := rv5.length; simp; omega) fun h6 eb => ?_
      have I6 : Inv (X.blk s3 H3 scope ce [it]) [(a, oe)] (wipe σ (own.map (·.2))) H5 { s5 with heap := h6 } := I5.turned (t' := s5.toks) (fun b o hb e => eb b o hb e) g0 g1 g3 g4 g5
      have I7 : Inv X pins σ H5 { s5 with heap := h6 } := I3.call' (ch := [it]) I6.os I6.base I6.hok I6.bare fun b hb => by
        obtain ⟨z0, z1, z2, z3, z4, z5⟩ := (f3 b hb).1
        exact ⟨z3, z1, z4, z5⟩
      have nC : H5 C0 = none := by have z : H5 ce.locals = none := I6.free; rw [cL] at z; exact z
      obtain ⟨m, hn, _⟩ := I6.loc
      have hn : h6.Ns ce.locals m := hn
      rw [cL] at hn
      obtain ⟨y0, y1, y2, y3, y4, y5⟩ := I3.fpOk (b := C0) (H' := H5) (Nat.le_of_eq hC) nC
      exact ⟨m, hn, fun h8 sb => ⟨.ref Dn, H5, I7.turned (t' := s5.toks) (fun b o hb e => (sb.2 b hb).trans e) y0 y1 y3 y4 y5, rfl, qq⟩⟩
    · obtain ⟨ys, y, hq5, hy5⟩ := id go
      obtain ⟨us, rv5, pl5, _⟩ := I5.list hq5
      obtain ⟨u, hu, ru⟩ := rv5.get hy5
      refine wpAny_pyNext_list_item st5 pl5.isList (x := u) (by simpa using hu) fun h6 st6 sb => ?_
      have I6 : Inv (X.blk s3 H3 scope ce [it]) [(a, oe)] (wipe σ (own.map (·.2))) H5 { s5 with heap := h6 } := I5.turned (t' := s5.toks) (fun b o hb e => (sb.2 b hb).trans e) g0 g1 g3 g4 g5
      obtain ⟨oi, ei, ci, di⟩ := id st6
      refine go_of (s := { s5 with heap := h6 }) ei ci di (by decide) ?_
      have I6' := I6.pinned (stat I6 n5) fun b hb => by
        obtain rfl : b = it := by simpa using hb
        exact ⟨oi, ei, fun v z => by rw [di] at z; cases z⟩
      have yl : (Itl X.K l).yld i H5 y H5 := ⟨rfl, fun zs hz => by rw [I5.list_inj hz hq5]; exact hy5⟩
      refine thnF (pg.run _ _ _ H5 y u _ a I6' (hotI I6') ru (step y H5 yl)) fun _ s8 ⟨σ8, H8, I8, hw8, q8⟩ => ?_
      refine thnF (pt.run _ s8 σ8 H8 _ I8 q8) fun b s9 ⟨H9, I9, q9⟩ => ?_
      have fin : ∀ {s' : Shared} {H' : Hp}, Inv (X.blk s3 H3 scope ce [it]) ([(a, oe)] ++ pinsAt [it] h6) σ8 H' s' → Nx H' → ∃ m, m < n ∧ ∃ i H', Inv (X.blk s3 H3 scope ce [it]) [(a, oe)] (wipe σ (own.map (·.2))) H' s' ∧ s'.heap.IsListIter it l i ∧ H' it = none ∧ W i m H' := fun {s' H'} J nx => by
        obtain ⟨m', hm, w'⟩ := hNx H' nx
        obtain ⟨z1, z2, _⟩ := J.pin (it, oi) (List.mem_append_right _ (List.mem_append_right _ (mem_pinsAt (by simp) ei)))
        refine ⟨m', hm, i + 1, H', J.unpinned.weak (by rw [← hw8, wipe_length]) (fun j v e => ?_), st6.at fun o e => ?_, z2, w'⟩
        · rw [← hw8] at e; exact (wipe_some e).1
        · have eo : o = oi := Option.some.inj (e.symm.trans ei)
          rw [eo]; exact z1
      cases b with
      | false => exact fin I9 (by simpa using q9)
      | true =>
        simp only [if_true] at q9 ⊢
        refine thnF (pe.run _ s9 σ8 H9 _ I9 q9) fun z s10 ⟨yv, H10, I10, r10, acc, hD10, hz10, nx⟩ => ?_
        exact app_ok (X := X.blk s3 H3 scope ce [it]) I10 hD10 hz10 r10 fun s11 I11 => fin I11 nx
  exact codeAny_compStart_list loop (wpAny_pyIter_listiter st4 loop)
end
end DL

set_option maxRecDepth 100000
set_option maxHeartbeats 4000000
/-! DL16: a suite that holds an error: isinstance, what, names, comprehensions -/
namespace DL
open PySem PySem.Spec PyProof.Rows L2 L2H HotX
variable [Tbl]
def rIsX (K : PySem.W.Frag) (Ce a d : Addr) : List V → Hp → VK → Prop := fun xs H Q => ∃ (c : V) (cv : Value) (b : Bool) (fs : List (Str × V)), xs = [.ref a, c] ∧ (∀ u, RelV c u → u = cv) ∧ PySem.W.kitOne K (.ref Ce) cv = some b ∧ H d = some (.xd fs) ∧ Q (.bl b) H
theorem call_isX {X : Cx} {a Ce d : Addr} {oe : Obj} {pn : List (Addr × Obj)} (C : ExcC X.K Ce) (hz : Zc (.ref Ce) (some d) oe) (hf : ∃ vs, oe.data = .fields vs) : CallR (X.suite a ((a, oe) :: pn)) (.builtin "isinstance") (rIsX X.K Ce a d) := by
  intro pins s σ H xs us Q I r h
  obtain ⟨c, cv, b, fs, rfl, hcv, e, hd, q⟩ := h
  cases r with | cons rx rr =>
  cases rr with | cons rt rr =>
  cases rr
  cases rx
  have ec := hcv _ rt
  subst ec
  obtain ⟨hget, _⟩ := I.pin (a, oe) (List.mem_append.mpr (.inl List.mem_cons_self))
  obtain ⟨vs, hv⟩ := hf
  have hx : ObjOk X.prog X.w H s.heap d (.xd fs) := I.hok d _ hd
  obtain ⟨mA, hns, _⟩ := hx
  obtain ⟨od, ho, _⟩ := lookIn_ns hns
  have J : PySem.W.InstAt s.heap a oe Ce (some od) := ⟨hget, hz.1, by unfold PySem.W.notCls; rw [hv] <;> rfl, by rw [hz.2]; exact ho⟩
  have hcl : (PySem.W.clsIn X.K Ce).isSome = true := by obtain ⟨cd, hc, _⟩ := PySem.W.any_some C.hd; rw [hc]; rfl
  exact PySem.W.kia_one (PySem.W.kitx_exc hcl C.hg C.hk C.hs C.ha C.hn C.ht C.hm) I.kIn J e (fun z => nomatch z) fun tk => ⟨.bl b, H, I.kept (t' := tk) fun _ _ z => z, rfl, q⟩
section
variable {X : Cx} {a Ce d : Addr} {oe : Obj} {pn : List (Addr × Obj)} {k : Nat} {pos : Pos} {fd gd : AS → Rs D} {fe : AS → Rs SV} {fa : AS → Rs (List D)}
/-- what is asked of the error at slot i -/
def fExn (i : Nat) (a d : Addr) (g : D → D) : AS → Rs D := fun S => match S[i]? with
  | some (some (.exn a' d' w)) => if a' = a ∧ d' = d then .ok (g w) S else .stuck
  | _ => .stuck
theorem exn_at {K : PySem.W.Frag} {mg : Str → Option Value} {G : Gd} {B H : Hp} {S : AS} {σ : L2.St} {i : Nat} {g : D → D} {Q : VK} {W : XK} (r : Rep K G B S σ H) (po : Post K mg G W B σ (RD K) Q (fExn i a d g S)) :
    ∃ w u, σ[i]? = some (some (.ref a)) ∧ H d = some (.xd [(("what" : Str), u)]) ∧ Dq K B u w ∧ Post K mg G W B σ (RD K) Q (.ok (g w) S) := by
  unfold fExn at po
  split at po
  · rename_i a' d' w e
    split at po
    · rename_i h
      obtain ⟨rfl, rfl⟩ := h
      obtain ⟨v, hv, rfl, u, h1, h2⟩ := r.sl _ _ e
      exact ⟨w, u, hv, h1, h2, po⟩
    · exact po.elim
  · exact po.elim
theorem d_isE (i : Nat) {n cn : Str} {Cc : Addr} {b : Bool} {p p2 p3 : Pos} (C : ExcC X.K Ce) (hz : Zc (.ref Ce) (some d) oe) (hf : ∃ vs, oe.data = .fields vs) (hm : X.mg "isinstance" = none) (hmc : X.mg cn = some (.ref Cc)) (hk : PySem.W.kitOne X.K (.ref Ce) (.ref Cc) = some b)
    (hN : (X.suite a ((a, oe) :: pn)).N[i]? = some n := by rfl) (hv : Vis (X.suite a ((a, oe) :: pn)).env.scope n := by first | exact Or.inl rfl | exact Or.inr (Or.inl rfl) | exact Or.inr (Or.inr rfl)) (hd : (n == ("__debug__" : Str)) = false := by decide) (hcd : (n == ("__classdict__" : Str)) = false := by decide)
    (hg : Gl (X.suite a ((a, oe) :: pn)) "isinstance" := by rfl) (hg2 : Gl (X.suite a ((a, oe) :: pn)) cn := by rfl) (hdc : (cn == ("__debug__" : Str)) = false := by decide)
    (h1 : starEach [Expr.Name n p2, Expr.Name cn p3] X.env = (false, eval (Expr.Name n p2) X.env) :: starEach [Expr.Name cn p3] X.env := by rfl) (h2 : starEach [Expr.Name cn p3] X.env = (false, eval (Expr.Name cn p3) X.env) :: starEach [] X.env := by rfl) (hpl : (backTo pos (starEach [Expr.Name cn p3] X.env)).any (·.1) = false := by rfl) :
    DD (X.suite a ((a, oe) :: pn)) W0 (.Call (.Name "isinstance" p) [.Name n p2, .Name cn p3] [] pos) (fExn i a d fun _ => .bool b) := by
  refine ⟨_, pe_callB (X := X.suite a ((a, oe) :: pn)) (call_isX C hz hf) hg hm (by rfl) (pa_cons (pe_var hN hv hd hcd) (pa_cons (pe_glob (v := .ref Cc) hg2 hmc rfl hdc) pa_nil h2) h1) (by decide) (by decide) h1 hpl, fun G B S σ H Q r po => ?_⟩
  obtain ⟨w, u, e1, e2, e3, po⟩ := exn_at r po
  exact ⟨_, e1, .ref Cc, .ref Cc, b, _, rfl, fun u hu => hu, hk, e2, po _ B H (Ex.refl _) r (.bl b)⟩
theorem d_what (i : Nat) {n : Str} {p : Pos} (T : XfC X.K Ce) (hno : PySem.W.findIn X.K (.ref Ce) "what" = some none) (hz : Zc (.ref Ce) (some d) oe) (hf : ∃ vs, oe.data = .fields vs)
    (hN : (X.suite a ((a, oe) :: pn)).N[i]? = some n := by rfl) (hv : Vis (X.suite a ((a, oe) :: pn)).env.scope n := by first | exact Or.inl rfl | exact Or.inr (Or.inl rfl) | exact Or.inr (Or.inr rfl)) (hd : (n == ("__debug__" : Str)) = false := by decide) (hcd : (n == ("__classdict__" : Str)) = false := by decide)
    (hb : attributeBase (.Name n p) "what" X.env (eval (.Name n p) X.env) = eval (.Name n p) X.env := by rfl) : DD (X.suite a ((a, oe) :: pn)) W0 (.Attribute (.Name n p) "what" pos) (fExn i a d id) := by
  refine ⟨_, pe_xf T hno hz hf (pe_var (X := X.suite a ((a, oe) :: pn)) hN hv hd hcd) hb, fun G B S σ H Q r po => ?_⟩
  obtain ⟨w, u, e1, e2, e3, po⟩ := exn_at r po
  exact ⟨_, e1, rfl, rfl, d, _, u, rfl, e2, rfl, po u B H (Ex.refl _) r e3⟩
end
section
variable {X : Cx} {W : XK} {k : Nat} {e elt tg iter : Expr} {ifs ts : List Expr} {is : List Nat} {pos : Pos} {scope : Scope} {fd fe : AS → Rs D} {fo : AS → Rs SV} {bd : D → AS → Option AS} {ft : AS → Rs Bool}
/-- name = value, whatever is handled -/
theorem s_setN (i : Nat) {x : Str} {pos' : Pos} (nd : X.N.Nodup) (h : DE X W e fo) (hi : X.N[i]? = some x := by rfl) (hx : Loc X.env.scope x := by first | exact Or.inl rfl | exact Or.inr rfl) (hs : swapsWith e (some (.Name x pos')) pos.line X.env = pure false := by rfl) (hf : X.fn x = true ∨ X.env.scope.names.lookup x = some .local := by first | exact .inl rfl | exact .inr rfl | assumption) :
    DS X W (.Assign [.Name x pos'] e pos) (gSetO i fo) := by
  obtain ⟨t, pp, q⟩ := h.run
  exact ⟨_, ps_set nd hi hx pp hs hf, fun G B S σ H En r po => q G B S σ H _ r (po.expr fun x S1 v B1 H1 e1 r1 x1 po1 => po1 B1 _ H1 (Ex.refl _) (r1.setR x1))⟩
structure DGh (X : Cx) (vs : List Nat) (tg : Expr) (bd : D → AS → Option AS) : Prop where
  run : ∃ t, PGh X tg t ∧ ∀ (G : Gd) (B : Hp) (S S' : AS) (σ : L2.St) (H : Hp) (v : V) (d : D) (Q : L2.St → Hp → Prop), Rep X.K G B S σ H → Dq X.K B v d → bd d S = some S' → (∀ σ', wipe σ' vs = wipe σ vs → Rep X.K G B S' σ' H → Q σ' H) → t v σ H Q
theorem gh_tup {vs : List Nat} {kt} {pt : Pos} (hu : UnpW X vs ts is) (hst : (assignEach ts X.env).findIdx? (·.1) = none := by rfl) : DGh X vs (.Tuple ts kt pt) (bTup is) := by
  obtain ⟨t, p, l, q⟩ := hu.run
  refine ⟨_, pgh_tup p l hst, fun G B S S' σ H v d Q r hd e qq => ?_⟩
  unfold bTup at e
  split at e
  · rename_i ds
    cases hd with | tup s al =>
    rename_i ad xs
    refine ⟨ad, xs, rfl, sqT_H r s, by rw [al.length, setAll_len _ _ _ _ e], q G B S S' σ H xs ds Q r al e qq⟩
  · cases e
theorem DGh.pgh {vs : List Nat} (h : DGh X vs tg bd) : PGh X tg (cGw X.K vs bd) := by
  obtain ⟨t, p, q⟩ := h.run
  refine ⟨fun pins s σ H v u Q x1 I hot r w => ?_⟩
  obtain ⟨G, B, S, S', d, r0, hd, e, qq⟩ := w
  exact p.run pins s σ H v u Q x1 I hot r (q G B S S' σ H v d Q r0 hd e qq)
theorem d_compH (hc : HotC X) (nd : X.N.Nodup) (own : List (Str × Nat)) (hi : DD X W iter fd) (hblk : blkC X.N X.env.scope scope own = true)
    (hg : ∀ (s : Shared) (H : Hp) (Cc : Addr) (cl : List (Str × Addr)) (fp : List Addr), DGh (X.blk s H scope (compEnvC scope cl Cc X.env) fp) (own.map (·.2)) tg bd)
    (ht : ∀ (s : Shared) (H : Hp) (Cc : Addr) (cl : List (Str × Addr)) (fp : List Addr), DTs (X.blk s H scope (compEnvC scope cl Cc X.env) fp) W0 ifs ft)
    (he : ∀ (s : Shared) (H : Hp) (Cc : Addr) (cl : List (Str × Addr)) (fp : List Addr), DD (X.blk s H scope (compEnvC scope cl Cc X.env) fp) W0 elt fe) (hs : ∀ x, foldedSetIterable iter X.env x = pure x := by intro _; rfl) :
    DE X W (.ListComp elt [⟨tg, iter, ifs, 0⟩] scope pos) (fLc (fSeq fd) bd ft fe (own.map (·.2))) := by
  obtain ⟨t, p, q⟩ := hi.run
  have q' : ∀ G B S σ H R, Rep X.K G B S σ H → Post X.K X.mg G W B σ (RI X.K) R (fSeq fd S) → iList X.K t σ H R := fun G B S σ H R r po => q G B S σ H _ r (po.seq fun d S1 v B1 H1 e1 r1 x1 po1 => by
    split at po1
    · cases x1 with | lst s al => exact ⟨_, rfl, ⟨_, rd_H r1 s⟩, po1 _ B1 H1 (Ex.refl _) r1 (itl_ok s al)⟩
    · exact po1.elim)
  exact ⟨_, pe_lcH (own := own) (g := cGw X.K (own.map (·.2)) bd) (tt := cT X.K X.mg W0 ft) (te := cD X.K X.mg W0 fe) hc nd p (blkOk_by hblk) (fun s H Cc cl fp => (hg s H Cc cl fp).pgh) (fun s H Cc cl fp => (ht s H Cc cl fp).pts) (fun s H Cc cl fp => (he s H Cc cl fp).pe) hs, fun G B S σ H Q r po => lc_run (W := W) q' r po⟩
end
end DL

set_option maxRecDepth 100000
set_option maxHeartbeats 4000000
/-! DL17: x(lambda: ..), the lambda's errors with no context -/
namespace DL
open PySem PySem.Spec PyProof.Rows L2 LamX
/-- the lambda's body, its errors lying as L2N says -/
def lamN (X : Cx) (A : Around) (outer : List Env) (s : Shared) (H : Hp) (E : XK) (scope : Scope) (f c' : Addr) : Cx :=
  (lamCx X A outer s H E scope f c').tr [] (fun e s2 => wpAny (model X.prog X.w) (A.deeper (lamEnv X scope s.heap.objs.size f c')) (leaving (lamEnv X scope s.heap.objs.size f c') e) (fun _ s3 => L2N.CX X.prog X.w outer H s E e s3) (fun e2 s3 => L2N.CX X.prog X.w outer H s E e2 s3) s2)
theorem lamN_ctx [Tbl] {X : Cx} {A : Around} {outer : List Env} {s : Shared} {H : Hp} {E : XK} {scope : Scope} {f c' : Addr} {k : Nat} (hr : Room k (A.deeper (lamEnv X scope s.heap.objs.size f c'))) (nd : X.N.Nodup) : Ctx (lamN X A outer s H E scope f c') E k :=
  ⟨L2N.takes_of rfl rfl rfl rfl, hr, rfl, nd, passes_of (X := lamN X A outer s H E scope f c') rfl⟩
abbrev hearCx (P : Program) (w : World) (K : PySem.W.Frag) (mg : Str → Option Value) (base : Heap) (Ng : List Str) (x : Str) (sg : Scope) (g : Addr) (cdg : Value) (A : Around) (outer : List Env) (s : Shared) (H : Hp) : Cx := cxOf C8.CX0 P w K mg base Ng x sg g cdg A outer s H C8.E0
section
variable {X : Cx} {pins : List (Addr × Obj)} {σ : L2.St} {H : Hp} {s : Shared}
theorem actN {Ng : List Str} {x : Str} {sg : Scope} {g f c' : Addr} {cdg pm ctv : Value} {params : Arguments} {body : Expr} {scope : Scope} {k : Nat} {a : Str} {pn : List (Addr × Obj)} {xe : Value → Shared → Prop} {W : WX} {E : XK} {tb : TE} {p1 p2 : Pos} (I : Inv X pins σ H s) (L : LamS X.env.scope scope)
    (obj : s.heap.get? f = some (PySem.W.kla_obj "<lambda>" (X.env.qual ++ "<lambda>") params body scope (cloFrom X.env.cells scope.names []) pm c' ctv)) (fnone : H f = none) (fout : f ∉ frs X.stack)
    (nobind : bindArgs (PySem.W.kla_fn "<lambda>" (X.env.qual ++ "<lambda>") params body scope (cloFrom X.env.cells scope.names []) pm (.ref c') ctv) ⟨[], []⟩ = pure [])
    (tk : L2N.Takes ((hearCx X.prog X.w X.K X.mg X.base Ng x sg g cdg X.A X.stack s H).tr pn xe) W) (hW : ∀ cls d σ' H', E cls d H' → W cls d σ' H') (room : Room (k + 1) (X.A.deeper (envOfC x sg s.heap.objs.size g cdg)))
    (bdy : ∀ (A : Around) (outer : List Env) (s : Shared) (H : Hp), Room k (A.deeper (lamEnv X scope s.heap.objs.size f c')) → PE (lamN X A outer s H E scope f c') body tb) (hN : Ng[0]? = some a) (hv : Vis sg a) (hd : (a == ("__debug__" : Str)) = false) (hcd : (a == ("__classdict__" : Str)) = false) :
    PE ((hearCx X.prog X.w X.K X.mg X.base Ng x sg g cdg X.A X.stack s H).tr pn xe) (.Call (.Name a p1) [] [] p2) (fun σZ HZ Q => σZ[0]? = some (some (.ref f)) ∧ HZ c' = some (CodeO c' (X.env.qual ++ "<lambda>")) ∧ tb σ HZ Q) := ⟨fun pz sz σz Hz Q Iz ⟨q0, qc, qt⟩ => by
  refine wpAny_Call_Name_kw (thn ((pe_var (pos := p1) (i := 0) hN hv hd hcd).run pz sz σz Hz (fun v H1 => v = .ref f ∧ H1 = Hz) Iz ⟨.ref f, q0, rfl, rfl⟩) fun u s1 ⟨v, H1, J, rv, ev, eh⟩ => ?_)
  subst ev
  subst eh
  obtain rfl : u = Value.ref f := rv
  have obj1 := J.base.keep f _ obj fnone fout (fun z => nomatch (show f ∈ ([] : List Addr) from z))
  have far : Un (frs X.stack) [] H H1 s.heap s1.heap := J.base
  obtain ⟨⟨oc, fs, t, c1, c2, c3⟩, _, _⟩ := J.hok c' _ qc
  refine PySem.W.callWith_F0 ⟨_, _, _, _, obj1⟩ (wpAny_call (codeAny_mono (R := CR (L2N.CX X.prog X.w) (envOfC x sg s.heap.objs.size g cdg :: X.stack) X.prog X.w H1 s1 Q E) (PySem.W.kla_callFunE room.depth obj1 rfl L.co L.gen rfl ⟨c', oc, fs, t, rfl, c1, c2, c3⟩ ?_) fun r s2 hq => ?_))
  · rw [List.nil_append, nobind]
    refine wpAny_pure (wpAny_newFunctionEnv (fun y hy => (L.own y hy).2) (fun y hy => absurd hy (by simp)) (fun h1 hns hsb => ⟨J.nolimit.fresh _ hsb, ?_⟩) L.kind)
    have kp : ∀ b o, s1.heap.get? b = some o → h1.get? b = some o := fun b o e => hsb.extBut b o (Nat.ne_of_lt (Heap.lt_size e)) (Heap.get?_push_of_some _ e)
    have J2 := (lam_start2 (E := E) (f := f) (c' := c') (tk := s1.toks + ([] : List (Str × Value)).length) I L J.env0 room.hd far hns kp).toTry (fun e s2 => wpAny (model X.prog X.w) ((X.A.deeper (envOfC x sg s.heap.objs.size g cdg)).deeper (lamEnv X scope s1.heap.objs.size f c')) (leaving (lamEnv X scope s1.heap.objs.size f c') e) (fun _ s3 => L2N.CX X.prog X.w (envOfC x sg s.heap.objs.size g cdg :: X.stack) H1 s1 E e s3) (fun e2 s3 => L2N.CX X.prog X.w (envOfC x sg s.heap.objs.size g cdg :: X.stack) H1 s1 E e2 s3) s2)
    exact PySem.W.kla_codeExpr (wpAny_mono ((bdy _ _ s1 H1 (room.deeper _)).run [] _ _ H1 Q J2 qt) (fun v s2 ⟨w', H', J', rv, q⟩ => ⟨w', H', J'.os, J'.bare, J'.base, J'.hok, rv, q⟩) fun e s2 hq => hq)
  · cases r with
    | error e => exact L2N.passes_call tk hW pz σz H1 s1 e s2 J hq
    | ok fl =>
      cases fl with
      | ret u => exact J.after hq
      | next => exact hq.elim
      | brk => exact hq.elim
      | cont => exact hq.elim⟩
end
variable [Tbl]
def kHeard (names : List Str) : Rs D → Rs D
  | .ok d S => .ok (.tuple [.str ("told" : Str), d]) S
  | .exc c w S => if c ∈ names then .ok (.tuple [.str c, w]) S else .stuck
  | .stuck => .stuck
/-- what heard makes of what it calls -/
def Hears (K : PySem.W.Frag) (mg : Str → Option Value) (names : List Str) (tl : XK → Hp → VK → Prop) (H : Hp) (Q : VK) : Prop :=
  ∃ (r : Rs D) (G : Gd) (B : Hp) (S : AS) (σ : L2.St), Rep K G B S σ H ∧ (∀ E Q', Post K mg G E B σ (RD K) Q' r → tl E H Q') ∧ Post K mg G W0 B σ (RD K) Q (kHeard names r)
/-- the def that hears: its body keeps this -/
def GivesN (P : Program) (w : World) (K : PySem.W.Frag) (mg : Str → Option Value) (base : Heap) (Ng : List Str) (x : Str) (sg : Scope) (g : Addr) (cdg : Value) (bg : List Stmt) (a : Str) (names : List Str) : Prop :=
  ∀ (A : Around) (outer : List Env) (f c' : Addr) (s : Shared) (H : Hp) (Q : VK) (tl : XK → Hp → VK → Prop) (q : Str),
    (∀ (W : WX) (pn : List (Addr × Obj)) (xe : Value → Shared → Prop) (E : XK) (p1 p2 : Pos), L2N.Takes ((hearCx P w K mg base Ng x sg g cdg A outer s H).tr pn xe) W → (∀ cls d σ' H', E cls d H' → W cls d σ' H') →
      PE ((hearCx P w K mg base Ng x sg g cdg A outer s H).tr pn xe) (.Call (.Name a p1) [] [] p2) (fun σZ HZ Q => σZ[0]? = some (some (.ref f)) ∧ HZ c' = some (CodeO c' q) ∧ tl E HZ Q)) →
    H c' = some (CodeO c' q) → Hears K mg names tl H Q →
    ∃ t, PSs (hearCx P w K mg base Ng x sg g cdg A outer s H).nox bg t ∧ t { nx := fun _ H' => Q .non H', rt := Q } (L2.start Ng [.ref f]) H
structure HX (P : Program) (w : World) (K : PySem.W.Frag) (mg : Str → Option Value) (base : Heap) (x : Str) (names : List Str) : Prop where
  ex : ∃ (g : Addr) (pg : Arguments) (bg : List Stmt) (sg : Scope) (dV kV doc pm cdv ct oc : Value) (an od : Option Addr) (osl : Array (Option Value)) (Ng : List Str) (a : Str), mg x = some (.ref g) ∧ PySem.W.keepIn K (.ref g) = true ∧
    K.lookup g = some ⟨oc, od, .func (PySem.W.fnOf x x pg bg sg dV kV doc pm an cdv ct), osl⟩ ∧ PySem.W.codeIn K cdv x = true ∧ L2.Binds K (PySem.W.fnOf x x pg bg sg dV kV doc pm an cdv ct) [a] [] ∧ FnScope Ng [a] sg ∧ Ng[0]? = some a ∧ Vis sg a ∧
    (a == ("__debug__" : Str)) = false ∧ (a == ("__classdict__" : Str)) = false ∧ GivesN P w K mg base Ng x sg g cdv bg a names
/-- the maker's code object and its table -/
structure TBC (K : PySem.W.Frag) (mg : Str → Option Value) (base : Heap) (cdv : Value) (q : Str) : Prop where
  ex : ∃ c P, cdv = .ref c ∧ TabB base mg c P ∧ (P, q ++ "<lambda>") ∈ Tbl.TT K ∧ ∀ p ∈ Tbl.TT K, p.1 = P → p.2 = q ++ "<lambda>"
theorem Rep.lam {K : PySem.W.Frag} {G : Gd} {B H H1 : Hp} {S : AS} {σ : L2.St} (r : Rep K G B S σ H) (e : ExtN H H1) (t : Tabs (Tbl.TT K) H1) : Rep K G B S σ H1 := by
  have dm : ∀ a, H1 a = none → G.H0 a = none := fun a h => r.g.nn (by
    cases q : H a with
    | none => unfold ntH; rw [q]
    | some o =>
      cases z : ntH H a with
      | none => rfl
      | some o' =>
        obtain ⟨z1, z2⟩ := nt_some z
        have := e a o' z1 z2
        rw [h] at this
        cases this)
  have ls : ∀ {a : Addr} {vs : List V}, H a = some (.lst vs) → H1 a = some (.lst vs) := fun h => e _ _ h fun ps z => by cases z
  refine ⟨⟨r.g.b0, r.g.bn, fun b o q => e b o (r.g.bh b o q) fun ps z => r.g.nt b ps (by rw [q, z]), r.g.nt, fun a o q ha hu => e a o (r.g.fr a o q ha hu) hu, dm, t, r.g.pa, r.g.ht, fun a ha => (r.g.pl a ha).imp fun _ z => ls z⟩, r.len, fun i sv q => ?_, r.ds, r.pj, r.pn⟩
  obtain ⟨v, h1, h2⟩ := r.sl i sv q
  refine ⟨v, h1, ?_⟩
  cases sv with
  | dat d => exact h2
  | own ds => obtain ⟨a, vs, z, g1, g2⟩ := h2; exact ⟨a, vs, z, ls g1, g2⟩
  | par k ds => obtain ⟨a, vs, z, g0, g1, g2⟩ := h2; exact ⟨a, vs, z, g0, ls g1, g2⟩
  | exn a d w => exact ExnR.mono h2 (Ex.refl _) fun d o z => e _ _ z fun ps z => by cases z
theorem heard_W {K : PySem.W.Frag} {mg : Str → Option Value} {G : Gd} {W : XK} {B : Hp} {σ : L2.St} {Q : VK} {names : List Str} {r : Rs D} (po : Post K mg G W B σ (RD K) Q (kHeard names r)) : Post K mg G W0 B σ (RD K) Q (kHeard names r) := by
  cases r with
  | ok d S => exact po
  | stuck => exact po
  | exc c w S =>
    have e : kHeard names (.exc c w S) = if c ∈ names then .ok (.tuple [.str c, w]) S else .stuck := rfl
    rw [e] at po ⊢
    by_cases h : c ∈ names
    · rw [if_pos h] at po ⊢; exact po
    · rw [if_neg h] at po; exact po.elim
/-- x(lambda: body) -/
theorem d_heard {X : Cx} {W : XK} {k : Nat} {x : Str} {names : List Str} {params : Arguments} {body : Expr} {scope : Scope} {p lpos pos : Pos} {f : AS → Rs D} (C : Ctx X W (k + 2)) (HH : HX X.prog X.w X.K X.mg X.base x names) (TB : TBC X.K X.mg X.base X.env.code X.env.qual)
    (bd : ∀ (A : Around) (outer : List Env) (s : Shared) (H : Hp) (E : XK) (fl c' : Addr), Ctx (lamN X A outer s H E scope fl c') E k → DD (lamN X A outer s H E scope fl c') E body f)
    (L : LamS X.env.scope scope := by exact lamS_by rfl) (hdef : defaultsOf params X.env = ([], []) := by rfl)
    (nobind : ∀ (q : Str) (cl : List (Str × Addr)) (pm cv ctv : Value), bindArgs (PySem.W.kla_fn "<lambda>" q params body scope cl pm cv ctv) ⟨[], []⟩ = pure [] := by intro _ _ _ _ _; rfl)
    (hg : Gl X x := by rfl) (hdb : (x == ("__debug__" : Str)) = false := by decide) : DD X W (.Call (.Name x p) [.Lambda params body scope lpos] [] pos) (fun S => kHeard names (f S)) := by
  obtain ⟨g, pg, bg, sg, dV, kV, doc, pm, cdv, ct, oc, an, od, osl, Ng, a, h1, h2, h3, h4, h5, h6, h7, h8, h9, h10, h11⟩ := HH.ex
  obtain ⟨c, P, t1, t2, t3, t4⟩ := TB.ex
  refine ⟨fun σ H Q => Tabs (Tbl.TT X.K) H ∧ ∀ H1, ExtN H H1 → Tabs (Tbl.TT X.K) H1 → Hears X.K X.mg names (fun E H' Q' => cD X.K X.mg E f σ H' Q') H1 Q, ⟨fun pins s σ H Q I ⟨hT, hh⟩ => ?_⟩, fun G B S σ H Q r po => ⟨r.g.tb, fun H1 e t => ⟨f S, G, B, S, σ, r.lam e t, fun E Q' po' => ⟨G, B, S, r.lam e t, po'⟩, heard_W po⟩⟩⟩
  refine wpAny_Call_Name_kw (ld_glob I hg h1 (PySem.W.callWith_K (h₀ := X.base) I.ok.mod.kin h2 ?_ (by rfl) (by rfl)) hdb)
  show wpAny _ _ (spliced ((false, eval (.Lambda params body scope lpos) X.env) :: backTo pos (starEach [] X.env))) _ _ s
  refine Calls.spliced_cons (lam_make2 I t2 t1 t3 t4 hT hdef (L.has I.ok) fun fl c' pm' ctv H1 s1 I1 eN T1 o1 o2 o3 o4 => Calls.spliced_nil ⟨I1.kIn, ?_⟩)
  refine wpAny_call (codeAny_mono (R := CR C8.CX0 X.stack X.prog X.w H1 s1 Q C8.E0) (run_ofS (N := Ng) (ps := [a]) (us := [.ref fl]) (vs := [.ref fl]) (k := k + 1) h3 h4 h6 C.room I1.env0 (h5 s1 [.ref fl] I1.kIn rfl) (.cons rfl .nil) rfl fun room' => ?_) fun r s2 hq => ?_)
  · obtain ⟨t', ht', hq'⟩ := h11 X.A X.stack fl c' s1 H1 Q (fun E H' Q' => cD X.K X.mg E f σ H' Q') (X.env.qual ++ "<lambda>") (fun W pn xe E p1 p2 tk hW => actN I1 L o1 o2 o3 (nobind _ _ _ _ _) tk hW room' (fun A outer s H hr => (bd A outer s H E fl c' (lamN_ctx hr C.nd)).pe) h7 h8 h9 h10) o4 (hh H1 eN T1)
    exact ⟨t', ht'.nox, hq'⟩
  · cases r with
    | error e => exact (show False from hq).elim
    | ok fl =>
      cases fl with
      | ret u => exact I1.after hq
      | next => exact hq.elim
      | brk => exact hq.elim
      | cont => exact hq.elim
end DL

set_option maxRecDepth 100000
set_option maxHeartbeats 4000000
/-! DL18: try: return 'told', call() / except: the name of the error and what it bears -/
namespace DL
open PySem PySem.Spec PyProof.Rows L2 LamX
theorem takes_len {X : Cx} {W : WX} (t : L2N.Takes X W) : L2N.Takes X (fun c d σ H => σ.length = X.N.length → W c d σ H) := fun u s2 ⟨a, B, sI, pins, σ, H, cls, d, e, I, nb, up, sky, na, os, ag, w⟩ =>
  t u s2 ⟨a, B, sI, pins, σ, H, cls, d, e, I, nb, up, sky, na, os, ag, w I.len⟩
variable [Tbl]
def exnS (n i : Nat) (a d : Addr) (w : D) : AS := (List.replicate n none).set i (some (.exn a d w))
theorem rep_exn {K : PySem.W.Frag} {G : Gd} {B H : Hp} {S : AS} {σ σ2 : L2.St} {n i : Nat} {a d : Addr} {v : V} {w : D} (r : Rep K G B S σ H) (hl : σ2.length = n) (hi : i < n) (hv : Dq K B v w) (hd : H d = some (.xd [(("what" : Str), v)])) :
    Rep K ⟨B, ntH H, []⟩ B (exnS n i a d w) (σ2.set i (some (.ref a))) H := by
  have only : ∀ (j : Nat) (sv : SV), (exnS n i a d w)[j]? = some (some sv) → j = i ∧ sv = .exn a d w := fun j sv e => by
    unfold exnS at e
    rcases get_set_eq e with ⟨z1, z2⟩ | ⟨_, e⟩
    · exact ⟨z1.symm, z2.symm⟩
    · rw [List.getElem?_replicate] at e
      split at e <;> simp at e
  refine ⟨⟨Ex.refl _, fun a o e => .inl e, r.g.bh, r.g.nt, fun a o e _ _ => (nt_some e).1, fun a e => by show ntH H a = none; unfold ntH; rw [e], r.g.tb, (fun a ha => by cases ha), fun a ps e => (nt_some e).2 ps rfl, (fun a ha => by cases ha)⟩, by unfold exnS; simp [hl], fun j sv e => ?_, fun j l b x y e => ?_, fun j l k x y e => ?_, List.nodup_nil⟩
  · obtain ⟨rfl, rfl⟩ := only j sv e
    exact ⟨.ref a, List.getElem?_set_self (by rw [hl]; exact hi), rfl, v, hd, hv⟩
  · exact nomatch (only _ _ e).2
  · exact nomatch (only _ _ e).2
section
variable {P : Program} {w : World} {K : PySem.W.Frag} {mg : Str → Option Value} {base : Heap} {Ng : List Str} {x a e0 n : Str} {sg : Scope} {g CR : Addr} {cdg : Value} {i j k : Nat} {p1 p2 p3 p4 p5 p6 p7 p8 : Pos} {b0 : Stmt} {suite : List Stmt} {names : List Str} {fbs : Str → Addr → Addr → AS → Out}
theorem gives_of (nd : Ng.Nodup) (hi : Ng[i]? = some n) (hn : sg.names.lookup n = some .local) (hge : sg.names.lookup e0 = some .globalImplicit) (hme : mg e0 = some (.ref CR)) (hde : (e0 == ("__debug__" : Str)) = false) (h0 : ∀ f : Addr, (L2.start Ng [V.ref f])[0]? = some (some (V.ref f)))
    (hex : ∀ c ∈ names, ∀ Ce, mg c = some (.ref Ce) → PySem.W.exmOne K (.ref Ce) (.ref CR) = some true)
    (hsu : ∀ c ∈ names, ∀ Ce, mg c = some (.ref Ce) → ∀ (A : Around) (outer : List Env) (s : Shared) (H : Hp) (ad d : Addr) (oe : Obj) (pn : List (Addr × Obj)), L2N.Zn (.ref Ce) (some d) oe → (∃ vs, oe.data = .fields vs) → DSs ((hearCx P w K mg base Ng x sg g cdg A outer s H).nox.suite ad ((ad, oe) :: pn)) W0 (b0 :: suite) (fbs c ad d))
    (hres : ∀ c ∈ names, ∀ ad d w, ∃ S2, fbs c ad d (exnS Ng.length i ad d w) = .rt (.dat (.tuple [.str c, w])) S2)
    (st : ∀ (X : Cx), starEach [.Constant (.str ("told" : Str)) j p1, .Call (.Name a p2) [] [] p3] X.env = (false, eval (.Constant (.str ("told" : Str)) j p1) X.env) :: starEach [.Call (.Name a p2) [] [] p3] X.env := by intro _; rfl)
    (st2 : ∀ (X : Cx), starEach [.Call (.Name a p2) [] [] p3] X.env = (false, eval (.Call (.Name a p2) [] [] p3) X.env) :: starEach [] X.env := by intro _; rfl) :
    GivesN P w K mg base Ng x sg g cdg [.Try [.Return (some (.Tuple [.Constant (.str ("told" : Str)) j p1, .Call (.Name a p2) [] [] p3] k p4)) p5] [.ExceptHandler (some (.Name e0 p6)) (some n) (b0 :: suite) p7] [] [] p8] a names := by
  intro A outer f c' s H Q tl q act hc hh
  have hgl : Gl (hearCx P w K mg base Ng x sg g cdg A outer s H).nox e0 := hge
  have takesF : L2N.Takes (hearCx P w K mg base Ng x sg g cdg A outer s H).nox (fun _ _ _ _ => False) := fun _ _ z => by
    obtain ⟨_, _, _, _, _, _, _, _, _, _, _, _, _, _, _, _, z⟩ := z
    exact z.elim
  refine ⟨_, pss_one (L2N.ps_try_as (X := (hearCx P w K mg base Ng x sg g cdg A outer s H).nox) (c := .ref CR) (i := i)
      (tb := fun W D σ H => ∃ Ech : XK, (∀ cls d σ' H', σ'.length = Ng.length → Ech cls d H' → W cls d σ' H') ∧ σ[0]? = some (some (.ref f)) ∧ H c' = some (CodeO c' q) ∧ tl Ech H fun v H1 => ([V.str ("told" : Str), v] : List V).length ≤ sizeLine ∧ ∀ p, H1 p = none → D.rt (.ref p) (upd H1 p (.tup [.str ("told" : Str), v])))
      (ts := fun ad cls d D σ H => ∃ c Ce d0, c ∈ names ∧ mg c = some (.ref Ce) ∧ cls = .ref Ce ∧ d = some d0 ∧ ∃ G B S, Rep K G B S σ H ∧ PostS K mg G W0 B D (fbs c ad d0 S))
      rfl rfl nd hi hn ⟨hgl, hde, .inl hme⟩ takesF (fun W pn xe tk _ => ?_) (fun ad oe cls d pn hz hf => ⟨fun pins s1 σ H1 D I h1 => ?_⟩)), ?_⟩
  · refine ⟨fun pins s' σ H' D I h' => ?_⟩
    obtain ⟨Ech, hW, h1, h2, h3⟩ := h'
    have hp := act _ pn xe Ech p2 p3 (takes_len tk) (fun cls d σ' H' z hl => hW cls d σ' H' hl z)
    have hq := pss_one (ps_ret (pos := p5) (pe_tup (pos := p4) (x1 := k) (pa_cons (pe_str (x := ("told" : Str)) (j := j) (pos := p1)) (pa_cons hp pa_nil (st2 _)) (st _))))
    exact hq.run pins s' σ H' D I ⟨h1, h2, h3⟩
  · obtain ⟨c, Ce, d0, m1, m2, rfl, rfl, G, B, S, r, po⟩ := h1
    obtain ⟨t, pp, qq⟩ := (hsu c m1 Ce m2 A outer s H ad d0 oe pn hz hf).run
    exact pp.run pins s1 σ H1 D I (qq G B S σ H1 D r po)
  · obtain ⟨r, G, B, S, σ0, rp, htl, po⟩ := hh
    refine ⟨fun cls d H' => ∀ σ', σ'.length = Ng.length → wAs K (.ref CR) i _ _ _ cls d σ' H', fun cls d σ' H' hl z => z σ' hl, h0 f, hc, htl _ _ ?_⟩
    cases r with
    | stuck => exact po.elim
    | ok d S1 =>
      intro v B1 H1 e1 r1 x1
      refine ⟨by show (2 : Nat) ≤ sizeLine; decide, fun p hp => ?_⟩
      have e2 : Ex B1 (upd B1 p (.tup [.str ("told" : Str), v])) := Ex.new (r1.g.bh.fresh hp)
      exact po _ _ _ (e1.trans e2) (r1.new hp fun ps z => by cases z) (.tup (.inl (.inl upd_same)) (.cons (.str _ (by decide +kernel)) (.cons (dq_mono e2 _ _ x1) .nil)))
    | exc c w S1 =>
      have ec : kHeard names (.exc c w S1) = if c ∈ names then .ok (.tuple [.str c, w]) S1 else .stuck := rfl
      rw [ec] at po
      by_cases hm : c ∈ names
      · rw [if_pos hm] at po
        intro C d v B1 H1 m e1 r1 x1 hx σ' hl
        refine ⟨true, hex c hm C m, fun _ ad ha => ⟨c, C, d, hm, m, rfl, rfl, ⟨B1, ntH H1, []⟩, B1, _, rep_exn r1 hl (List.getElem?_eq_some_iff.mp hi).1 x1 hx, ?_⟩, fun z => by cases z⟩
        obtain ⟨S2, e2⟩ := hres c hm ad d w
        rw [e2]
        intro v2 B2 σ2 H2 e3 r2 x2
        exact po v2 B2 H2 (e1.trans e3) (r1.after0 r2.g) x2
      · rw [if_neg hm] at po
        exact po.elim
end
end DL

set_option maxRecDepth 100000
set_option maxHeartbeats 1000000
/-! DL19: defs that make lambdas; __init__; what hears -/
namespace DL
open PySem PySem.Spec PyProof.Rows L2 LamX L2H HotX
/-- cdv is the code of the def at f -/
def CodeOfF (K : PySem.W.Frag) (f : Addr) (cdv : Value) : Prop := ∃ oc od fd osl, K.lookup f = some ⟨oc, od, .func fd, osl⟩ ∧ fd.code = cdv
variable [Tbl]
section
variable {P : Program} {w : World} {K : PySem.W.Frag} {mg : Str → Option Value} {base : Heap} {x qual : Str} {params : Arguments} {body : List Stmt} {scope : Scope} {f : Addr} {fd : FuncData} {N ps : List Str} {k : Nat}
theorem fn_d2 {g : AL → List D → Fr} {fb : AS → Out} (F : FunD K x qual params body scope [] [] f fd) (S : FnScope N ps scope) (hm : mg x = some (.ref f))
    (hbd : ∀ (kV doc pm : Value) (an : Option Addr) (cdv ct : Value) (us : List Value), us.length = ps.length → bindArgs (PySem.W.fnOf x qual params body scope .none kV doc pm an cdv ct) ⟨us, []⟩ = pure (ps.zip us))
    (hb : ∀ (cdv : Value) (A : Around) (outer : List Env) (s : Shared) (H : Hp) (E : XK), CodeOfF K f cdv → Ctx (cxOf (L2N.CX P w) P w K mg base N qual scope f cdv A outer s H E) E k → DSs (cxOf (L2N.CX P w) P w K mg base N qual scope f cdv A outer s H E) E body fb)
    (hg : ∀ as ld, as.length = ps.length → g as ld = .stuck ∨ finF as (fb (S0 N.length as ld)) = g as ld) : FF P w K mg base (k + 1) x ps.length g := by
  refine ⟨f, fd, ps, hm, F.kp, F.bindsN hbd, ?_⟩
  obtain ⟨oc, od, dV, kV, doc, pm, an, cdv, ct, osl, rfl, lk, hcd, _, _⟩ := F.ex
  refine fn_of lk hcd S (fun vs H Q E h => h.1) fun A outer s H vs Q E hr h => ?_
  have C : Ctx (cxOf (L2N.CX P w) P w K mg base N qual scope f cdv A outer s H E) E k := ⟨L2N.takes_of rfl rfl rfl rfl, hr, rfl, S.nd, passes_of (X := cxOf (L2N.CX P w) P w K mg base N qual scope f cdv A outer s H E) rfl⟩
  obtain ⟨t, p, q⟩ := (hb cdv A outer s H E ⟨_, _, _, _, lk, rfl⟩ C).run
  refine ⟨t, p, ?_⟩
  obtain ⟨hn, B, as, PA, u, ld, e1, e2, e3, ar, l, po⟩ := h
  exact q ⟨B, ntH H, PA⟩ B _ _ H _ (rep_start e1 e2 e3 ar l) (fin_of (N := N) l (fpost_imp po (hg as ld (by rw [← ar.length, hn]))))
/-- __init__ of an own error: what it promises -/
theorem init_of {CX : CXT} (F : FunD K x qual params body scope [] [] f fd) (S : FnScope N ["self", "what"] scope) (h2 : N.length = 2)
    (hb : ∀ (cdv : Value) (A : Around) (outer : List Env) (s : Shared) (H : Hp) (E : XK), PSs (cxOf CX P w K mg base N qual scope f cdv A outer s H E) body
      (tSeq (tDrop (tVeI K (tCons (tVar 0) (tCons (tVar 1) tNil)))) (tSeq (tOst K "what" (tVar 0) (tVar 1)) tNext)) ∨ PSs (cxOf CX P w K mg base N qual scope f cdv A outer s H E) body
      (tSeq (tDrop (tVeI K (tCons (tVar 0) (tCons (tVar 1) tNil)))) (tOst K "what" (tVar 0) (tVar 1)))) : FnOk P w K mg base CX 1 f fd ["self", "what"] (spI K) := by
  refine F.ok S (fun vs H Q E h => by obtain ⟨a, C, v, rfl, _⟩ := h; rfl) fun cdv A outer s H vs Q E hr h => ?_
  obtain ⟨a, C, v, rfl, h3, h4, h5, h6⟩ := h
  have st : L2.start N [V.ref a, v] = [some (.ref a), some v] := by unfold L2.start; rw [h2]; rfl
  rcases hb cdv A outer s H E with z | z
  · refine ⟨_, z, ?_⟩
    rw [st]
    exact ⟨_, rfl, _, rfl, a, C, _, rfl, (by show (1 : Nat) ≤ 1000; decide), h3, h5, _, rfl, _, rfl, a, C, rfl, h3, h4, .inl ⟨h5, fun dx n1 n2 => h6 dx n1 n2⟩⟩
  · refine ⟨_, z, ?_⟩
    rw [st]
    exact ⟨_, rfl, _, rfl, a, C, _, rfl, (by show (1 : Nat) ≤ 1000; decide), h3, h5, _, rfl, _, rfl, a, C, rfl, h3, h4, .inl ⟨h5, fun dx n1 n2 => h6 dx n1 n2⟩⟩
end
/-- an end that returns x -/
def outIs (o : Out) (x : D) : Prop := match o with
  | .rt (.dat y) _ => y = x
  | _ => False
theorem outIs.ex {o : Out} {x : D} (h : outIs o x) : ∃ S2, o = .rt (.dat x) S2 := by
  unfold outIs at h
  split at h
  · subst h; exact ⟨_, rfl⟩
  · exact h.elim
theorem hot_suite {X : Cx} {a : Addr} {oe : Obj} {pn : List (Addr × Obj)} {cls : Value} {d : Option Addr} (hz : L2N.Zn cls d oe) (hf : ∃ vs, oe.data = .fields vs) : HotC (X.suite a ((a, oe) :: pn)) := by
  obtain ⟨vs, hv⟩ := hf
  exact ⟨(a, oe), ⟨rfl, vs, hv, hz.2.2 vs hv⟩, by show (a, oe) ∈ (a, oe) :: pn; simp⟩
end DL

set_option maxRecDepth 100000
set_option maxHeartbeats 4000000
/-! DL20: tuple(sorted(set(list of whole numbers))) -/
namespace DL
open PySem PySem.Spec PyProof.Rows L2
abbrev bareSet (w : World) : Obj := { cls := .type "set", dict := none, data := .set #[] 0 (.fresh 0 0 (!w.params.followText "set-order")) }
section
variable {P : Program} {w : World} {A : Around} {E : Value → Shared → Prop} {s : Shared}
set_option maxHeartbeats 8000000 in
theorem set_of_list {l : Addr} {xs : Array Value} (ns : List Int) {Q : Value → Shared → Prop} (hcalm : A.handled = none) (pl : s.heap.IsList l xs) (hints : IntsAre xs.toList ns) (hfew : ns.length + 1 < scanBound)
    (fin : ∀ (g : Heap) (tk c : Nat), SetR w g s.heap.objs.size (fun j => decide (j ∈ ns)) c → c ≤ ns.length → (∀ b o, s.heap.get? b = some o → g.get? b = some o) → Q (.ref s.heap.objs.size) { s with heap := g, toks := tk }) :
    wpAny (model P w) A (call (.type "set") [.ref l]) Q E s := by
  have hmany : xs.size = ns.length := by rw [← Array.length_toList]; exact IntsAre.length hints
  obtain ⟨_, _, mro0⟩ := F.called_set.mro
  have a1 := F.called_set.made
  have a2 := F.called_set.sub
  have a3 := F.called_set.notType
  have a4 := F.called_set.canCreate
  have a5 := F.typeCall_set_1 (.ref l)
  refine wpAny_call (codeAny_of_tree (show wpAny _ _ (callAny (.type "set") _) _ _ _ from wpAny_pure ⟨Code.quiet_builtin _ (by decide +kernel), codeAny_builtin F.entry_type_call ?_⟩))
  rw [Around.under_plain (weight_type_call_type "set" [.ref l] []) rfl]
  repeat (any_goals (first | assumption | wp_step))
  refine codeAny_mono (code_set_led1 (.ref l) (E := E) (Q₁ := fun v t => v = .ref s.heap.objs.size ∧ t = { s with heap := s.heap.push (bareSet w) }) ⟨rfl, rfl⟩) fun r t ht => ?_
  cases r with
  | error e => exact ht
  | ok fl =>
    cases fl with
    | next => exact ht.elim
    | brk => exact ht.elim
    | cont => exact ht.elim
    | ret v =>
      obtain ⟨rfl, rfl⟩ := ht
      have at0 : (s.heap.push (bareSet w)).get? s.heap.objs.size = some (bareSet w) := Heap.get?_push_size _ rfl
      have ty0 : Shared.TypeIs { s with heap := s.heap.push (bareSet w) } (.ref s.heap.objs.size) "set" := ⟨_, at0, rfl⟩
      have b1 := F.called_set.init.lookup
      have b2 := F.called_set.init.bind (.ref s.heap.objs.size)
      repeat (any_goals (first | assumption | wp_step))
      refine codeAny_mono (codeAny_call_builtin (R := wants (fun r t => r = .none ∧ ∃ g tk c, t = { s with heap := g, toks := tk } ∧ SetR w g s.heap.objs.size (fun j => decide (j ∈ ns)) c ∧ c ≤ ns.length ∧ (∀ b o, s.heap.get? b = some o → g.get? b = some o)) E) F.called_set.init.plain F.entry_set_init (check_set_init_1 ty0 ?_)) fun r2 t2 h2 => ?_
      · obtain ⟨⟨lc, lde, lda, lsl⟩, gl, lcls, ln, ldat⟩ := pl
        dsimp only at lcls ldat
        subst lcls
        subst ldat
        have l1 : (s.heap.push (bareSet w)).get? l = some { cls := .type "list", dict := lde, data := .seq xs ln, slots := lsl } := Heap.get?_push_of_some _ gl
        have c1 := F.sub_list_set
        have c2 := F.sub_list_frozenset
        have c3 : (Value.type "list" == Value.type "dict") = false := by decide
        have pl1 : (s.heap.push (bareSet w)).IsList l xs := ⟨_, l1, rfl, ln, rfl⟩
        unfold Builtin.«set.__init__» noKeywords Builtin.Frozenset.updateFrom
        generalize hI : pyIter = it0
        wp_walk
        subst hI
        refine wpAny_pyIter_list pl1 (wpAny_bind (wpAny_runValue ?_))
        have lS : l < s.heap.objs.size := Heap.lt_size gl
        have calm3 : A.in1.in1.in1.handled = none := by simp [hcalm]
        have sz : (s.heap.push (bareSet w)).objs.size = s.heap.objs.size + 1 := Heap.size_push ..
        have lI : l ≠ (s.heap.push (bareSet w)).objs.size := by rw [sz]; exact Nat.ne_of_lt (Nat.lt_succ_of_lt lS)
        have hvals : ∀ (i : Nat) (v : Value), xs[i]? = some v → ∃ k t, ns[i]? = some k ∧ v = .int k t := fun i v hv => by
          have hi : i < ns.length := by rw [← hmany]; exact (Array.getElem?_eq_some_iff.mp hv).1
          obtain ⟨t, e⟩ := PyProof.Rows.IntsAre.int_at hints i v (by rw [Array.getElem?_toList]; exact hv)
          exact ⟨ns[i], t, List.getElem?_eq_getElem hi, by rw [e, List.getD_eq_getElem?_getD, List.getElem?_eq_getElem hi] <;> rfl⟩
        refine set_update_ints ((Walks.list calm3 _ l lI xs).toS) s.heap.objs.size (by rw [sz]; simp only [List.mem_cons, List.mem_singleton, List.not_mem_nil, or_false, not_or]; exact ⟨Nat.ne_of_lt (Nat.lt_succ_self _), Nat.ne_of_gt lS⟩) ns hmany hfew hvals (xs.size - 0) 0 _ (by omega) (Nat.zero_le _) ⟨⟨_, Heap.get?_push_size _ rfl, rfl, rfl⟩, (pl1.push _)⟩ ⟨0, Nat.le_refl 0, setR_new_at (Heap.get?_push_of_some _ at0)⟩ fun t c hm hc R => ?_
        obtain ⟨g, gs, dr, tk, os⟩ := t
        obtain rfl : gs = s.gens := hm.gens
        obtain rfl : dr = s.drawn := hm.drawn
        obtain rfl : os = s.os := hm.os
        refine show wpAny _ _ _ _ _ _ from wpAny_pure (show wpAny _ _ (ret Value.none) _ _ _ from wpAny_pure ⟨rfl, g, tk, c, rfl, R, by omega, fun b o e => hm.heap b o ?_ (Heap.get?_push_of_some _ (Heap.get?_push_of_some _ e))⟩)
        have hb := Heap.lt_size e
        rw [sz]
        simp only [List.mem_cons, List.mem_singleton, List.not_mem_nil, or_false, not_or]
        exact ⟨Nat.ne_of_lt hb, Nat.ne_of_lt (Nat.lt_succ_of_lt hb)⟩
      · cases r2 with
        | error e => exact h2
        | ok fl2 =>
          cases fl2 with
          | next => exact h2.elim
          | brk => exact h2.elim
          | cont => exact h2.elim
          | ret r =>
            obtain ⟨rfl, g, tk, c, rfl, R, hc, kp⟩ := h2
            repeat (any_goals (first | assumption | wp_step))
            exact fin _ _ _ R hc kp
end
/-- rising, each once -/
def insU (k : Int) : List Int → List Int
  | [] => [k]
  | x :: r => if k < x then k :: x :: r else if k = x then x :: r else x :: insU k r
def sortU : List Int → List Int
  | [] => []
  | k :: r => insU k (sortU r)
theorem insU_mem (k j : Int) : ∀ l : List Int, j ∈ insU k l ↔ j = k ∨ j ∈ l
  | [] => by simp [insU]
  | x :: r => by
    unfold insU
    split
    · simp
    · split
      · rename_i h; subst h; simp
      · rw [List.mem_cons, insU_mem k j r, List.mem_cons]
        constructor
        · rintro (h | h | h) <;> simp [h]
        · rintro (h | h | h) <;> simp [h]
theorem insU_up (k : Int) : ∀ l : List Int, l.Pairwise (· < ·) → (insU k l).Pairwise (· < ·)
  | [], _ => by simp [insU]
  | x :: r, h => by
    obtain ⟨h1, h2⟩ := List.pairwise_cons.mp h
    unfold insU
    split
    · rename_i hk
      refine List.pairwise_cons.mpr ⟨fun y hy => ?_, h⟩
      rcases List.mem_cons.mp hy with rfl | hy
      · exact hk
      · exact Int.lt_trans hk (h1 y hy)
    · split
      · exact h
      · refine List.pairwise_cons.mpr ⟨fun y hy => ?_, insU_up k r h2⟩
        rcases (insU_mem k y r).mp hy with rfl | hy
        · omega
        · exact h1 y hy
theorem sortU_mem (j : Int) : ∀ l : List Int, j ∈ sortU l ↔ j ∈ l
  | [] => by simp [sortU]
  | k :: r => by
    unfold sortU
    rw [insU_mem, sortU_mem j r, List.mem_cons]
theorem sortU_up : ∀ l : List Int, (sortU l).Pairwise (· < ·)
  | [] => by simp [sortU]
  | k :: r => insU_up k _ (sortU_up r)
theorem up_eq : ∀ {a b : List Int}, a.Pairwise (· < ·) → b.Pairwise (· < ·) → (∀ k, k ∈ a ↔ k ∈ b) → a = b
  | [], [], _, _, _ => rfl
  | [], y :: b, _, _, h => absurd ((h y).mpr (by simp)) (by simp)
  | x :: a, [], _, _, h => absurd ((h x).mp (by simp)) (by simp)
  | x :: a, y :: b, h1, h2, h => by
    obtain ⟨p1, q1⟩ := List.pairwise_cons.mp h1
    obtain ⟨p2, q2⟩ := List.pairwise_cons.mp h2
    have e : x = y := by
      rcases List.mem_cons.mp ((h x).mp (by simp)) with e | hx
      · exact e
      · rcases List.mem_cons.mp ((h y).mpr (by simp)) with e | hy
        · exact e.symm
        · have := p1 y hy; have := p2 x hx; omega
    subst e
    rw [up_eq q1 q2 fun k => ?_]
    have hk := h k
    rw [List.mem_cons, List.mem_cons] at hk
    constructor
    · intro z
      rcases hk.mp (.inr z) with e | e
      · subst e; exact absurd (p1 _ z) (by omega)
      · exact e
    · intro z
      rcases hk.mpr (.inr z) with e | e
      · subst e; exact absurd (p2 _ z) (by omega)
      · exact e
def rSetL (K : PySem.W.Frag) (w : World) : List V → Hp → VK → Prop := fun xs H Q => ∃ (l : Addr) (ns : List Int), xs = [V.ref l] ∧ SqL K H l (ns.map V.int) ∧ ns.length < 64 ∧ ∀ p c, H p = none → c ≤ ns.length → Q (.ref p) (upd H p (SetO w p (fun j => decide (j ∈ ns)) c))
theorem intsOf : ∀ {ns : List Int} {us : List Value}, Vals (ns.map V.int) us → IntsAre us ns
  | [], _, .nil => .nil
  | n :: ns, _, .cons r t => by
    obtain ⟨k, rfl⟩ := r
    exact .cons n k (intsOf t)
theorem cr_setL {X : Cx} (hc : X.calm = true) : CallR X (.type "set") (rSetL X.K X.w) := by
  intro pins s σ H xs us Q I r h
  obtain ⟨l, ns, rfl, hq, hl, q⟩ := h
  rw [Vals.ref1 r]
  obtain ⟨its, rv, pl, hz⟩ := I.list hq
  have hn : H s.heap.objs.size = none := I.hok.fresh (Nat.le_refl _)
  refine set_of_list (P := X.prog) (w := X.w) ns (I.ok.hd hc) pl.isList (by simpa using intsOf rv) (by unfold scanBound; omega) fun g tk c R hcl kp => ?_
  exact ⟨.ref s.heap.objs.size, upd H s.heap.objs.size (SetO X.w s.heap.objs.size (fun j => decide (j ∈ ns)) c), I.laid (t' := tk) kp (Nat.le_refl _) (setO_new R), rfl, q _ c hn hcl⟩
variable [Tbl]
def kSortSet : D → AS → Rs SV
  | .list ds, S => (match asInts ds with
    | some ns => if decide (ns.length < 64) = true then okD (.tuple ((sortU ns).map PyData.int)) S else .stuck
    | none => .stuck)
  | _, _ => .stuck
def fSortSet (f : AS → Rs D) : AS → Rs SV := fun S => (f S).bind kSortSet
theorem d_sortSet {X : Cx} {W : XK} {k : Nat} {e : Expr} {fd : AS → Rs D} {p1 p2 p3 q1 q2 q3 : Pos} (C : Ctx X W k) (h : DD X W e fd) (m1 : X.mg "tuple" = none) (m2 : X.mg "sorted" = none) (m3 : X.mg "set" = none) (g1 : Gl X "tuple" := by rfl) (g2 : Gl X "sorted" := by rfl) (g3 : Gl X "set" := by rfl)
    (s3 : starEach [e] X.env = (false, eval e X.env) :: starEach [] X.env := by rfl)
    (s2 : starEach [.Call (.Name "set" p3) [e] [] q3] X.env = (false, eval (.Call (.Name "set" p3) [e] [] q3) X.env) :: starEach [] X.env := by rfl)
    (s1 : starEach [.Call (.Name "sorted" p2) [.Call (.Name "set" p3) [e] [] q3] [] q2] X.env = (false, eval (.Call (.Name "sorted" p2) [.Call (.Name "set" p3) [e] [] q3] [] q2) X.env) :: starEach [] X.env := by rfl)
    (l3 : (backTo q3 (starEach [] X.env)).any (·.1) = false := by rfl) (l2 : (backTo q2 (starEach [] X.env)).any (·.1) = false := by rfl) (l1 : (backTo q1 (starEach [] X.env)).any (·.1) = false := by rfl) :
    DE X W (.Call (.Name "tuple" p1) [.Call (.Name "sorted" p2) [.Call (.Name "set" p3) [e] [] q3] [] q2] [] q1) (fSortSet fd) := by
  obtain ⟨t, p, q⟩ := h.run
  obtain ⟨rt, ct, qt⟩ := (c_tuple (X := X) (W := W)).run
  refine ⟨_, pe_callTy ct g1 m1 (by rfl) (pa_cons (pe_callB (cr_sortedSet C.calm) g2 m2 (by rfl) (pa_cons (pe_callTy (cr_setL C.calm) g3 m3 (by rfl) (pa_cons p pa_nil s3) (by decide) (by decide) s3 l3) pa_nil s2) (by decide) (by decide) s2 l2) pa_nil s1) (by decide) (by decide) s1 l1, fun G B S σ H Q r po => ?_⟩
  refine q G B S σ H _ r (po.seq fun d S1 v B1 H1 e1 r1 x1 po1 => ?_)
  unfold kSortSet at po1
  split at po1
  · rename_i ds
    cases hI : asInts ds with
    | none => rw [hI] at po1; exact po1.elim
    | some ns =>
      rw [hI] at po1
      dsimp only at po1
      split at po1
      · rename_i hl
        have hl := of_decide_eq_true hl
        cases x1 with | lst sq al =>
        rw [asInts_eq hI] at al
        rw [dqAll_ints_eq _ al] at sq
        refine ⟨_, ns, rfl, rd_H r1 sq, hl, fun a c ha hcl => ⟨a, _, c, rfl, upd_same, by omega, fun out b up mem len hb => ?_⟩⟩
        have eo : out = sortU ns := up_eq up (sortU_up ns) fun j => by rw [mem, sortU_mem]; simp
        subst eo
        have n1 := r1.newH (o := SetO X.w a (fun j => decide (j ∈ ns)) c) ha
        have hfresh : B1 b = none := n1.g.bh.fresh hb
        have n2 := n1.new (p := b) (o := .lst ((sortU ns).map V.int)) hb fun ps z => by cases z
        have dl : Dq X.K (upd B1 b (.lst ((sortU ns).map V.int))) (.ref b) (.list ((sortU ns).map PyData.int)) := .lst (.inl (.inl upd_same)) (dqAll_ints _)
        exact qt G _ S1 σ _ Q [.list ((sortU ns).map PyData.int)] [.ref b] n2 (.cons dl .nil) (Post.mono po1 (Ex.new hfresh))
      · exact po1.elim
  · exact po1.elim
end DL

set_option maxRecDepth 100000
set_option maxHeartbeats 2000000
/-! DL21: what the head is asked: constants, tables, errors -/
namespace DL
open PySem PySem.Spec PyProof.Rows L2 LamX
/-! ### constants -/
mutual
theorem dqB_ok {K : PySem.W.Frag} : ∀ (d : D) (u : Value), dqB K u d = true → ∃ v, RelV v u ∧ ∀ B, Dq K B v d
  | .none, u, h => by
    cases u <;> simp [dqB] at h
    exact ⟨.non, rfl, fun B => .non⟩
  | .bool b, u, h => by
    cases u <;> simp [dqB] at h
    subst h
    exact ⟨.bl _, rfl, fun B => .bl _⟩
  | .int i, u, h => by
    cases u <;> simp [dqB] at h
    subst h
    exact ⟨.int _, ⟨_, rfl⟩, fun B => .int _⟩
  | .str x, u, h => by
    cases u <;> simp [dqB] at h
    obtain ⟨rfl, h⟩ := h
    exact ⟨.str _, ⟨_, rfl⟩, fun B => .str _ h⟩
  | .tuple ds, u, h => by
    cases u with
    | ref a =>
      unfold dqB at h
      split at h
      · rename_i c dd its n sl e
        simp only [Bool.and_eq_true, decide_eq_true_eq] at h
        obtain ⟨rfl, hz, h⟩ := h
        obtain ⟨vs, h1, h2⟩ := dqAllB_ok ds its.toList h
        exact ⟨.ref a, rfl, fun B => .tup (.inr ⟨_, its, n, e, rfl, rfl, hz, h1⟩) (h2 B)⟩
      · cases h
    | _ => simp [dqB] at h
  | .list ds, u, h => by cases u <;> simp [dqB] at h
  | .dict l, u, h => by cases u <;> simp [dqB] at h
theorem dqAllB_ok {K : PySem.W.Frag} : ∀ (ds : List D) (us : List Value), dqAllB K us ds = true → ∃ vs, Vals vs us ∧ ∀ B, DqAll K B vs ds
  | [], us, h => by
    cases us <;> simp [dqAllB] at h
    exact ⟨[], .nil, fun B => .nil⟩
  | d :: ds, us, h => by
    cases us with
    | nil => simp [dqAllB] at h
    | cons u us =>
      simp only [dqAllB, Bool.and_eq_true] at h
      obtain ⟨v, h1, h2⟩ := dqB_ok d u h.1
      obtain ⟨vs, h3, h4⟩ := dqAllB_ok ds us h.2
      exact ⟨v :: vs, .cons h1 h3, fun B => .cons (h2 B) (h4 B)⟩
end
theorem gcB_ok {K : PySem.W.Frag} {h : Heap} {mg : Str → Option Value} (X : K.In h) (G : h.Ns mainGlobals mg) {x : Str} {d : D} (c : gcB K x d = true) : GC K mg x d := by
  unfold gcB at c
  split at c
  · rename_i u e
    obtain ⟨v, h1, h2⟩ := dqB_ok d u c
    exact ⟨u, v, PySem.W.mg_of X G e, h1, h2⟩
  · cases c
/-! ### tables -/
theorem lookup_none_of {α : Type} {z : Str} : ∀ {l : List (Str × α)}, l.lookup z = none → z ∉ l.map (·.1)
  | [], _ => by simp
  | (k, v) :: r, h => by
    rw [List.lookup_cons] at h
    split at h
    · cases h
    · rename_i ne
      have : z ≠ k := fun e => by subst e; simp at ne
      simp only [List.map_cons, List.mem_cons, not_or]
      exact ⟨this, lookup_none_of h⟩
theorem lookup_mem_fst {α : Type} {z : Str} {d : α} : ∀ {l : List (Str × α)}, l.lookup z = some d → ∃ q ∈ l, q.1 = z
  | [], h => by cases h
  | (k, v) :: r, h => by
    rw [List.lookup_cons] at h
    split at h
    · rename_i e
      exact ⟨(k, v), by simp, (eq_of_beq e).symm⟩
    · obtain ⟨q, h1, h2⟩ := lookup_mem_fst h
      exact ⟨q, List.mem_cons_of_mem _ h1, h2⟩
theorem keyOf_str {e : DictEntry} {k : Str} {n : Int} (h : He.keyOf e = some (k, n)) : ∃ t, e.key = .str k t := by
  unfold He.keyOf at h
  split at h
  · rename_i x t e'
    cases h
    exact ⟨t, e'⟩
  · cases h
theorem nsIn_none {K : PySem.W.Frag} {w : World} {a : Addr} {ks : List Str} {z : Str} (h : He.dicW K a = some (He.keysIn w.params ks)) (hz : z ∉ ks) : PySem.W.nsIn K a z = some none := by
  unfold He.dicW at h
  split at h
  · rename_i c es n sl e
    split at h
    · have h := Option.some.inj h
      have all : ∀ e ∈ es.toList, ∃ k ∈ ks, ∃ t, e.key = .str k t := fun e he => by
        have hm : He.keyOf e ∈ He.keysIn w.params ks := by rw [← h]; exact List.mem_map_of_mem he
        unfold He.keysIn at hm
        obtain ⟨k, hk, ek⟩ := List.mem_map.mp hm
        obtain ⟨t, q⟩ := keyOf_str ek.symm
        exact ⟨k, hk, t, q⟩
      unfold PySem.W.nsIn
      rw [e]
      dsimp only
      have nf : es.toList.find? (·.key.isStr z) = none := by
        rw [List.find?_eq_none]
        intro e he q
        obtain ⟨k, hk, t, ek⟩ := all e he
        rw [ek] at q
        have : k = z := by simpa [Value.isStr] using q
        subst this
        exact hz hk
      rw [nf]
      dsimp only
      rw [if_neg]
      intro q
      obtain ⟨e, he, q⟩ := List.any_eq_true.mp q
      obtain ⟨k, hk, t, ek⟩ := all e he
      unfold DictEntry.refKey at q
      rw [ek] at q
      simp at q
    · cases h
  · cases h
theorem gkB_ok {K : PySem.W.Frag} {w : World} {mg : Str → Option Value} {x : Str} {a : Addr} {kvs : List (Str × D)} (hm : mg x = some (.ref a)) (ht : He.dicW K a = some (He.keysIn w.params (kvs.map (·.1)))) (c : gkB K a kvs = true) : GK K w mg x kvs := by
  obtain ⟨es, n, kd⟩ := He.dicW_ok ht
  refine ⟨a, es, n, hm, kd, fun z => ?_⟩
  cases hl : kvs.lookup z with
  | none => exact .inr ⟨rfl, nsIn_none ht (lookup_none_of hl)⟩
  | some d =>
    obtain ⟨q, hq, rfl⟩ := lookup_mem_fst hl
    have := List.all_eq_true.mp c q hq
    split at this
    · rename_i u e
      rw [hl] at this
      obtain ⟨v, h1, h2⟩ := dqB_ok d u this
      exact .inl ⟨u, v, d, rfl, e, h1, h2⟩
    · cases this
/-! ### errors -/
theorem oexB_ok {K : PySem.W.Frag} {C : Addr} (h : oexB K C = true) : OexC K C := by
  unfold oexB at h
  simp only [Bool.and_eq_true, decide_eq_true_eq] at h
  obtain ⟨h0, h1, h2, h3, h4⟩ := h
  refine ⟨?_, h1, h2, h3, h4⟩
  split at h0
  · rename_i t dd cd sl e
    simp only [Bool.and_eq_true, decide_eq_true_eq] at h0
    obtain ⟨rfl, h0⟩ := h0
    split at h0
    · rename_i C' bm k0 k1 k2 k3 n k5 hm hs
      simp only [Bool.and_eq_true, decide_eq_true_eq, Bool.not_eq_true'] at h0
      obtain ⟨rfl, rfl, hdel, hd, hb⟩ := h0
      obtain ⟨nm, bs, mro, ns, qn, hdd, sn, sub, ab, col, del⟩ := cd
      dsimp only at hm hdel hd
      subst hm hdel hd
      have hsl : sl = #[k0, k1, k2, k3, some (.builtin "ValueError.__new__"), k5] := by
        obtain ⟨l⟩ := sl
        simp only at hs
        rw [hs]
      subst hsl
      exact ⟨nm, qn, ns, bs, bm, sn, sub, ab, col, dd, k0, k1, k2, k3, k5, e, hb⟩
    · cases h0
  · cases h0
theorem excCB_ok {K : PySem.W.Frag} {C : Addr} (h : excCB K C = true) : ExcC K C := by
  unfold excCB at h
  simp only [Bool.and_eq_true, decide_eq_true_eq] at h
  exact ⟨h.1, h.2.1, h.2.2.1, h.2.2.2.1, h.2.2.2.2.1, h.2.2.2.2.2.1, h.2.2.2.2.2.2.1, h.2.2.2.2.2.2.2⟩
end DL

set_option maxRecDepth 100000
set_option maxHeartbeats 2000000
/-! DL22: the law's def, its start, its end -/
namespace DL
open PySem PySem.Spec PyProof.Rows L2 LamX
section
variable [Tbl]
variable {P : Program} {w : World} {K : PySem.W.Frag} {mg : Str → Option Value} {base : Heap} {x qual : Str} {params : Arguments} {body : List Stmt} {scope : Scope} {f : Addr} {fd : FuncData} {N ps : List Str} {k : Nat}
theorem fn_d3 {fb : AS → Out} (F : FunD K x qual params body scope [] [] f fd) (S : FnScope N ps scope)
    (hb : ∀ (cdv : Value) (A : Around) (outer : List Env) (s : Shared) (H : Hp) (E : XK), CodeOfF K f cdv → Ctx (cxOf (L2N.CX P w) P w K mg base N qual scope f cdv A outer s H E) E k → DSs (cxOf (L2N.CX P w) P w K mg base N qual scope f cdv A outer s H E) E body fb) :
    FnOk P w K mg base (L2N.CX P w) (k + 1) f fd ps (spD K mg ps.length fun as ld => finF as (fb (S0 N.length as ld))) := by
  obtain ⟨oc, od, dV, kV, doc, pm, an, cdv, ct, osl, rfl, lk, hcd, _, _⟩ := F.ex
  refine fn_of lk hcd S (fun vs H Q E h => h.1) fun A outer s H vs Q E hr h => ?_
  have C : Ctx (cxOf (L2N.CX P w) P w K mg base N qual scope f cdv A outer s H E) E k := ⟨L2N.takes_of rfl rfl rfl rfl, hr, rfl, S.nd, passes_of (X := cxOf (L2N.CX P w) P w K mg base N qual scope f cdv A outer s H E) rfl⟩
  obtain ⟨t, p, q⟩ := (hb cdv A outer s H E ⟨_, _, _, _, lk, rfl⟩ C).run
  refine ⟨t, p, ?_⟩
  obtain ⟨hn, B, as, PA, u, ld, e1, e2, e3, ar, l, po⟩ := h
  exact q ⟨B, ntH H, PA⟩ B _ _ H _ (rep_start e1 e2 e3 ar l) (fin_of (N := N) l po)
/-- the script handed to the law -/
theorem sp_law {g : AL → List D → Fr} {H : Hp} {a : Addr} {ns : List Int} (tb : Tabs (Tbl.TT K) H) (sq : SqL K H a (ns.map V.int)) (hg : ∃ o, g [some (.list (ns.map PyData.int))] [] = .ok (.dat (.bool true)) o) :
    spD K mg 1 g [.ref a] H (fun v _ => v = .bl true) fun _ _ _ => False := by
  have hB : Ex (ntH H) H := fun b o h => (nt_some h).1
  have sB : SqL K (ntH H) a (ns.map V.int) := by
    rcases sq with (h | ⟨o, h⟩) | h
    · exact .inl (.inl (nt_of h fun ps z => by cases z))
    · exact .inl (.inr ⟨o, nt_of h fun ps z => by cases z⟩)
    · exact .inr h
  obtain ⟨o, hg⟩ := hg
  refine ⟨rfl, ntH H, [some (.list (ns.map PyData.int))], [], .non, [], hB, fun b ps h => (nt_some h).2 ps rfl, tb, .cons (.lst sB (dqAll_ints ns)) .nil, .inl ⟨rfl, rfl⟩, ?_⟩
  rw [hg]
  intro v B' H' _ _ q
  exact match v, q with | _, .bl true => rfl
end
theorem cx_end {P : Program} {w : World} (H : Hp) (s : Shared) (e : Value) (s' : Shared) : L2N.CX P w [] H s (fun _ _ _ => False) e s' → False := fun ⟨_, _, _, _, _, _, _, _, _, _, _, _, z⟩ => z
/-- the code of a def, as the head tells it -/
theorem code_of {K : PySem.W.Frag} {x q : Str} {params : Arguments} {body : List Stmt} {scope : Scope} {dvs : List V} {kws : List (Str × V)} {fd : FuncData} {cdv : Value} (F : FunD K x q params body scope dvs kws (He.ga K x) fd) (h : CodeOfF K (He.ga K x) cdv) : cdv = .ref (He.codeOf K (x, none)) := by
  obtain ⟨oc, od, dV, kV, doc, pm, an, cdv', ct, osl, rfl, lk, hcd, _, _⟩ := F.ex
  obtain ⟨oc2, od2, fd2, osl2, lk2, e⟩ := h
  rw [lk] at lk2
  have e2 := Option.some.inj lk2
  injection e2 with _ _ e3 _
  injection e3 with e4
  subst e4
  obtain ⟨c, rfl⟩ := He.codeIn_ref hcd
  have e5 : cdv = .ref c := e.symm
  subst e5
  rw [He.codeOf_eq (p := (x, none)) lk rfl]
end DL

set_option maxRecDepth 100000
set_option maxHeartbeats 1000000
/-! DL23: a list display times a number -/
namespace DL
open PySem PySem.Spec PyProof.Rows L2
variable [Tbl]
variable {X : Cx} {W : XK} {pos : Pos} {a b : Expr} {f : AS → Rs SV} {gd : AS → Rs D}
theorem Rep.freezeL {K : PySem.W.Frag} {G : Gd} {B H : Hp} {S : AS} {σ : L2.St} {v : V} {ds : List D} (h : Rep K G B S σ H) (q : ResR K G B S σ H v (.own ds)) : ∃ a vs B', v = .ref a ∧ Ex B B' ∧ Rep K G B' S σ H ∧ B' a = some (.lst vs) ∧ DqAll K B' vs ds := by
  obtain ⟨a, vs, rfl, h1, h2, h3, h4, h5⟩ := q
  have e : Ex B (upd B a (.lst vs)) := Ex.new h2
  refine ⟨a, vs, upd B a (.lst vs), rfl, e, ⟨⟨h.g.b0.trans e, fun b o q => ?_, fun b o q => ?_, fun b ps q => ?_, h.g.fr, h.g.dm, h.g.tb, fun b hb => ?_, h.g.ht, h.g.pl⟩, h.len, fun i sv e' => ?_, h.ds, h.pj, h.pn⟩, upd_same, dqAll_mono e _ _ h4⟩
  · by_cases hba : b = a
    · subst hba; exact .inr h3
    · rw [upd_ne hba] at q; exact h.g.bn b o q
  · by_cases hba : b = a
    · subst hba; rw [upd_same] at q; cases q; exact h1
    · rw [upd_ne hba] at q; exact h.g.bh b o q
  · by_cases hba : b = a
    · subst hba; rw [upd_same] at q; cases q
    · rw [upd_ne hba] at q; exact h.g.nt b ps q
  · have : b ≠ a := fun z => by subst z; exact (h.g.pa _ hb).2 h3
    rw [upd_ne this]
    exact h.g.pa b hb
  · obtain ⟨v, e1, e2⟩ := h.sl i sv e'
    refine ⟨v, e1, ?_⟩
    cases sv with
    | exn _ _ _ => exact ExnR.mono e2 e fun _ _ z => z
    | dat d => exact dq_mono e d v e2
    | own es =>
      obtain ⟨b, ws, rfl, g1, g2, g3, g4⟩ := e2
      have : b ≠ a := fun z => by subst z; exact h5 i es e' e1
      exact ⟨b, ws, rfl, g1, by rw [upd_ne this]; exact g2, g3, dqAll_mono e _ _ g4⟩
    | par k es =>
      obtain ⟨b, ws, rfl, g1, g2, g3⟩ := e2
      exact ⟨b, ws, rfl, g1, g2, dqAll_mono e _ _ g3⟩
def kRepL (ds : List D) : D → AS → Rs SV
  | .int n, S => if (decide (-(2 ^ 63) ≤ n) && decide (n < 2 ^ 63) && small (ds.length * n.toNat)) = true then .ok (.own (List.replicate n.toNat ds).flatten) S else .stuck
  | _, _ => .stuck
def repTail (g : AS → Rs D) : SV → AS → Rs SV
  | .own ds, S1 => (g S1).bind (kRepL ds)
  | _, _ => .stuck
/-- [..] * e -/
def fRepL (f : AS → Rs SV) (g : AS → Rs D) : AS → Rs SV := fun S => (f S).bind (repTail g)
theorem d_repL (ha : DE X W a f) (hb : DD X W b gd) : DE X W (.BinOp a .Mult b pos) (fRepL f gd) := by
  obtain ⟨t, p, q⟩ := ha.run
  obtain ⟨t2, p2, q2⟩ := hb.run
  refine ⟨_, pe_op op_rep p p2, fun G B S σ H Q r po => q G B S σ H _ r (po.seq fun x S1 v B1 H1 e1 r1 x1 po1 => ?_)⟩
  cases x with
  | dat _ => exact po1.elim
  | par _ _ => exact po1.elim
  | exn _ _ _ => exact po1.elim
  | own ds =>
  obtain ⟨l, vs, B', rfl, e', r1', hl, hd⟩ := r1.freezeL x1
  have po2 : Post X.K X.mg G W B' σ (RE X.K G σ) Q ((gd S1).bind (kRepL ds)) := po1.mono e'
  refine q2 G B' S1 σ H1 _ r1' (po2.seq fun y S2 w B2 H2 e2 r2 x2 po3 => ?_)
  unfold kRepL at po3
  split at po3
  · split at po3
    · rename_i hs
      rw [Bool.and_eq_true, Bool.and_eq_true] at hs
      cases x2
      refine ⟨l, _, vs, rfl, rfl, r2.g.bh _ _ (e2 _ _ hl), of_decide_eq_true hs.1.1, of_decide_eq_true hs.1.2, by rw [hd.length]; exact small_line hs.2, fun p hp => new_own r2 ((dqAll_mono e2 _ _ hd).rep _) po3 hp⟩
    · exact po3.elim
  · exact po3.elim
end DL

set_option maxRecDepth 100000
set_option maxHeartbeats 4000000
namespace K78
open PySem PySem.Spec PyProof.Rows L2 LamX DL
variable [Tbl]
abbrev fHd (f : AS → Rs D) : AS → Rs D := fun S => kHeard hnames (f S)
/-! ### _law_sx_heard -/
abbrev s__law_sx_heard : Stmt := top 74
def hsuite : List Stmt → List Stmt
  | [.Try _ [.ExceptHandler _ _ b _] _ _ _] => b
  | _ => []
def fb__law_sx_heard (c : Str) (ad d : Addr) : AS → Out :=
  (gSeq (gSetO 2 (fLst (fCons (fTup (fCons (fC (.str ("BadSketch" : Str))) (fCons (fExn 1 ad d fun _ => .bool (decide (c = ("BadSketch" : Str)))) fNil))) (fCons (fTup (fCons (fC (.str ("BadText" : Str))) (fCons (fExn 1 ad d fun _ => .bool (decide (c = ("BadText" : Str)))) fNil))) fNil))))
  (gSeq (gApp 2 (fTup (fCons (fC (.str ("TooMany" : Str))) (fCons (fExn 1 ad d fun _ => .bool (decide (c = ("TooMany" : Str)))) fNil))))
  (gSeq (gApp 2 (fTup (fCons (fC (.str ("WrongLine" : Str))) (fCons (fExn 1 ad d fun _ => .bool (decide (c = ("WrongLine" : Str)))) fNil))))
  (gSeq (gRet (inF (fTup (fCons (fzF (fJoin (fC (.str (" " : Str))) (fzF (fLc (fSeq (fVar 2)) (bTup [3, 4]) (fTru (fVar 4)) (fVar 3) [3, 4])))) (fCons (fExn 1 ad d id) fNil)))))
  gNx))))
abbrev EFact (K : PySem.W.Frag) (mg : Str → Option Value) (c : Str) (Ce CR : Addr) : Prop := ExcC K Ce ∧ XfC K Ce ∧ PySem.W.findIn K (.ref Ce) "what" = some none ∧ PySem.W.exmOne K (.ref Ce) (.ref CR) = some true ∧ ∀ n ∈ hnames, ∀ Cn, mg n = some (.ref Cn) → PySem.W.kitOne K (.ref Ce) (.ref Cn) = some (decide (c = n))
theorem su__law_sx_heard {P : Program} {w : World} {K : PySem.W.Frag} {mg : Str → Option Value} {base : Heap} {g : Addr} {cdg : Value} {Ce : Addr} {c : Str} (hfr : ∀ (i : Nat) (x : Str), frees[i]? = some x → mg x = none) {a_BadSketch : Addr} (g_BadSketch : mg ("BadSketch" : Str) = some (.ref a_BadSketch)) {a_BadText : Addr} (g_BadText : mg ("BadText" : Str) = some (.ref a_BadText)) {a_TooMany : Addr} (g_TooMany : mg ("TooMany" : Str) = some (.ref a_TooMany)) {a_WrongLine : Addr} (g_WrongLine : mg ("WrongLine" : Str) = some (.ref a_WrongLine)) (CE : ExcC K Ce) (XF : XfC K Ce) (NW : PySem.W.findIn K (.ref Ce) "what" = some none) (EK : ∀ n ∈ hnames, ∀ Cn, mg n = some (.ref Cn) → PySem.W.kitOne K (.ref Ce) (.ref Cn) = some (decide (c = n))) (A : Around) (outer : List Env) (s : Shared) (H : Hp) (ad d : Addr) (oe : Obj) (pn : List (Addr × Obj)) (hz : L2N.Zn (.ref Ce) (some d) oe) (hfd : ∃ vs, oe.data = .fields vs) :
    DSs ((hearCx P w K mg base ["call", "refused_one", "some", "name", "is_one"] "_law_sx_heard" (defScope s__law_sx_heard) g cdg A outer s H).nox.suite ad ((ad, oe) :: pn)) W0 (hsuite (defBody s__law_sx_heard)) (fb__law_sx_heard c ad d) :=
  have nd : (["call", "refused_one", "some", "name", "is_one"] : List Str).Nodup := by decide +kernel
  have HC := hot_suite (X := (hearCx P w K mg base ["call", "refused_one", "some", "name", "is_one"] "_law_sx_heard" (defScope s__law_sx_heard) g cdg A outer s H).nox) (a := ad) (pn := pn) hz hfd
  (ss_cons (s_setN 2 nd (d_lst (a_cons (d_tup (a_cons (d_str) (a_cons (d_isE 1 CE hz.zc hfd (hfr 13 _ rfl) g_BadSketch (EK _ (by simp [hnames]) _ g_BadSketch)) a_nil))) (a_cons (d_tup (a_cons (d_str) (a_cons (d_isE 1 CE hz.zc hfd (hfr 13 _ rfl) g_BadText (EK _ (by simp [hnames]) _ g_BadText)) a_nil))) a_nil))))
  (ss_cons (s_app 2 (d_tup (a_cons (d_str) (a_cons (d_isE 1 CE hz.zc hfd (hfr 13 _ rfl) g_TooMany (EK _ (by simp [hnames]) _ g_TooMany)) a_nil))))
  (ss_cons (s_app 2 (d_tup (a_cons (d_str) (a_cons (d_isE 1 CE hz.zc hfd (hfr 13 _ rfl) g_WrongLine (EK _ (by simp [hnames]) _ g_WrongLine)) a_nil))))
  (ss_cons (s_ret ((d_tup (a_cons ((d_join (d_str) ((d_compH HC nd [("name", 3), ("is_one", 4)] (d_var 2) (by show blkC ["call", "refused_one", "some", "name", "is_one"] (defScope s__law_sx_heard) _ _ = true; decide +kernel) (fun s H Cc cl fp => (gh_tup (uw_cons 3 nd (by simp) (uw_cons 4 nd (by simp) uw_nil)))) (fun s H Cc cl fp => (ts_one (t_val (d_var 4)))) (fun s H Cc cl fp => (d_var 3)))).toD)).toD (a_cons (d_what 1 XF NW hz.zc hfd) a_nil)))).toE)
  ss_nil))))
theorem ne_BadSketch_BadText : (("BadSketch" : Str) = ("BadText" : Str)) = False := eq_false (by decide +kernel)
theorem ne_BadSketch_TooMany : (("BadSketch" : Str) = ("TooMany" : Str)) = False := eq_false (by decide +kernel)
theorem ne_BadSketch_WrongLine : (("BadSketch" : Str) = ("WrongLine" : Str)) = False := eq_false (by decide +kernel)
theorem ne_BadText_BadSketch : (("BadText" : Str) = ("BadSketch" : Str)) = False := eq_false (by decide +kernel)
theorem ne_BadText_TooMany : (("BadText" : Str) = ("TooMany" : Str)) = False := eq_false (by decide +kernel)
theorem ne_BadText_WrongLine : (("BadText" : Str) = ("WrongLine" : Str)) = False := eq_false (by decide +kernel)
theorem ne_TooMany_BadSketch : (("TooMany" : Str) = ("BadSketch" : Str)) = False := eq_false (by decide +kernel)
theorem ne_TooMany_BadText : (("TooMany" : Str) = ("BadText" : Str)) = False := eq_false (by decide +kernel)
theorem ne_TooMany_WrongLine : (("TooMany" : Str) = ("WrongLine" : Str)) = False := eq_false (by decide +kernel)
theorem ne_WrongLine_BadSketch : (("WrongLine" : Str) = ("BadSketch" : Str)) = False := eq_false (by decide +kernel)
theorem ne_WrongLine_BadText : (("WrongLine" : Str) = ("BadText" : Str)) = False := eq_false (by decide +kernel)
theorem ne_WrongLine_TooMany : (("WrongLine" : Str) = ("TooMany" : Str)) = False := eq_false (by decide +kernel)
theorem sz_BadSketch : ((("BadSketch" : Str)).cps.size + ((" " : Str)).cps.size ≤ 16777216) = True := eq_true (by decide +kernel)
theorem jn_BadSketch : Txt.join (" " : Str) [("BadSketch" : Str)] = ("BadSketch" : Str) := by decide +kernel
theorem sz_BadText : ((("BadText" : Str)).cps.size + ((" " : Str)).cps.size ≤ 16777216) = True := eq_true (by decide +kernel)
theorem jn_BadText : Txt.join (" " : Str) [("BadText" : Str)] = ("BadText" : Str) := by decide +kernel
theorem sz_TooMany : ((("TooMany" : Str)).cps.size + ((" " : Str)).cps.size ≤ 16777216) = True := eq_true (by decide +kernel)
theorem jn_TooMany : Txt.join (" " : Str) [("TooMany" : Str)] = ("TooMany" : Str) := by decide +kernel
theorem sz_WrongLine : ((("WrongLine" : Str)).cps.size + ((" " : Str)).cps.size ≤ 16777216) = True := eq_true (by decide +kernel)
theorem jn_WrongLine : Txt.join (" " : Str) [("WrongLine" : Str)] = ("WrongLine" : Str) := by decide +kernel
theorem res__law_sx_heard : ∀ c ∈ hnames, ∀ ad d w, ∃ S2, fb__law_sx_heard c ad d (exnS 5 1 ad d w) = .rt (.dat (.tuple [.str c, w])) S2 := by
  intro c hc ad d w
  simp only [hnames, List.mem_cons, List.not_mem_nil, or_false] at hc
  rcases hc with rfl | rfl | rfl | rfl <;> exact outIs.ex (by
    simp [ne_BadSketch_BadText, ne_BadSketch_TooMany, ne_BadSketch_WrongLine, ne_BadText_BadSketch, ne_BadText_TooMany, ne_BadText_WrongLine, ne_TooMany_BadSketch, ne_TooMany_BadText, ne_TooMany_WrongLine, ne_WrongLine_BadSketch, ne_WrongLine_BadText, ne_WrongLine_TooMany, sz_BadSketch, sz_BadText, sz_TooMany, sz_WrongLine, jn_BadSketch, jn_BadText, jn_TooMany, jn_WrongLine, outIs, fb__law_sx_heard, exnS, gSeq, gSetO, gApp, gRet, fLst, fCons, fTup, fC, fNil, okLst, okTup, fExn, chg, appL, ownAt, inF, DL.inR, fzF, fzR, frz, fJoin, kJoin, fLc, fComp, fSeq, bTup, setAll, fTru, truD, fVar, wipeS, small, okD, asStrs, joinB, Str.length]
    try rfl)
theorem hx__law_sx_heard {P : Program} {w : World} {K : PySem.W.Frag} {mg : Str → Option Value} {base : Heap} {f CR : Addr} {fd : FuncData} (F : FunD K "_law_sx_heard" "_law_sx_heard" (defArgs s__law_sx_heard) (defBody s__law_sx_heard) (defScope s__law_sx_heard) [] [] f fd) (hm : mg ("_law_sx_heard" : Str) = some (.ref f)) (hfr : ∀ (i : Nat) (x : Str), frees[i]? = some x → mg x = none) {a_BadSketch : Addr} (g_BadSketch : mg ("BadSketch" : Str) = some (.ref a_BadSketch)) {a_BadText : Addr} (g_BadText : mg ("BadText" : Str) = some (.ref a_BadText)) {a_TooMany : Addr} (g_TooMany : mg ("TooMany" : Str) = some (.ref a_TooMany)) {a_WrongLine : Addr} (g_WrongLine : mg ("WrongLine" : Str) = some (.ref a_WrongLine)) (gR : mg ("Refused" : Str) = some (.ref CR)) (EF : ∀ c ∈ hnames, ∀ Ce, mg c = some (.ref Ce) → EFact K mg c Ce CR) : HX P w K mg base ("_law_sx_heard" : Str) hnames := by
  have kp := F.kp
  have bN := F.bindsN (ps := ["call"]) fun _ _ _ _ _ _ us hl => match us, hl with | [_], _ => rfl
  obtain ⟨oc, od, dV, kV, doc, pm, an, cdv, ct, osl, rfl, lk, hcd, _, _⟩ := F.ex
  exact ⟨f, _, _, _, _, _, _, _, _, _, _, _, _, _, ["call", "refused_one", "some", "name", "is_one"], "call", hm, kp, lk, hcd, bN, ⟨rfl, rfl, rfl, by decide +kernel, rfl, by decide +kernel, by decide +kernel⟩, rfl, .inl rfl, by decide, by decide,
    gives_of (i := 1) (fbs := fb__law_sx_heard) (by decide +kernel) rfl rfl rfl gR (by decide) (fun f => rfl) (fun c hc Ce hCe => (EF c hc Ce hCe).2.2.2.1) (fun c hc Ce hCe A outer s H ad d oe pn hz hf => su__law_sx_heard hfr g_BadSketch g_BadText g_TooMany g_WrongLine (EF c hc Ce hCe).1 (EF c hc Ce hCe).2.1 (EF c hc Ce hCe).2.2.1 (EF c hc Ce hCe).2.2.2.2 A outer s H ad d oe pn hz hf) res__law_sx_heard⟩
/-! ### the errors -/
theorem ff_init {P : Program} {w : World} {K : PySem.W.Frag} {mg : Str → Option Value} {base : Heap} {f : Addr} {fd : FuncData} (F : FunD K "__init__" "Refused.__init__" (defArgs s_init) (defBody s_init) (defScope s_init) [] [] f fd) (hV : mg ("ValueError" : Str) = none) (vV : PySem.W.findCls K (.type "ValueError") (.type "type") "__init__" = some (.val (.builtin "ValueError.__init__"))) : FnOk P w K mg base (L2N.CX P w) 1 f fd ["self", "what"] (spI K) :=
  init_of (N := ["self", "what"]) F ⟨rfl, rfl, rfl, by decide +kernel, rfl, by decide +kernel, by decide +kernel⟩ rfl fun cdv A outer s H E => .inr (pss_cons (ps_expr (pe_veinit rfl hV vV (pa_cons (pe_var (i := 0) rfl (.inl rfl)) (pa_cons (pe_var (i := 1) rfl (.inl rfl)) pa_nil)))) (pss_one (ps_ost (pe_var (i := 0) rfl (.inl rfl)) (pe_var (i := 1) rfl (.inl rfl)))))
theorem rx_init {P : Program} {w : World} {K : PySem.W.Frag} {mg : Str → Option Value} {base : Heap} {x : Str} {f C : Addr} {fd : FuncData} (F : FunD K "__init__" "Refused.__init__" (defArgs s_init) (defBody s_init) (defScope s_init) [] [] f fd) (hV : mg ("ValueError" : Str) = none) (vV : PySem.W.findCls K (.type "ValueError") (.type "type") "__init__" = some (.val (.builtin "ValueError.__init__")))
    (hm : mg x = some (.ref C)) (T : OexC K C) (iC : PySem.W.findIn K (.ref C) "__init__" = some (some (.ref f))) (tI : PySem.W.typeIn K (.ref f) = some (.type "function")) (NW : PySem.W.findIn K (.ref C) "what" = some none) : RX P w K mg base x :=
  ⟨C, f, fd, ["self", "what"], hm, T, iC, tI, NW, F.bindsN fun _ _ _ _ _ _ us hl => match us, hl with | [_, _], _ => rfl, ff_init F hV vV⟩
/-! ### whole_in -/
abbrev s_whole_in : Stmt := top 6
def fb_whole_in  : AS → Out :=
  (gSeq (gRet (inF (fAndV (fIsi "int" (fVar 0)) (fAndV (fNotV (fIsi "bool" (fVar 0))) (fzF (fChain kLe kLe (fVar 1) (fVar 0) (fVar 2)))))))
  gNx)
theorem b_whole_in {P : Program} {w : World} {K : PySem.W.Frag} {mg : Str → Option Value} {base : Heap}   (hf : ∀ (i : Nat) (x : Str), frees[i]? = some x → mg x = none)  {cdv : Value} {A : Around} {outer : List Env} {s : Shared} {H : Hp} {E : XK} {f : Addr}
    (C : Ctx (cxOf (L2N.CX P w) P w K mg base ["thing", "low", "high"] "whole_in" (defScope s_whole_in) f cdv A outer s H E) E 2) : DSs (cxOf (L2N.CX P w) P w K mg base ["thing", "low", "high"] "whole_in" (defScope s_whole_in) f cdv A outer s H E) E (defBody s_whole_in) (fb_whole_in ) :=
  (ss_cons (s_ret ((v_and (d_isi (T := "int") rfl (d_var 0) (hf 13 _ rfl) (hf 6 _ rfl) rfl) (v_and (v_not (d_isi (T := "bool") rfl (d_var 0) (hf 13 _ rfl) (hf 10 _ rfl) rfl)) (v_one ((d_chain o_le o_le (d_var 1) (d_var 0) (d_var 2))).toD)))).toE)
  ss_nil)
def g_whole_in : AL → List D → Fr := fun as ld => finF as (fb_whole_in (S0 3 as ld))
theorem ff_whole_in {P : Program} {w : World} {K : PySem.W.Frag} {mg : Str → Option Value} {base : Heap} {f : Addr} {fd : FuncData} (F : FunD K "whole_in" "whole_in" (defArgs s_whole_in) (defBody s_whole_in) (defScope s_whole_in) [] [] f fd) (hm : mg ("whole_in" : Str) = some (.ref f)) (hf : ∀ (i : Nat) (x : Str), frees[i]? = some x → mg x = none)  : FF P w K mg base 3 ("whole_in" : Str) 3 g_whole_in :=
  fn_d (N := ["thing", "low", "high"]) (ps := ["thing", "low", "high"]) F ⟨rfl, rfl, rfl, by decide +kernel, rfl, by decide +kernel, by decide +kernel⟩ hm (fun _ _ _ _ _ _ us hl => match us, hl with | [_, _, _], _ => rfl) (fun cdv A outer s H E C => b_whole_in hf  C) (fun as ld h => .inr rfl)
/-! ### are_kind_numbers -/
abbrev s_are_kind_numbers : Stmt := top 15
def fb_are_kind_numbers  : AS → Out :=
  (gSeq (gIf (fOr (fNot (fTru (fIsi "tuple" (fVar 0)))) (fNot (toBF (fChain kLe kLe (fC (.int 1)) (fzF (fCall kLen (fCons (fVar 0) fNil))) (fC (.int 13)))))) (gSeq (gRet (inF (fC (.bool false))))
  gNx) gNx)
  (gSeq (gRet (fCall kAll (fCons (fzF (fLc (fAnyI (fVar 0)) (bName 1) (fun S => .ok true S) (fzF (fFn g_whole_in 0 (lCons (fVar 1) (lCons (fC (.int 0)) (lCons (fzF (fOp kSub (fC (.int 13)) (fC (.int 1)))) lNil))))) [1])) fNil)))
  gNx))
theorem b_are_kind_numbers {P : Program} {w : World} {K : PySem.W.Frag} {mg : Str → Option Value} {base : Heap}   (hf : ∀ (i : Nat) (x : Str), frees[i]? = some x → mg x = none) (F_whole_in : FF P w K mg base 3 ("whole_in" : Str) 3 g_whole_in) (c_MOST_KINDS : GC K mg ("MOST_KINDS" : Str) (.int 13)) {cdv : Value} {A : Around} {outer : List Env} {s : Shared} {H : Hp} {E : XK} {f : Addr}
    (C : Ctx (cxOf (L2N.CX P w) P w K mg base ["thing", "one"] "are_kind_numbers" (defScope s_are_kind_numbers) f cdv A outer s H E) E 3) : DSs (cxOf (L2N.CX P w) P w K mg base ["thing", "one"] "are_kind_numbers" (defScope s_are_kind_numbers) f cdv A outer s H E) E (defBody s_are_kind_numbers) (fb_are_kind_numbers ) :=
  (ss_cons (s_if (DW.t (w_or (t_not (t_val (d_isi (T := "tuple") rfl (d_var 0) (hf 13 _ rfl) (hf 8 _ rfl) rfl))) (w_or1 (t_not (t_chain o_le o_le d_int ((d_callB c_len (hf 0 _ rfl) rfl (a_cons (d_var 0) a_nil))).toD (d_glob c_MOST_KINDS)))))) (ss_cons (s_ret d_bl.toE)
  ss_nil) ss_nil)
  (ss_cons (s_ret (d_callB (c_all C) (hf 4 _ rfl) rfl (a_cons ((d_comp C [("one", 1)] (i_any (d_var 0)) (by show blkC ["thing", "one"] (defScope s_are_kind_numbers) _ _ = true; decide +kernel) (fun s H Cc cl fp => (gw_name [1] 1 C.nd (by simp))) (fun s H Cc cl fp => ts_nil) (fun s H Cc cl fp => ((d_call (C.blk s H Cc cl fp) F_whole_in (al_cons (d_var 1) (al_cons d_int (al_cons ((d_bin o_sub (d_glob c_MOST_KINDS) d_int)).toD (al_nil 0)))) (alLen_cons (alLen_cons (alLen_cons alLen_nil))).at_)).toD))).toD a_nil)))
  ss_nil))
def g_are_kind_numbers : AL → List D → Fr := fun as ld => finF as (fb_are_kind_numbers (S0 2 as ld))
theorem ff_are_kind_numbers {P : Program} {w : World} {K : PySem.W.Frag} {mg : Str → Option Value} {base : Heap} {f : Addr} {fd : FuncData} (F : FunD K "are_kind_numbers" "are_kind_numbers" (defArgs s_are_kind_numbers) (defBody s_are_kind_numbers) (defScope s_are_kind_numbers) [] [] f fd) (hm : mg ("are_kind_numbers" : Str) = some (.ref f)) (hf : ∀ (i : Nat) (x : Str), frees[i]? = some x → mg x = none) (F_whole_in : FF P w K mg base 3 ("whole_in" : Str) 3 g_whole_in) (c_MOST_KINDS : GC K mg ("MOST_KINDS" : Str) (.int 13)) : FF P w K mg base 4 ("are_kind_numbers" : Str) 1 g_are_kind_numbers :=
  fn_d (N := ["thing", "one"]) (ps := ["thing"]) F ⟨rfl, rfl, rfl, by decide +kernel, rfl, by decide +kernel, by decide +kernel⟩ hm (fun _ _ _ _ _ _ us hl => match us, hl with | [_], _ => rfl) (fun cdv A outer s H E C => b_are_kind_numbers hf F_whole_in c_MOST_KINDS C) (fun as ld h => .inr rfl)
/-! ### are_rising_kinds -/
abbrev s_are_rising_kinds : Stmt := top 16
def fb_are_rising_kinds  : AS → Out :=
  (gSeq (gRet (inF (fAndV (fzF (fFn g_are_kind_numbers 0 (lCons (fVar 0) lNil))) (fzF (fCall kAll (fCons (fzF (fLc (fZip (fCons (fVar 0) (fCons (fzF (fSlice (fVar 0) (fPart (fC (.int 1))) fNoPart)) fNil))) (bTup [1, 2]) (fun S => .ok true S) (fzF (fOp kLt (fVar 1) (fVar 2))) [1, 2])) fNil))))))
  gNx)
theorem b_are_rising_kinds {P : Program} {w : World} {K : PySem.W.Frag} {mg : Str → Option Value} {base : Heap}   (hf : ∀ (i : Nat) (x : Str), frees[i]? = some x → mg x = none) (F_are_kind_numbers : FF P w K mg base 4 ("are_kind_numbers" : Str) 1 g_are_kind_numbers) {cdv : Value} {A : Around} {outer : List Env} {s : Shared} {H : Hp} {E : XK} {f : Addr}
    (C : Ctx (cxOf (L2N.CX P w) P w K mg base ["thing", "one", "other"] "are_rising_kinds" (defScope s_are_rising_kinds) f cdv A outer s H E) E 4) : DSs (cxOf (L2N.CX P w) P w K mg base ["thing", "one", "other"] "are_rising_kinds" (defScope s_are_rising_kinds) f cdv A outer s H E) E (defBody s_are_rising_kinds) (fb_are_rising_kinds ) :=
  (ss_cons (s_ret ((v_and ((d_call C F_are_kind_numbers (al_cons (d_var 0) (al_nil 0)) (alLen_cons alLen_nil).at_)).toD (v_one ((d_callB (c_all C) (hf 4 _ rfl) rfl (a_cons ((d_comp C [("one", 1), ("other", 2)] (i_zip (a_cons (d_var 0) (a_cons ((d_slice (d_var 0) (po_so d_int) po_no)).toD a_nil)) (hf 12 _ rfl)) (by show blkC ["thing", "one", "other"] (defScope s_are_rising_kinds) _ _ = true; decide +kernel) (fun s H Cc cl fp => (gw_tup C.calm (uw_cons 1 C.nd (by simp) (uw_cons 2 C.nd (by simp) uw_nil)))) (fun s H Cc cl fp => ts_nil) (fun s H Cc cl fp => ((d_cmp o_lt (d_var 1) (d_var 2))).toD))).toD a_nil))).toD))).toE)
  ss_nil)
def g_are_rising_kinds : AL → List D → Fr := fun as ld => finF as (fb_are_rising_kinds (S0 3 as ld))
theorem ff_are_rising_kinds {P : Program} {w : World} {K : PySem.W.Frag} {mg : Str → Option Value} {base : Heap} {f : Addr} {fd : FuncData} (F : FunD K "are_rising_kinds" "are_rising_kinds" (defArgs s_are_rising_kinds) (defBody s_are_rising_kinds) (defScope s_are_rising_kinds) [] [] f fd) (hm : mg ("are_rising_kinds" : Str) = some (.ref f)) (hf : ∀ (i : Nat) (x : Str), frees[i]? = some x → mg x = none) (F_are_kind_numbers : FF P w K mg base 4 ("are_kind_numbers" : Str) 1 g_are_kind_numbers) : FF P w K mg base 5 ("are_rising_kinds" : Str) 1 g_are_rising_kinds :=
  fn_d (N := ["thing", "one", "other"]) (ps := ["thing"]) F ⟨rfl, rfl, rfl, by decide +kernel, rfl, by decide +kernel, by decide +kernel⟩ hm (fun _ _ _ _ _ _ us hl => match us, hl with | [_], _ => rfl) (fun cdv A outer s H E C => b_are_rising_kinds hf F_are_kind_numbers C) (fun as ld h => .inr rfl)
/-! ### made_of -/
abbrev s_made_of : Stmt := top 17
def fb_made_of  : AS → Out :=
  (gSeq (gIf (fOr (fNot (fTru (fIsi "tuple" (fVar 0)))) (fOr (toBF (fOp kEq (fVar 0) (fTup fNil))) (fNot (fTru (fIsi "str" (fzF (fOp kItem (fVar 0) (fC (.int 0))))))))) (gSeq (gRet (inF (fC .none)))
  gNx) gNx)
  (gSeq (gSet 1 (fzF (fOp kItem (fVar 0) (fC (.int 0)))))
  (gSeq (gIf (toBF (fOp kIn (fVar 1) (fC d_WORD_LEAVES))) (gSeq (gRet (fIf (toBF (fOp kEq (fzF (fCall kLen (fCons (fVar 0) fNil))) (fC (.int 1)))) (fLst fNil) (inF (fC .none))))
  gNx) gNx)
  (gSeq (gIf (toBF (fK (kInK kv_LEAF_TOPS id) (fVar 1))) (gSeq (gRet (fIf (fAnd (toBF (fOp kEq (fzF (fCall kLen (fCons (fVar 0) fNil))) (fC (.int 2)))) (fTru (fzF (fFn g_whole_in 0 (lCons (fzF (fOp kItem (fVar 0) (fC (.int 1)))) (lCons (fC (.int 1)) (lCons (fzF (fK (kItK kv_LEAF_TOPS) (fVar 1))) lNil))))))) (fLst fNil) (inF (fC .none))))
  gNx) gNx)
  (gSeq (gIf (fOr (toBF (fK (kInK kv_PART_LENGTHS not) (fVar 1))) (toBF (fOp kNe (fzF (fCall kLen (fCons (fVar 0) fNil))) (fzF (fK (kItK kv_PART_LENGTHS) (fVar 1)))))) (gSeq (gRet (inF (fC .none)))
  gNx) gNx)
  (gSeq (gIf (fOr (fAnd (toBF (fOp kEq (fVar 1) (fC (.str ("part" : Str))))) (fNot (fTru (fzF (fFn g_are_rising_kinds 0 (lCons (fzF (fOp kItem (fVar 0) (fC (.int 2)))) lNil)))))) (fAnd (toBF (fOp kEq (fVar 1) (fC (.str ("lump" : Str))))) (fNot (fTru (fzF (fFn g_are_kind_numbers 0 (lCons (fzF (fOp kItem (fVar 0) (fC (.int 2)))) lNil))))))) (gSeq (gRet (inF (fC .none)))
  gNx) gNx)
  (gSeq (gRet (fLc (fAnyI (fzF (fK (kItK kv_PART_PLACES) (fVar 1)))) (bName 2) (fun S => .ok true S) (fzF (fOp kItem (fVar 0) (fVar 2))) [2]))
  gNx)))))))
theorem b_made_of {P : Program} {w : World} {K : PySem.W.Frag} {mg : Str → Option Value} {base : Heap}   (hf : ∀ (i : Nat) (x : Str), frees[i]? = some x → mg x = none) (F_whole_in : FF P w K mg base 3 ("whole_in" : Str) 3 g_whole_in) (F_are_rising_kinds : FF P w K mg base 5 ("are_rising_kinds" : Str) 1 g_are_rising_kinds) (F_are_kind_numbers : FF P w K mg base 4 ("are_kind_numbers" : Str) 1 g_are_kind_numbers) (c_WORD_LEAVES : GC K mg ("WORD_LEAVES" : Str) d_WORD_LEAVES) (k_LEAF_TOPS : GK K w mg ("LEAF_TOPS" : Str) kv_LEAF_TOPS) (k_PART_LENGTHS : GK K w mg ("PART_LENGTHS" : Str) kv_PART_LENGTHS) (k_PART_PLACES : GK K w mg ("PART_PLACES" : Str) kv_PART_PLACES) {cdv : Value} {A : Around} {outer : List Env} {s : Shared} {H : Hp} {E : XK} {f : Addr}
    (C : Ctx (cxOf (L2N.CX P w) P w K mg base ["thing", "word", "place"] "made_of" (defScope s_made_of) f cdv A outer s H E) E 5) : DSs (cxOf (L2N.CX P w) P w K mg base ["thing", "word", "place"] "made_of" (defScope s_made_of) f cdv A outer s H E) E (defBody s_made_of) (fb_made_of ) :=
  (ss_cons (s_if (DW.t (w_or (t_not (t_val (d_isi (T := "tuple") rfl (d_var 0) (hf 13 _ rfl) (hf 8 _ rfl) rfl))) (w_or (t_cmp (o_eq C) (d_var 0) (d_tup a_nil)) (w_or1 (t_not (t_val (d_isi (T := "str") rfl ((d_item (d_var 0) d_int)).toD (hf 13 _ rfl) (hf 7 _ rfl) rfl))))))) (ss_cons (s_ret d_non.toE)
  ss_nil) ss_nil)
  (ss_cons (s_set 1 C ((d_item (d_var 0) d_int)).toD)
  (ss_cons (s_if (t_cmp o_in (d_var 1) (d_glob c_WORD_LEAVES)) (ss_cons (s_ret (d_if (t_cmp (o_eq C) ((d_callB c_len (hf 0 _ rfl) rfl (a_cons (d_var 0) a_nil))).toD d_int) (d_lst a_nil) d_non.toE))
  ss_nil) ss_nil)
  (ss_cons (s_if (t_inK k_LEAF_TOPS (d_var 1)) (ss_cons (s_ret (d_if (DW.t (w_and (t_cmp (o_eq C) ((d_callB c_len (hf 0 _ rfl) rfl (a_cons (d_var 0) a_nil))).toD d_int) (w_and1 (t_val ((d_call C F_whole_in (al_cons ((d_item (d_var 0) d_int)).toD (al_cons d_int (al_cons ((d_itemK k_LEAF_TOPS (d_var 1))).toD (al_nil 0)))) (alLen_cons (alLen_cons (alLen_cons alLen_nil))).at_)).toD)))) (d_lst a_nil) d_non.toE))
  ss_nil) ss_nil)
  (ss_cons (s_if (DW.t (w_or (t_notInK k_PART_LENGTHS (d_var 1)) (w_or1 (t_cmp (o_ne C) ((d_callB c_len (hf 0 _ rfl) rfl (a_cons (d_var 0) a_nil))).toD ((d_itemK k_PART_LENGTHS (d_var 1))).toD)))) (ss_cons (s_ret d_non.toE)
  ss_nil) ss_nil)
  (ss_cons (s_if (DW.t (w_or (DW.t (w_and (t_cmp (o_eq C) (d_var 1) (d_str)) (w_and1 (t_not (t_val ((d_call C F_are_rising_kinds (al_cons ((d_item (d_var 0) d_int)).toD (al_nil 0)) (alLen_cons alLen_nil).at_)).toD))))) (w_or1 (DW.t (w_and (t_cmp (o_eq C) (d_var 1) (d_str)) (w_and1 (t_not (t_val ((d_call C F_are_kind_numbers (al_cons ((d_item (d_var 0) d_int)).toD (al_nil 0)) (alLen_cons alLen_nil).at_)).toD)))))))) (ss_cons (s_ret d_non.toE)
  ss_nil) ss_nil)
  (ss_cons (s_ret (d_comp C [("place", 2)] (i_any ((d_itemK k_PART_PLACES (d_var 1))).toD) (by show blkC ["thing", "word", "place"] (defScope s_made_of) _ _ = true; decide +kernel) (fun s H Cc cl fp => (gw_name [2] 2 C.nd (by simp))) (fun s H Cc cl fp => ts_nil) (fun s H Cc cl fp => ((d_item (d_var 0) (d_var 2))).toD)))
  ss_nil)))))))
def g_made_of : AL → List D → Fr := fun as ld => finF as (fb_made_of (S0 3 as ld))
theorem ff_made_of {P : Program} {w : World} {K : PySem.W.Frag} {mg : Str → Option Value} {base : Heap} {f : Addr} {fd : FuncData} (F : FunD K "made_of" "made_of" (defArgs s_made_of) (defBody s_made_of) (defScope s_made_of) [] [] f fd) (hm : mg ("made_of" : Str) = some (.ref f)) (hf : ∀ (i : Nat) (x : Str), frees[i]? = some x → mg x = none) (F_whole_in : FF P w K mg base 3 ("whole_in" : Str) 3 g_whole_in) (F_are_rising_kinds : FF P w K mg base 5 ("are_rising_kinds" : Str) 1 g_are_rising_kinds) (F_are_kind_numbers : FF P w K mg base 4 ("are_kind_numbers" : Str) 1 g_are_kind_numbers) (c_WORD_LEAVES : GC K mg ("WORD_LEAVES" : Str) d_WORD_LEAVES) (k_LEAF_TOPS : GK K w mg ("LEAF_TOPS" : Str) kv_LEAF_TOPS) (k_PART_LENGTHS : GK K w mg ("PART_LENGTHS" : Str) kv_PART_LENGTHS) (k_PART_PLACES : GK K w mg ("PART_PLACES" : Str) kv_PART_PLACES) : FF P w K mg base 6 ("made_of" : Str) 1 g_made_of :=
  fn_d (N := ["thing", "word", "place"]) (ps := ["thing"]) F ⟨rfl, rfl, rfl, by decide +kernel, rfl, by decide +kernel, by decide +kernel⟩ hm (fun _ _ _ _ _ _ us hl => match us, hl with | [_], _ => rfl) (fun cdv A outer s H E C => b_made_of hf F_whole_in F_are_rising_kinds F_are_kind_numbers c_WORD_LEAVES k_LEAF_TOPS k_PART_LENGTHS k_PART_PLACES C) (fun as ld h => .inr rfl)
/-! ### depth_of -/
abbrev s_depth_of : Stmt := top 18
def fb_depth_of  : AS → Out :=
  (gSeq (gPar3 1 2 3 (fLst (fCons (fTup (fCons (fVar 0) (fCons (fC (.int 1)) fNil))) fNil)) (inF (fC (.int 0))) (inF (fC (.int 0))))
  (gSeq (gWhile (toBF (fPeekCmp 1 kNe (fzF (fLst fNil)))) (gSeq (gUnp [4, 5] (fPop 1))
  (gSeq (gSet 6 (fzF (fFn g_made_of 0 (lCons (fVar 4) lNil))))
  (gSeq (gIf (fOr (toBF (fOp kIs (fVar 6) (fC .none))) (fOr (toBF (fOp kGt (fVar 5) (fC (.int 20)))) (toBF (fOp kGt (fVar 3) (fC (.int 100)))))) (gSeq (gRet (inF (fC (.int 0))))
  gNx) gNx)
  (gSeq (gPar2 2 3 (fCall kMax (fCons (fVar 2) (fCons (fVar 5) fNil))) (fOp kAdd (fVar 3) (fzF (fCall kInt (fCons (fzF (fOp kEq (fVar 6) (fzF (fLst fNil)))) fNil)))))
  (gSeq (gExt 1 (fLc (fAnyI (fVar 6)) (bName 7) (fun S => .ok true S) (fTup (fCons (fVar 7) (fCons (fzF (fOp kAdd (fVar 5) (fC (.int 1)))) fNil))) [7]))
  gNx))))) [4, 5, 6, 7] 1000000)
  (gSeq (gRet (fIf (toBF (fOp kLe (fVar 3) (fC (.int 100)))) (inF (fVar 2)) (inF (fC (.int 0)))))
  gNx)))
theorem b_depth_of {P : Program} {w : World} {K : PySem.W.Frag} {mg : Str → Option Value} {base : Heap}   (hf : ∀ (i : Nat) (x : Str), frees[i]? = some x → mg x = none) (F_made_of : FF P w K mg base 6 ("made_of" : Str) 1 g_made_of) (c_MOST_DEPTH : GC K mg ("MOST_DEPTH" : Str) (.int 20)) (c_MOST_LEAVES : GC K mg ("MOST_LEAVES" : Str) (.int 100)) {cdv : Value} {A : Around} {outer : List Env} {s : Shared} {H : Hp} {E : XK} {f : Addr}
    (C : Ctx (cxOf (L2N.CX P w) P w K mg base ["thing", "waiting", "deepest", "leaves", "here", "depth", "inner", "part"] "depth_of" (defScope s_depth_of) f cdv A outer s H E) E 6) : DSs (cxOf (L2N.CX P w) P w K mg base ["thing", "waiting", "deepest", "leaves", "here", "depth", "inner", "part"] "depth_of" (defScope s_depth_of) f cdv A outer s H E) E (defBody s_depth_of) (fb_depth_of ) :=
  (ss_cons (s_par3 1 2 3 C (d_lst (a_cons (d_tup (a_cons (d_var 0) (a_cons d_int a_nil))) a_nil)) d_int.toE d_int.toE)
  (ss_cons (s_while C [4, 5, 6, 7] 1000000 (t_peekCmp 1 (p_ne C) ((d_lst a_nil)).toD) (ss_cons (s_unp C (un_cons 4 C (un_cons 5 C un_nil)) (d_pop 1))
  (ss_cons (s_set 6 C ((d_call C F_made_of (al_cons (d_var 4) (al_nil 0)) (alLen_cons alLen_nil).at_)).toD)
  (ss_cons (s_if (DW.t (w_or (t_cmp o_is (d_var 6) d_non) (w_or (t_cmp o_gt (d_var 5) (d_glob c_MOST_DEPTH)) (w_or1 (t_cmp o_gt (d_var 3) (d_glob c_MOST_LEAVES)))))) (ss_cons (s_ret d_int.toE)
  ss_nil) ss_nil)
  (ss_cons (s_par2 2 3 C (d_callB (c_max C) (hf 1 _ rfl) rfl (a_cons (d_var 2) (a_cons (d_var 5) a_nil))) (d_bin o_add (d_var 3) ((d_callTy c_int (hf 6 _ rfl) rfl (a_cons ((d_cmp (o_eq C) (d_var 6) ((d_lst a_nil)).toD)).toD a_nil))).toD))
  (ss_cons (s_ext 1 (d_comp C [("part", 7)] (i_any (d_var 6)) (by show blkC ["thing", "waiting", "deepest", "leaves", "here", "depth", "inner", "part"] (defScope s_depth_of) _ _ = true; decide +kernel) (fun s H Cc cl fp => (gw_name [7] 7 C.nd (by simp))) (fun s H Cc cl fp => ts_nil) (fun s H Cc cl fp => (d_tup (a_cons (d_var 7) (a_cons ((d_bin o_add (d_var 5) d_int)).toD a_nil))))))
  ss_nil))))))
  (ss_cons (s_ret (d_if (t_cmp o_le (d_var 3) (d_glob c_MOST_LEAVES)) ((d_var 2)).toE d_int.toE))
  ss_nil)))
def g_depth_of : AL → List D → Fr := fun as ld => finF as (fb_depth_of (S0 8 as ld))
theorem ff_depth_of {P : Program} {w : World} {K : PySem.W.Frag} {mg : Str → Option Value} {base : Heap} {f : Addr} {fd : FuncData} (F : FunD K "depth_of" "depth_of" (defArgs s_depth_of) (defBody s_depth_of) (defScope s_depth_of) [] [] f fd) (hm : mg ("depth_of" : Str) = some (.ref f)) (hf : ∀ (i : Nat) (x : Str), frees[i]? = some x → mg x = none) (F_made_of : FF P w K mg base 6 ("made_of" : Str) 1 g_made_of) (c_MOST_DEPTH : GC K mg ("MOST_DEPTH" : Str) (.int 20)) (c_MOST_LEAVES : GC K mg ("MOST_LEAVES" : Str) (.int 100)) : FF P w K mg base 7 ("depth_of" : Str) 1 g_depth_of :=
  fn_d (N := ["thing", "waiting", "deepest", "leaves", "here", "depth", "inner", "part"]) (ps := ["thing"]) F ⟨rfl, rfl, rfl, by decide +kernel, rfl, by decide +kernel, by decide +kernel⟩ hm (fun _ _ _ _ _ _ us hl => match us, hl with | [_], _ => rfl) (fun cdv A outer s H E C => b_depth_of hf F_made_of c_MOST_DEPTH c_MOST_LEAVES C) (fun as ld h => .inr rfl)
/-! ### is_sketch -/
abbrev s_is_sketch : Stmt := top 19
def fb_is_sketch  : AS → Out :=
  (gSeq (gRet (fOp kGt (fzF (fFn g_depth_of 0 (lCons (fVar 0) lNil))) (fC (.int 0))))
  gNx)
theorem b_is_sketch {P : Program} {w : World} {K : PySem.W.Frag} {mg : Str → Option Value} {base : Heap}   (hf : ∀ (i : Nat) (x : Str), frees[i]? = some x → mg x = none) (F_depth_of : FF P w K mg base 7 ("depth_of" : Str) 1 g_depth_of) {cdv : Value} {A : Around} {outer : List Env} {s : Shared} {H : Hp} {E : XK} {f : Addr}
    (C : Ctx (cxOf (L2N.CX P w) P w K mg base ["thing"] "is_sketch" (defScope s_is_sketch) f cdv A outer s H E) E 7) : DSs (cxOf (L2N.CX P w) P w K mg base ["thing"] "is_sketch" (defScope s_is_sketch) f cdv A outer s H E) E (defBody s_is_sketch) (fb_is_sketch ) :=
  (ss_cons (s_ret (d_cmp o_gt ((d_call C F_depth_of (al_cons (d_var 0) (al_nil 0)) (alLen_cons alLen_nil).at_)).toD d_int))
  ss_nil)
def g_is_sketch : AL → List D → Fr := fun as ld => finF as (fb_is_sketch (S0 1 as ld))
theorem ff_is_sketch {P : Program} {w : World} {K : PySem.W.Frag} {mg : Str → Option Value} {base : Heap} {f : Addr} {fd : FuncData} (F : FunD K "is_sketch" "is_sketch" (defArgs s_is_sketch) (defBody s_is_sketch) (defScope s_is_sketch) [] [] f fd) (hm : mg ("is_sketch" : Str) = some (.ref f)) (hf : ∀ (i : Nat) (x : Str), frees[i]? = some x → mg x = none) (F_depth_of : FF P w K mg base 7 ("depth_of" : Str) 1 g_depth_of) : FF P w K mg base 8 ("is_sketch" : Str) 1 g_is_sketch :=
  fn_d (N := ["thing"]) (ps := ["thing"]) F ⟨rfl, rfl, rfl, by decide +kernel, rfl, by decide +kernel, by decide +kernel⟩ hm (fun _ _ _ _ _ _ us hl => match us, hl with | [_], _ => rfl) (fun cdv A outer s H E C => b_is_sketch hf F_depth_of C) (fun as ld h => .inr rfl)
/-! ### asked_text -/
abbrev s_asked_text : Stmt := top 24
def fb_asked_text  : AS → Out :=
  (gSeq (gIf (fNot (fTru (fIsi "str" (fVar 0)))) (gSeq (gRaise ("BadText" : Str) (fNeg (fC (.int 1))))
  gNx) gNx)
  (gSeq (gIf (toBF (fOp kGt (fzF (fCall kLen (fCons (fVar 0) fNil))) (fVar 1))) (gSeq (gRaise ("TooMany" : Str) (fzF (fCall kLen (fCons (fVar 0) fNil))))
  gNx) gNx)
  (gSeq (gRet (inF (fVar 0)))
  gNx)))
theorem b_asked_text {P : Program} {w : World} {K : PySem.W.Frag} {mg : Str → Option Value} {base : Heap}   (hf : ∀ (i : Nat) (x : Str), frees[i]? = some x → mg x = none) (R_BadText : RX P w K mg base ("BadText" : Str)) (R_TooMany : RX P w K mg base ("TooMany" : Str)) {cdv : Value} {A : Around} {outer : List Env} {s : Shared} {H : Hp} {E : XK} {f : Addr}
    (C : Ctx (cxOf (L2N.CX P w) P w K mg base ["text", "most"] "asked_text" (defScope s_asked_text) f cdv A outer s H E) E 2) : DSs (cxOf (L2N.CX P w) P w K mg base ["text", "most"] "asked_text" (defScope s_asked_text) f cdv A outer s H E) E (defBody s_asked_text) (fb_asked_text ) :=
  (ss_cons (s_if (t_not (t_val (d_isi (T := "str") rfl (d_var 0) (hf 13 _ rfl) (hf 7 _ rfl) rfl))) (ss_cons (s_raise C R_BadText (d_neg d_int))
  ss_nil) ss_nil)
  (ss_cons (s_if (t_cmp o_gt ((d_callB c_len (hf 0 _ rfl) rfl (a_cons (d_var 0) a_nil))).toD (d_var 1)) (ss_cons (s_raise C R_TooMany ((d_callB c_len (hf 0 _ rfl) rfl (a_cons (d_var 0) a_nil))).toD)
  ss_nil) ss_nil)
  (ss_cons (s_ret ((d_var 0)).toE)
  ss_nil)))
def g_asked_text : AL → List D → Fr := fun as ld => finF as (fb_asked_text (S0 2 as ld))
theorem ff_asked_text {P : Program} {w : World} {K : PySem.W.Frag} {mg : Str → Option Value} {base : Heap} {f : Addr} {fd : FuncData} (F : FunD K "asked_text" "asked_text" (defArgs s_asked_text) (defBody s_asked_text) (defScope s_asked_text) [] [] f fd) (hm : mg ("asked_text" : Str) = some (.ref f)) (hf : ∀ (i : Nat) (x : Str), frees[i]? = some x → mg x = none) (R_BadText : RX P w K mg base ("BadText" : Str)) (R_TooMany : RX P w K mg base ("TooMany" : Str)) : FF P w K mg base 3 ("asked_text" : Str) 2 g_asked_text :=
  fn_d (N := ["text", "most"]) (ps := ["text", "most"]) F ⟨rfl, rfl, rfl, by decide +kernel, rfl, by decide +kernel, by decide +kernel⟩ hm (fun _ _ _ _ _ _ us hl => match us, hl with | [_, _], _ => rfl) (fun cdv A outer s H E C => b_asked_text hf R_BadText R_TooMany C) (fun as ld h => .inr rfl)
/-! ### lines_of -/
abbrev s_lines_of : Stmt := top 25
def fb_lines_of  : AS → Out :=
  (gSeq (gRet (fSplit (fzF (fFn g_asked_text 0 (lCons (fVar 0) (lCons (fC (.int 1000000)) lNil)))) (fC (.str ("\n" : Str)))))
  gNx)
theorem b_lines_of {P : Program} {w : World} {K : PySem.W.Frag} {mg : Str → Option Value} {base : Heap}   (hf : ∀ (i : Nat) (x : Str), frees[i]? = some x → mg x = none) (F_asked_text : FF P w K mg base 3 ("asked_text" : Str) 2 g_asked_text) (c_MOST_SIGNS : GC K mg ("MOST_SIGNS" : Str) (.int 1000000)) {cdv : Value} {A : Around} {outer : List Env} {s : Shared} {H : Hp} {E : XK} {f : Addr}
    (C : Ctx (cxOf (L2N.CX P w) P w K mg base ["text"] "lines_of" (defScope s_lines_of) f cdv A outer s H E) E 3) : DSs (cxOf (L2N.CX P w) P w K mg base ["text"] "lines_of" (defScope s_lines_of) f cdv A outer s H E) E (defBody s_lines_of) (fb_lines_of ) :=
  (ss_cons (s_ret (d_split ((d_call C F_asked_text (al_cons (d_var 0) (al_cons (d_glob c_MOST_SIGNS) (al_nil 0))) (alLen_cons (alLen_cons alLen_nil)).at_)).toD (d_str)))
  ss_nil)
def g_lines_of : AL → List D → Fr := fun as ld => finF as (fb_lines_of (S0 1 as ld))
theorem ff_lines_of {P : Program} {w : World} {K : PySem.W.Frag} {mg : Str → Option Value} {base : Heap} {f : Addr} {fd : FuncData} (F : FunD K "lines_of" "lines_of" (defArgs s_lines_of) (defBody s_lines_of) (defScope s_lines_of) [] [] f fd) (hm : mg ("lines_of" : Str) = some (.ref f)) (hf : ∀ (i : Nat) (x : Str), frees[i]? = some x → mg x = none) (F_asked_text : FF P w K mg base 3 ("asked_text" : Str) 2 g_asked_text) (c_MOST_SIGNS : GC K mg ("MOST_SIGNS" : Str) (.int 1000000)) : FF P w K mg base 4 ("lines_of" : Str) 1 g_lines_of :=
  fn_d (N := ["text"]) (ps := ["text"]) F ⟨rfl, rfl, rfl, by decide +kernel, rfl, by decide +kernel, by decide +kernel⟩ hm (fun _ _ _ _ _ _ us hl => match us, hl with | [_], _ => rfl) (fun cdv A outer s H E C => b_lines_of hf F_asked_text c_MOST_SIGNS C) (fun as ld h => .inr rfl)
/-! ### words_of -/
abbrev s_words_of : Stmt := top 26
def fb_words_of  : AS → Out :=
  (gSeq (gRet (fSplit (fVar 0) (fC (.str (" " : Str)))))
  gNx)
theorem b_words_of {P : Program} {w : World} {K : PySem.W.Frag} {mg : Str → Option Value} {base : Heap}   (hf : ∀ (i : Nat) (x : Str), frees[i]? = some x → mg x = none)  {cdv : Value} {A : Around} {outer : List Env} {s : Shared} {H : Hp} {E : XK} {f : Addr}
    (C : Ctx (cxOf (L2N.CX P w) P w K mg base ["line"] "words_of" (defScope s_words_of) f cdv A outer s H E) E 2) : DSs (cxOf (L2N.CX P w) P w K mg base ["line"] "words_of" (defScope s_words_of) f cdv A outer s H E) E (defBody s_words_of) (fb_words_of ) :=
  (ss_cons (s_ret (d_split (d_var 0) (d_str)))
  ss_nil)
def g_words_of : AL → List D → Fr := fun as ld => finF as (fb_words_of (S0 1 as ld))
theorem ff_words_of {P : Program} {w : World} {K : PySem.W.Frag} {mg : Str → Option Value} {base : Heap} {f : Addr} {fd : FuncData} (F : FunD K "words_of" "words_of" (defArgs s_words_of) (defBody s_words_of) (defScope s_words_of) [] [] f fd) (hm : mg ("words_of" : Str) = some (.ref f)) (hf : ∀ (i : Nat) (x : Str), frees[i]? = some x → mg x = none)  : FF P w K mg base 3 ("words_of" : Str) 1 g_words_of :=
  fn_d (N := ["line"]) (ps := ["line"]) F ⟨rfl, rfl, rfl, by decide +kernel, rfl, by decide +kernel, by decide +kernel⟩ hm (fun _ _ _ _ _ _ us hl => match us, hl with | [_], _ => rfl) (fun cdv A outer s H E C => b_words_of hf  C) (fun as ld h => .inr rfl)
/-! ### number_of -/
abbrev s_number_of : Stmt := top 27
def fb_number_of  : AS → Out :=
  (gSeq (gIf (fOr (fNot (toBF (fChain kLe kLe (fC (.int 1)) (fzF (fCall kLen (fCons (fVar 0) fNil))) (fC (.int 20))))) (fNot (fTru (fzF (fCall kAll (fCons (fzF (fLc (fAnyI (fVar 0)) (bName 1) (fun S => .ok true S) (fzF (fOp kIn (fVar 1) (fC (.str ("0123456789" : Str))))) [1])) fNil)))))) (gSeq (gRet (inF (fC .none)))
  gNx) gNx)
  (gSeq (gRet (fIf (fOr (toBF (fOp kEq (fVar 0) (fC (.str ("0" : Str))))) (toBF (fOp kNe (fzF (fOp kItem (fVar 0) (fC (.int 0)))) (fC (.str ("0" : Str)))))) (fCall kInt (fCons (fVar 0) fNil)) (inF (fC .none))))
  gNx))
theorem b_number_of {P : Program} {w : World} {K : PySem.W.Frag} {mg : Str → Option Value} {base : Heap}   (hf : ∀ (i : Nat) (x : Str), frees[i]? = some x → mg x = none) (c_MOST_FIGURES : GC K mg ("MOST_FIGURES" : Str) (.int 20)) {cdv : Value} {A : Around} {outer : List Env} {s : Shared} {H : Hp} {E : XK} {f : Addr}
    (C : Ctx (cxOf (L2N.CX P w) P w K mg base ["word", "sign"] "number_of" (defScope s_number_of) f cdv A outer s H E) E 2) : DSs (cxOf (L2N.CX P w) P w K mg base ["word", "sign"] "number_of" (defScope s_number_of) f cdv A outer s H E) E (defBody s_number_of) (fb_number_of ) :=
  (ss_cons (s_if (DW.t (w_or (t_not (t_chain o_le o_le d_int ((d_callB c_len (hf 0 _ rfl) rfl (a_cons (d_var 0) a_nil))).toD (d_glob c_MOST_FIGURES))) (w_or1 (t_not (t_val ((d_callB (c_all C) (hf 4 _ rfl) rfl (a_cons ((d_comp C [("sign", 1)] (i_any (d_var 0)) (by show blkC ["word", "sign"] (defScope s_number_of) _ _ = true; decide +kernel) (fun s H Cc cl fp => (gw_name [1] 1 C.nd (by simp))) (fun s H Cc cl fp => ts_nil) (fun s H Cc cl fp => ((d_cmp o_in (d_var 1) (d_str))).toD))).toD a_nil))).toD))))) (ss_cons (s_ret d_non.toE)
  ss_nil) ss_nil)
  (ss_cons (s_ret (d_if (DW.t (w_or (t_cmp (o_eq C) (d_var 0) (d_str)) (w_or1 (t_cmp (o_ne C) ((d_item (d_var 0) d_int)).toD (d_str))))) (d_callTy c_int (hf 6 _ rfl) rfl (a_cons (d_var 0) a_nil)) d_non.toE))
  ss_nil))
def g_number_of : AL → List D → Fr := fun as ld => finF as (fb_number_of (S0 2 as ld))
theorem ff_number_of {P : Program} {w : World} {K : PySem.W.Frag} {mg : Str → Option Value} {base : Heap} {f : Addr} {fd : FuncData} (F : FunD K "number_of" "number_of" (defArgs s_number_of) (defBody s_number_of) (defScope s_number_of) [] [] f fd) (hm : mg ("number_of" : Str) = some (.ref f)) (hf : ∀ (i : Nat) (x : Str), frees[i]? = some x → mg x = none) (c_MOST_FIGURES : GC K mg ("MOST_FIGURES" : Str) (.int 20)) : FF P w K mg base 3 ("number_of" : Str) 1 g_number_of :=
  fn_d (N := ["word", "sign"]) (ps := ["word"]) F ⟨rfl, rfl, rfl, by decide +kernel, rfl, by decide +kernel, by decide +kernel⟩ hm (fun _ _ _ _ _ _ us hl => match us, hl with | [_], _ => rfl) (fun cdv A outer s H E C => b_number_of hf c_MOST_FIGURES C) (fun as ld h => .inr rfl)
/-! ### list_word -/
abbrev s_list_word : Stmt := top 28
def fb_list_word  : AS → Out :=
  (gSeq (gSetO 1 (fLc (fAnyI (fzF (fSplit (fVar 0) (fC (.str (",":Str)))))) (bName 2) (fun S => .ok true S) (fzF (fFn g_number_of 0 (lCons (fVar 2) lNil))) [2]))
  (gSeq (gRet (fIf (toBF (fOp kNotIn (fC .none) (fVar 1))) (fCall kTuple (fCons (fVar 1) fNil)) (inF (fC .none))))
  gNx))
theorem b_list_word {P : Program} {w : World} {K : PySem.W.Frag} {mg : Str → Option Value} {base : Heap}   (hf : ∀ (i : Nat) (x : Str), frees[i]? = some x → mg x = none) (F_number_of : FF P w K mg base 3 ("number_of" : Str) 1 g_number_of) (c_LOT_SIGN : GC K mg ("LOT_SIGN" : Str) (.str (",":Str))) {cdv : Value} {A : Around} {outer : List Env} {s : Shared} {H : Hp} {E : XK} {f : Addr}
    (C : Ctx (cxOf (L2N.CX P w) P w K mg base ["word", "found", "part"] "list_word" (defScope s_list_word) f cdv A outer s H E) E 3) : DSs (cxOf (L2N.CX P w) P w K mg base ["word", "found", "part"] "list_word" (defScope s_list_word) f cdv A outer s H E) E (defBody s_list_word) (fb_list_word ) :=
  (ss_cons (s_setC 1 C [("part", 2)] (i_any ((d_split (d_var 0) (d_glob c_LOT_SIGN))).toD) (by show blkC ["word", "found", "part"] (defScope s_list_word) _ _ = true; decide +kernel) (fun s H Cc cl fp => (gw_name [2] 2 C.nd (by simp))) (fun s H Cc cl fp => ts_nil) (fun s H Cc cl fp => ((d_call (C.blk s H Cc cl fp) F_number_of (al_cons (d_var 2) (al_nil 0)) (alLen_cons alLen_nil).at_)).toD))
  (ss_cons (s_ret (d_if (t_cmp o_notIn d_non (d_var 1)) (d_callTy c_tuple (hf 8 _ rfl) rfl (a_cons (d_var 1) a_nil)) d_non.toE))
  ss_nil))
def g_list_word : AL → List D → Fr := fun as ld => finF as (fb_list_word (S0 3 as ld))
theorem ff_list_word {P : Program} {w : World} {K : PySem.W.Frag} {mg : Str → Option Value} {base : Heap} {f : Addr} {fd : FuncData} (F : FunD K "list_word" "list_word" (defArgs s_list_word) (defBody s_list_word) (defScope s_list_word) [] [] f fd) (hm : mg ("list_word" : Str) = some (.ref f)) (hf : ∀ (i : Nat) (x : Str), frees[i]? = some x → mg x = none) (F_number_of : FF P w K mg base 3 ("number_of" : Str) 1 g_number_of) (c_LOT_SIGN : GC K mg ("LOT_SIGN" : Str) (.str (",":Str))) : FF P w K mg base 4 ("list_word" : Str) 1 g_list_word :=
  fn_d (N := ["word", "found", "part"]) (ps := ["word"]) F ⟨rfl, rfl, rfl, by decide +kernel, rfl, by decide +kernel, by decide +kernel⟩ hm (fun _ _ _ _ _ _ us hl => match us, hl with | [_], _ => rfl) (fun cdv A outer s H E C => b_list_word hf F_number_of c_LOT_SIGN C) (fun as ld h => .inr rfl)
/-! ### lot_word -/
abbrev s_lot_word : Stmt := top 29
def fb_lot_word  : AS → Out :=
  (gSeq (gSet 1 (fzF (fFn g_list_word 0 (lCons (fVar 0) lNil))))
  (gSeq (gIf (fOr (toBF (fOp kIs (fVar 1) (fC .none))) (fNot (fTru (fzF (fCall kAll (fCons (fzF (fLc (fZip (fCons (fVar 1) (fCons (fzF (fSlice (fVar 1) (fPart (fC (.int 1))) fNoPart)) fNil))) (bTup [2, 3]) (fun S => .ok true S) (fzF (fOp kLt (fVar 2) (fVar 3))) [2, 3])) fNil)))))) (gSeq (gRet (inF (fC .none)))
  gNx) gNx)
  (gSeq (gRet (inF (fVar 1)))
  gNx)))
theorem b_lot_word {P : Program} {w : World} {K : PySem.W.Frag} {mg : Str → Option Value} {base : Heap}   (hf : ∀ (i : Nat) (x : Str), frees[i]? = some x → mg x = none) (F_list_word : FF P w K mg base 4 ("list_word" : Str) 1 g_list_word) {cdv : Value} {A : Around} {outer : List Env} {s : Shared} {H : Hp} {E : XK} {f : Addr}
    (C : Ctx (cxOf (L2N.CX P w) P w K mg base ["word", "found", "one", "other"] "lot_word" (defScope s_lot_word) f cdv A outer s H E) E 4) : DSs (cxOf (L2N.CX P w) P w K mg base ["word", "found", "one", "other"] "lot_word" (defScope s_lot_word) f cdv A outer s H E) E (defBody s_lot_word) (fb_lot_word ) :=
  (ss_cons (s_set 1 C ((d_call C F_list_word (al_cons (d_var 0) (al_nil 0)) (alLen_cons alLen_nil).at_)).toD)
  (ss_cons (s_if (DW.t (w_or (t_cmp o_is (d_var 1) d_non) (w_or1 (t_not (t_val ((d_callB (c_all C) (hf 4 _ rfl) rfl (a_cons ((d_comp C [("one", 2), ("other", 3)] (i_zip (a_cons (d_var 1) (a_cons ((d_slice (d_var 1) (po_so d_int) po_no)).toD a_nil)) (hf 12 _ rfl)) (by show blkC ["word", "found", "one", "other"] (defScope s_lot_word) _ _ = true; decide +kernel) (fun s H Cc cl fp => (gw_tup C.calm (uw_cons 2 C.nd (by simp) (uw_cons 3 C.nd (by simp) uw_nil)))) (fun s H Cc cl fp => ts_nil) (fun s H Cc cl fp => ((d_cmp o_lt (d_var 2) (d_var 3))).toD))).toD a_nil))).toD))))) (ss_cons (s_ret d_non.toE)
  ss_nil) ss_nil)
  (ss_cons (s_ret ((d_var 1)).toE)
  ss_nil)))
def g_lot_word : AL → List D → Fr := fun as ld => finF as (fb_lot_word (S0 4 as ld))
theorem ff_lot_word {P : Program} {w : World} {K : PySem.W.Frag} {mg : Str → Option Value} {base : Heap} {f : Addr} {fd : FuncData} (F : FunD K "lot_word" "lot_word" (defArgs s_lot_word) (defBody s_lot_word) (defScope s_lot_word) [] [] f fd) (hm : mg ("lot_word" : Str) = some (.ref f)) (hf : ∀ (i : Nat) (x : Str), frees[i]? = some x → mg x = none) (F_list_word : FF P w K mg base 4 ("list_word" : Str) 1 g_list_word) : FF P w K mg base 5 ("lot_word" : Str) 1 g_lot_word :=
  fn_d (N := ["word", "found", "one", "other"]) (ps := ["word"]) F ⟨rfl, rfl, rfl, by decide +kernel, rfl, by decide +kernel, by decide +kernel⟩ hm (fun _ _ _ _ _ _ us hl => match us, hl with | [_], _ => rfl) (fun cdv A outer s H E C => b_lot_word hf F_list_word C) (fun as ld h => .inr rfl)
/-! ### lot_text -/
abbrev s_lot_text : Stmt := top 30
def fb_lot_text  : AS → Out :=
  (gSeq (gRet (fJoin (fC (.str (",":Str))) (fzF (fLc (fAnyI (fVar 0)) (bName 1) (fun S => .ok true S) (fzF (fCall kStr (fCons (fVar 1) fNil))) [1]))))
  gNx)
theorem b_lot_text {P : Program} {w : World} {K : PySem.W.Frag} {mg : Str → Option Value} {base : Heap}   (hf : ∀ (i : Nat) (x : Str), frees[i]? = some x → mg x = none) (c_LOT_SIGN : GC K mg ("LOT_SIGN" : Str) (.str (",":Str))) {cdv : Value} {A : Around} {outer : List Env} {s : Shared} {H : Hp} {E : XK} {f : Addr}
    (C : Ctx (cxOf (L2N.CX P w) P w K mg base ["lot", "number"] "lot_text" (defScope s_lot_text) f cdv A outer s H E) E 2) : DSs (cxOf (L2N.CX P w) P w K mg base ["lot", "number"] "lot_text" (defScope s_lot_text) f cdv A outer s H E) E (defBody s_lot_text) (fb_lot_text ) :=
  (ss_cons (s_ret (d_join (d_glob c_LOT_SIGN) ((d_comp C [("number", 1)] (i_any (d_var 0)) (by show blkC ["lot", "number"] (defScope s_lot_text) _ _ = true; decide +kernel) (fun s H Cc cl fp => (gw_name [1] 1 C.nd (by simp))) (fun s H Cc cl fp => ts_nil) (fun s H Cc cl fp => ((d_callTy c_str (hf 7 _ rfl) rfl (a_cons (d_var 1) a_nil))).toD))).toD))
  ss_nil)
def g_lot_text : AL → List D → Fr := fun as ld => finF as (fb_lot_text (S0 2 as ld))
theorem ff_lot_text {P : Program} {w : World} {K : PySem.W.Frag} {mg : Str → Option Value} {base : Heap} {f : Addr} {fd : FuncData} (F : FunD K "lot_text" "lot_text" (defArgs s_lot_text) (defBody s_lot_text) (defScope s_lot_text) [] [] f fd) (hm : mg ("lot_text" : Str) = some (.ref f)) (hf : ∀ (i : Nat) (x : Str), frees[i]? = some x → mg x = none) (c_LOT_SIGN : GC K mg ("LOT_SIGN" : Str) (.str (",":Str))) : FF P w K mg base 3 ("lot_text" : Str) 1 g_lot_text :=
  fn_d (N := ["lot", "number"]) (ps := ["lot"]) F ⟨rfl, rfl, rfl, by decide +kernel, rfl, by decide +kernel, by decide +kernel⟩ hm (fun _ _ _ _ _ _ us hl => match us, hl with | [_], _ => rfl) (fun cdv A outer s H E C => b_lot_text hf c_LOT_SIGN C) (fun as ld h => .inr rfl)
/-! ### number_from -/
abbrev s_number_from : Stmt := top 31
def fb_number_from  : AS → Out :=
  (gSeq (gSet 4 (fzF (fIf (toBF (fOp kLt (fVar 1) (fzF (fCall kLen (fCons (fVar 0) fNil))))) (fFn g_number_of 0 (lCons (fzF (fOp kItem (fVar 0) (fVar 1))) lNil)) (inF (fC .none)))))
  (gSeq (gRet (fIf (fAnd (toBF (fOp kIsNot (fVar 4) (fC .none))) (toBF (fChain kLe kLe (fVar 2) (fVar 4) (fVar 3)))) (inF (fTup (fCons (fVar 4) (fCons (fzF (fOp kAdd (fVar 1) (fC (.int 1)))) fNil)))) (inF (fTup (fCons (fC .none) (fCons (fVar 1) fNil))))))
  gNx))
theorem b_number_from {P : Program} {w : World} {K : PySem.W.Frag} {mg : Str → Option Value} {base : Heap}   (hf : ∀ (i : Nat) (x : Str), frees[i]? = some x → mg x = none) (F_number_of : FF P w K mg base 3 ("number_of" : Str) 1 g_number_of) {cdv : Value} {A : Around} {outer : List Env} {s : Shared} {H : Hp} {E : XK} {f : Addr}
    (C : Ctx (cxOf (L2N.CX P w) P w K mg base ["words", "at", "low", "high", "number"] "number_from" (defScope s_number_from) f cdv A outer s H E) E 3) : DSs (cxOf (L2N.CX P w) P w K mg base ["words", "at", "low", "high", "number"] "number_from" (defScope s_number_from) f cdv A outer s H E) E (defBody s_number_from) (fb_number_from ) :=
  (ss_cons (s_set 4 C ((d_if (t_cmp o_lt (d_var 1) ((d_callB c_len (hf 0 _ rfl) rfl (a_cons (d_var 0) a_nil))).toD) (d_call C F_number_of (al_cons ((d_item (d_var 0) (d_var 1))).toD (al_nil 0)) (alLen_cons alLen_nil).at_) d_non.toE)).toD)
  (ss_cons (s_ret (d_if (DW.t (w_and (t_cmp o_isNot (d_var 4) d_non) (w_and1 (t_chain o_le o_le (d_var 2) (d_var 4) (d_var 3))))) ((d_tup (a_cons (d_var 4) (a_cons ((d_bin o_add (d_var 1) d_int)).toD a_nil)))).toE ((d_tup (a_cons d_non (a_cons (d_var 1) a_nil)))).toE))
  ss_nil))
def g_number_from : AL → List D → Fr := fun as ld => finF as (fb_number_from (S0 5 as ld))
theorem ff_number_from {P : Program} {w : World} {K : PySem.W.Frag} {mg : Str → Option Value} {base : Heap} {f : Addr} {fd : FuncData} (F : FunD K "number_from" "number_from" (defArgs s_number_from) (defBody s_number_from) (defScope s_number_from) [] [] f fd) (hm : mg ("number_from" : Str) = some (.ref f)) (hf : ∀ (i : Nat) (x : Str), frees[i]? = some x → mg x = none) (F_number_of : FF P w K mg base 3 ("number_of" : Str) 1 g_number_of) : FF P w K mg base 4 ("number_from" : Str) 4 g_number_from :=
  fn_d (N := ["words", "at", "low", "high", "number"]) (ps := ["words", "at", "low", "high"]) F ⟨rfl, rfl, rfl, by decide +kernel, rfl, by decide +kernel, by decide +kernel⟩ hm (fun _ _ _ _ _ _ us hl => match us, hl with | [_, _, _, _], _ => rfl) (fun cdv A outer s H E C => b_number_from hf F_number_of C) (fun as ld h => .inr rfl)
/-! ### asked_end -/
abbrev s_asked_end : Stmt := top 32
def fb_asked_end  : AS → Out :=
  (gSeq (gIf (toBF (fOp kGt (fzF (fCall kLen (fCons (fVar 0) fNil))) (fVar 1))) (gSeq (gRaise ("WrongLine" : Str) (fTup (fCons (fVar 1) (fCons (fC (.int 0)) fNil))))
  gNx) gNx)
  gNx)
theorem b_asked_end {P : Program} {w : World} {K : PySem.W.Frag} {mg : Str → Option Value} {base : Heap}   (hf : ∀ (i : Nat) (x : Str), frees[i]? = some x → mg x = none) (R_WrongLine : RX P w K mg base ("WrongLine" : Str)) {cdv : Value} {A : Around} {outer : List Env} {s : Shared} {H : Hp} {E : XK} {f : Addr}
    (C : Ctx (cxOf (L2N.CX P w) P w K mg base ["lines", "many"] "asked_end" (defScope s_asked_end) f cdv A outer s H E) E 2) : DSs (cxOf (L2N.CX P w) P w K mg base ["lines", "many"] "asked_end" (defScope s_asked_end) f cdv A outer s H E) E (defBody s_asked_end) (fb_asked_end ) :=
  (ss_cons (s_if (t_cmp o_gt ((d_callB c_len (hf 0 _ rfl) rfl (a_cons (d_var 0) a_nil))).toD (d_var 1)) (ss_cons (s_raise C R_WrongLine (d_tup (a_cons (d_var 1) (a_cons d_int a_nil))))
  ss_nil) ss_nil)
  ss_nil)
def g_asked_end : AL → List D → Fr := fun as ld => finF as (fb_asked_end (S0 2 as ld))
theorem ff_asked_end {P : Program} {w : World} {K : PySem.W.Frag} {mg : Str → Option Value} {base : Heap} {f : Addr} {fd : FuncData} (F : FunD K "asked_end" "asked_end" (defArgs s_asked_end) (defBody s_asked_end) (defScope s_asked_end) [] [] f fd) (hm : mg ("asked_end" : Str) = some (.ref f)) (hf : ∀ (i : Nat) (x : Str), frees[i]? = some x → mg x = none) (R_WrongLine : RX P w K mg base ("WrongLine" : Str)) : FF P w K mg base 3 ("asked_end" : Str) 2 g_asked_end :=
  fn_d (N := ["lines", "many"]) (ps := ["lines", "many"]) F ⟨rfl, rfl, rfl, by decide +kernel, rfl, by decide +kernel, by decide +kernel⟩ hm (fun _ _ _ _ _ _ us hl => match us, hl with | [_, _], _ => rfl) (fun cdv A outer s H E C => b_asked_end hf R_WrongLine C) (fun as ld h => .inr rfl)
/-! ### is_leaf -/
abbrev s_is_leaf : Stmt := top 35
def fb_is_leaf  : AS → Out :=
  (gSeq (gRet (inF (fOrV (fzF (fOp kIn (fzF (fOp kItem (fVar 0) (fC (.int 0)))) (fC d_WORD_LEAVES))) (fzF (fK (kInK kv_LEAF_TOPS id) (fzF (fOp kItem (fVar 0) (fC (.int 0)))))))))
  gNx)
theorem b_is_leaf {P : Program} {w : World} {K : PySem.W.Frag} {mg : Str → Option Value} {base : Heap}   (hf : ∀ (i : Nat) (x : Str), frees[i]? = some x → mg x = none) (c_WORD_LEAVES : GC K mg ("WORD_LEAVES" : Str) d_WORD_LEAVES) (k_LEAF_TOPS : GK K w mg ("LEAF_TOPS" : Str) kv_LEAF_TOPS) {cdv : Value} {A : Around} {outer : List Env} {s : Shared} {H : Hp} {E : XK} {f : Addr}
    (C : Ctx (cxOf (L2N.CX P w) P w K mg base ["sketch"] "is_leaf" (defScope s_is_leaf) f cdv A outer s H E) E 2) : DSs (cxOf (L2N.CX P w) P w K mg base ["sketch"] "is_leaf" (defScope s_is_leaf) f cdv A outer s H E) E (defBody s_is_leaf) (fb_is_leaf ) :=
  (ss_cons (s_ret ((v_or ((d_cmp o_in ((d_item (d_var 0) d_int)).toD (d_glob c_WORD_LEAVES))).toD (v_one ((d_inK k_LEAF_TOPS ((d_item (d_var 0) d_int)).toD)).toD))).toE)
  ss_nil)
def g_is_leaf : AL → List D → Fr := fun as ld => finF as (fb_is_leaf (S0 1 as ld))
theorem ff_is_leaf {P : Program} {w : World} {K : PySem.W.Frag} {mg : Str → Option Value} {base : Heap} {f : Addr} {fd : FuncData} (F : FunD K "is_leaf" "is_leaf" (defArgs s_is_leaf) (defBody s_is_leaf) (defScope s_is_leaf) [] [] f fd) (hm : mg ("is_leaf" : Str) = some (.ref f)) (hf : ∀ (i : Nat) (x : Str), frees[i]? = some x → mg x = none) (c_WORD_LEAVES : GC K mg ("WORD_LEAVES" : Str) d_WORD_LEAVES) (k_LEAF_TOPS : GK K w mg ("LEAF_TOPS" : Str) kv_LEAF_TOPS) : FF P w K mg base 3 ("is_leaf" : Str) 1 g_is_leaf :=
  fn_d (N := ["sketch"]) (ps := ["sketch"]) F ⟨rfl, rfl, rfl, by decide +kernel, rfl, by decide +kernel, by decide +kernel⟩ hm (fun _ _ _ _ _ _ us hl => match us, hl with | [_], _ => rfl) (fun cdv A outer s H E C => b_is_leaf hf c_WORD_LEAVES k_LEAF_TOPS C) (fun as ld h => .inr rfl)
/-! ### told_parts -/
abbrev s_told_parts : Stmt := top 36
def fb_told_parts  : AS → Out :=
  (gSeq (gIf (fTru (fzF (fFn g_is_leaf 0 (lCons (fVar 0) lNil)))) (gSeq (gRet (fLc (fAnyI (fVar 0)) (bName 1) (fun S => .ok true S) (fzF (fCall kStr (fCons (fVar 1) fNil))) [1]))
  gNx) gNx)
  (gSeq (gIf (toBF (fOp kEq (fzF (fOp kItem (fVar 0) (fC (.int 0)))) (fC (.str ("twin" : Str))))) (gSeq (gRet (fLst (fCons (fzF (fOp kItem (fVar 0) (fC (.int 1)))) (fCons (fC (.str ("twin" : Str))) fNil))))
  gNx) gNx)
  (gSeq (gIf (toBF (fOp kEq (fzF (fOp kItem (fVar 0) (fC (.int 0)))) (fC (.str ("product" : Str))))) (gSeq (gRet (fIf (fTru (fzF (fFn g_is_leaf 0 (lCons (fzF (fOp kItem (fVar 0) (fC (.int 2)))) lNil)))) (fLst (fCons (fzF (fOp kItem (fVar 0) (fC (.int 1)))) (fCons (fC (.str ("*" : Str))) (fCons (fzF (fOp kItem (fVar 0) (fC (.int 2)))) fNil)))) (fLst (fCons (fzF (fOp kItem (fVar 0) (fC (.int 1)))) (fCons (fC (.str ("*" : Str))) (fCons (fC (.str ("(" : Str))) (fCons (fzF (fOp kItem (fVar 0) (fC (.int 2)))) (fCons (fC (.str (")" : Str))) fNil))))))))
  gNx) gNx)
  (gSeq (gRet (fLst (fCons (fzF (fOp kItem (fVar 0) (fC (.int 1)))) (fCons (fzF (fOp kItem (fVar 0) (fC (.int 0)))) (fCons (fzF (fFn g_lot_text 0 (lCons (fzF (fOp kItem (fVar 0) (fC (.int 2)))) lNil))) fNil)))))
  gNx))))
theorem b_told_parts {P : Program} {w : World} {K : PySem.W.Frag} {mg : Str → Option Value} {base : Heap}   (hf : ∀ (i : Nat) (x : Str), frees[i]? = some x → mg x = none) (F_is_leaf : FF P w K mg base 3 ("is_leaf" : Str) 1 g_is_leaf) (F_lot_text : FF P w K mg base 3 ("lot_text" : Str) 1 g_lot_text) {cdv : Value} {A : Around} {outer : List Env} {s : Shared} {H : Hp} {E : XK} {f : Addr}
    (C : Ctx (cxOf (L2N.CX P w) P w K mg base ["sketch", "part"] "told_parts" (defScope s_told_parts) f cdv A outer s H E) E 3) : DSs (cxOf (L2N.CX P w) P w K mg base ["sketch", "part"] "told_parts" (defScope s_told_parts) f cdv A outer s H E) E (defBody s_told_parts) (fb_told_parts ) :=
  (ss_cons (s_if (t_val ((d_call C F_is_leaf (al_cons (d_var 0) (al_nil 0)) (alLen_cons alLen_nil).at_)).toD) (ss_cons (s_ret (d_comp C [("part", 1)] (i_any (d_var 0)) (by show blkC ["sketch", "part"] (defScope s_told_parts) _ _ = true; decide +kernel) (fun s H Cc cl fp => (gw_name [1] 1 C.nd (by simp))) (fun s H Cc cl fp => ts_nil) (fun s H Cc cl fp => ((d_callTy c_str (hf 7 _ rfl) rfl (a_cons (d_var 1) a_nil))).toD)))
  ss_nil) ss_nil)
  (ss_cons (s_if (t_cmp (o_eq C) ((d_item (d_var 0) d_int)).toD (d_str)) (ss_cons (s_ret (d_lst (a_cons ((d_item (d_var 0) d_int)).toD (a_cons (d_str) a_nil))))
  ss_nil) ss_nil)
  (ss_cons (s_if (t_cmp (o_eq C) ((d_item (d_var 0) d_int)).toD (d_str)) (ss_cons (s_ret (d_if (t_val ((d_call C F_is_leaf (al_cons ((d_item (d_var 0) d_int)).toD (al_nil 0)) (alLen_cons alLen_nil).at_)).toD) (d_lst (a_cons ((d_item (d_var 0) d_int)).toD (a_cons (d_str) (a_cons ((d_item (d_var 0) d_int)).toD a_nil)))) (d_lst (a_cons ((d_item (d_var 0) d_int)).toD (a_cons (d_str) (a_cons (d_str) (a_cons ((d_item (d_var 0) d_int)).toD (a_cons (d_str) a_nil))))))))
  ss_nil) ss_nil)
  (ss_cons (s_ret (d_lst (a_cons ((d_item (d_var 0) d_int)).toD (a_cons ((d_item (d_var 0) d_int)).toD (a_cons ((d_call C F_lot_text (al_cons ((d_item (d_var 0) d_int)).toD (al_nil 0)) (alLen_cons alLen_nil).at_)).toD a_nil)))))
  ss_nil))))
def g_told_parts : AL → List D → Fr := fun as ld => finF as (fb_told_parts (S0 2 as ld))
theorem ff_told_parts {P : Program} {w : World} {K : PySem.W.Frag} {mg : Str → Option Value} {base : Heap} {f : Addr} {fd : FuncData} (F : FunD K "told_parts" "told_parts" (defArgs s_told_parts) (defBody s_told_parts) (defScope s_told_parts) [] [] f fd) (hm : mg ("told_parts" : Str) = some (.ref f)) (hf : ∀ (i : Nat) (x : Str), frees[i]? = some x → mg x = none) (F_is_leaf : FF P w K mg base 3 ("is_leaf" : Str) 1 g_is_leaf) (F_lot_text : FF P w K mg base 3 ("lot_text" : Str) 1 g_lot_text) : FF P w K mg base 4 ("told_parts" : Str) 1 g_told_parts :=
  fn_d (N := ["sketch", "part"]) (ps := ["sketch"]) F ⟨rfl, rfl, rfl, by decide +kernel, rfl, by decide +kernel, by decide +kernel⟩ hm (fun _ _ _ _ _ _ us hl => match us, hl with | [_], _ => rfl) (fun cdv A outer s H E C => b_told_parts hf F_is_leaf F_lot_text C) (fun as ld h => .inr rfl)
/-! ### sketch_text -/
abbrev s_sketch_text : Stmt := top 37
def fb_sketch_text  : AS → Out :=
  (gSeq (gIf (fNot (fTru (fzF (fFn g_is_sketch 0 (lCons (fVar 0) lNil))))) (gSeq (gRaise ("BadSketch" : Str) (fC (.int 0)))
  gNx) gNx)
  (gSeq (gPar2 1 2 (fLst (fCons (fVar 0) fNil)) (fLst fNil))
  (gSeq (gWhile (toBF (fPeekCmp 1 kNe (fzF (fLst fNil)))) (gSeq (gSet 3 (fPop 1))
  (gSeq (gIf (fTru (fIsi "str" (fVar 3))) (gSeq (gApp 2 (fVar 3))
  gNx) (gSeq (gExt 1 (fRev (fzF (fFn g_told_parts 0 (lCons (fVar 3) lNil)))))
  gNx))
  gNx)) [3] 1000000)
  (gSeq (gRet (fJoin (fC (.str (" " : Str))) (fVar 2)))
  gNx))))
theorem b_sketch_text {P : Program} {w : World} {K : PySem.W.Frag} {mg : Str → Option Value} {base : Heap}   (hf : ∀ (i : Nat) (x : Str), frees[i]? = some x → mg x = none) (F_is_sketch : FF P w K mg base 8 ("is_sketch" : Str) 1 g_is_sketch) (F_told_parts : FF P w K mg base 4 ("told_parts" : Str) 1 g_told_parts) (R_BadSketch : RX P w K mg base ("BadSketch" : Str)) {cdv : Value} {A : Around} {outer : List Env} {s : Shared} {H : Hp} {E : XK} {f : Addr}
    (C : Ctx (cxOf (L2N.CX P w) P w K mg base ["sketch", "waiting", "words", "part"] "sketch_text" (defScope s_sketch_text) f cdv A outer s H E) E 8) : DSs (cxOf (L2N.CX P w) P w K mg base ["sketch", "waiting", "words", "part"] "sketch_text" (defScope s_sketch_text) f cdv A outer s H E) E (defBody s_sketch_text) (fb_sketch_text ) :=
  (ss_cons (s_if (t_not (t_val ((d_call C F_is_sketch (al_cons (d_var 0) (al_nil 0)) (alLen_cons alLen_nil).at_)).toD)) (ss_cons (s_raise C R_BadSketch d_int)
  ss_nil) ss_nil)
  (ss_cons (s_par2 1 2 C (d_lst (a_cons (d_var 0) a_nil)) (d_lst a_nil))
  (ss_cons (s_while C [3] 1000000 (t_peekCmp 1 (p_ne C) ((d_lst a_nil)).toD) (ss_cons (s_set 3 C (d_pop 1))
  (ss_cons (s_if (t_val (d_isi (T := "str") rfl (d_var 3) (hf 13 _ rfl) (hf 7 _ rfl) rfl)) (ss_cons (s_app 2 (d_var 3))
  ss_nil) (ss_cons (s_ext 1 (d_rev ((d_call C F_told_parts (al_cons (d_var 3) (al_nil 0)) (alLen_cons alLen_nil).at_)).toD))
  ss_nil))
  ss_nil)))
  (ss_cons (s_ret (d_join (d_str) (d_var 2)))
  ss_nil))))
def g_sketch_text : AL → List D → Fr := fun as ld => finF as (fb_sketch_text (S0 4 as ld))
theorem ff_sketch_text {P : Program} {w : World} {K : PySem.W.Frag} {mg : Str → Option Value} {base : Heap} {f : Addr} {fd : FuncData} (F : FunD K "sketch_text" "sketch_text" (defArgs s_sketch_text) (defBody s_sketch_text) (defScope s_sketch_text) [] [] f fd) (hm : mg ("sketch_text" : Str) = some (.ref f)) (hf : ∀ (i : Nat) (x : Str), frees[i]? = some x → mg x = none) (F_is_sketch : FF P w K mg base 8 ("is_sketch" : Str) 1 g_is_sketch) (F_told_parts : FF P w K mg base 4 ("told_parts" : Str) 1 g_told_parts) (R_BadSketch : RX P w K mg base ("BadSketch" : Str)) : FF P w K mg base 9 ("sketch_text" : Str) 1 g_sketch_text :=
  fn_d (N := ["sketch", "waiting", "words", "part"]) (ps := ["sketch"]) F ⟨rfl, rfl, rfl, by decide +kernel, rfl, by decide +kernel, by decide +kernel⟩ hm (fun _ _ _ _ _ _ us hl => match us, hl with | [_], _ => rfl) (fun cdv A outer s H E C => b_sketch_text hf F_is_sketch F_told_parts R_BadSketch C) (fun as ld h => .inr rfl)
/-! ### unit_from -/
abbrev s_unit_from : Stmt := top 38
def fb_unit_from  : AS → Out :=
  (gSeq (gIf (toBF (fOp kIn (fzF (fOp kItem (fVar 0) (fVar 1))) (fC d_WORD_LEAVES))) (gSeq (gRet (inF (fTup (fCons (fTup (fCons (fzF (fOp kItem (fVar 0) (fVar 1))) fNil)) (fCons (fzF (fOp kAdd (fVar 1) (fC (.int 1)))) fNil)))))
  gNx) gNx)
  (gSeq (gIf (toBF (fK (kInK kv_LEAF_TOPS not) (fzF (fOp kItem (fVar 0) (fVar 1))))) (gSeq (gRet (inF (fTup (fCons (fC .none) (fCons (fVar 1) fNil)))))
  gNx) gNx)
  (gSeq (gUnp [2, 3] (fzF (fFn g_number_from 0 (lCons (fVar 0) (lCons (fzF (fOp kAdd (fVar 1) (fC (.int 1)))) (lCons (fC (.int 1)) (lCons (fzF (fK (kItK kv_LEAF_TOPS) (fzF (fOp kItem (fVar 0) (fVar 1))))) lNil)))))))
  (gSeq (gRet (fIf (toBF (fOp kIsNot (fVar 2) (fC .none))) (inF (fTup (fCons (fTup (fCons (fzF (fOp kItem (fVar 0) (fVar 1))) (fCons (fVar 2) fNil))) (fCons (fVar 3) fNil)))) (inF (fTup (fCons (fC .none) (fCons (fzF (fOp kAdd (fVar 1) (fC (.int 1)))) fNil))))))
  gNx))))
theorem b_unit_from {P : Program} {w : World} {K : PySem.W.Frag} {mg : Str → Option Value} {base : Heap}   (hf : ∀ (i : Nat) (x : Str), frees[i]? = some x → mg x = none) (F_number_from : FF P w K mg base 4 ("number_from" : Str) 4 g_number_from) (c_WORD_LEAVES : GC K mg ("WORD_LEAVES" : Str) d_WORD_LEAVES) (k_LEAF_TOPS : GK K w mg ("LEAF_TOPS" : Str) kv_LEAF_TOPS) {cdv : Value} {A : Around} {outer : List Env} {s : Shared} {H : Hp} {E : XK} {f : Addr}
    (C : Ctx (cxOf (L2N.CX P w) P w K mg base ["words", "at", "number", "behind"] "unit_from" (defScope s_unit_from) f cdv A outer s H E) E 4) : DSs (cxOf (L2N.CX P w) P w K mg base ["words", "at", "number", "behind"] "unit_from" (defScope s_unit_from) f cdv A outer s H E) E (defBody s_unit_from) (fb_unit_from ) :=
  (ss_cons (s_if (t_cmp o_in ((d_item (d_var 0) (d_var 1))).toD (d_glob c_WORD_LEAVES)) (ss_cons (s_ret ((d_tup (a_cons (d_tup (a_cons ((d_item (d_var 0) (d_var 1))).toD a_nil)) (a_cons ((d_bin o_add (d_var 1) d_int)).toD a_nil)))).toE)
  ss_nil) ss_nil)
  (ss_cons (s_if (t_notInK k_LEAF_TOPS ((d_item (d_var 0) (d_var 1))).toD) (ss_cons (s_ret ((d_tup (a_cons d_non (a_cons (d_var 1) a_nil)))).toE)
  ss_nil) ss_nil)
  (ss_cons (s_unp C (un_cons 2 C (un_cons 3 C un_nil)) ((d_call C F_number_from (al_cons (d_var 0) (al_cons ((d_bin o_add (d_var 1) d_int)).toD (al_cons d_int (al_cons ((d_itemK k_LEAF_TOPS ((d_item (d_var 0) (d_var 1))).toD)).toD (al_nil 0))))) (alLen_cons (alLen_cons (alLen_cons (alLen_cons alLen_nil)))).at_)).toD)
  (ss_cons (s_ret (d_if (t_cmp o_isNot (d_var 2) d_non) ((d_tup (a_cons (d_tup (a_cons ((d_item (d_var 0) (d_var 1))).toD (a_cons (d_var 2) a_nil))) (a_cons (d_var 3) a_nil)))).toE ((d_tup (a_cons d_non (a_cons ((d_bin o_add (d_var 1) d_int)).toD a_nil)))).toE))
  ss_nil))))
def g_unit_from : AL → List D → Fr := fun as ld => finF as (fb_unit_from (S0 4 as ld))
theorem ff_unit_from {P : Program} {w : World} {K : PySem.W.Frag} {mg : Str → Option Value} {base : Heap} {f : Addr} {fd : FuncData} (F : FunD K "unit_from" "unit_from" (defArgs s_unit_from) (defBody s_unit_from) (defScope s_unit_from) [] [] f fd) (hm : mg ("unit_from" : Str) = some (.ref f)) (hf : ∀ (i : Nat) (x : Str), frees[i]? = some x → mg x = none) (F_number_from : FF P w K mg base 4 ("number_from" : Str) 4 g_number_from) (c_WORD_LEAVES : GC K mg ("WORD_LEAVES" : Str) d_WORD_LEAVES) (k_LEAF_TOPS : GK K w mg ("LEAF_TOPS" : Str) kv_LEAF_TOPS) : FF P w K mg base 5 ("unit_from" : Str) 2 g_unit_from :=
  fn_d (N := ["words", "at", "number", "behind"]) (ps := ["words", "at"]) F ⟨rfl, rfl, rfl, by decide +kernel, rfl, by decide +kernel, by decide +kernel⟩ hm (fun _ _ _ _ _ _ us hl => match us, hl with | [_, _], _ => rfl) (fun cdv A outer s H E C => b_unit_from hf F_number_from c_WORD_LEAVES k_LEAF_TOPS C) (fun as ld h => .inr rfl)
/-! ### listed_from -/
abbrev s_listed_from : Stmt := top 39
def fb_listed_from  : AS → Out :=
  (gSeq (gIf (toBF (fOp kEq (fzF (fOp kAdd (fVar 1) (fC (.int 1)))) (fzF (fCall kLen (fCons (fVar 0) fNil))))) (gSeq (gRet (inF (fTup (fCons (fC .none) (fCons (fzF (fOp kAdd (fVar 1) (fC (.int 1)))) fNil)))))
  gNx) gNx)
  (gSeq (gSet 2 (fzF (fIf (toBF (fOp kEq (fzF (fOp kItem (fVar 0) (fVar 1))) (fC (.str ("part" : Str))))) (fFn g_lot_word 0 (lCons (fzF (fOp kItem (fVar 0) (fzF (fOp kAdd (fVar 1) (fC (.int 1)))))) lNil)) (fFn g_list_word 0 (lCons (fzF (fOp kItem (fVar 0) (fzF (fOp kAdd (fVar 1) (fC (.int 1)))))) lNil)))))
  (gSeq (gIf (fOr (toBF (fOp kIs (fVar 2) (fC .none))) (fOr (toBF (fOp kGt (fzF (fCall kLen (fCons (fVar 2) fNil))) (fC (.int 13)))) (toBF (fOp kGe (fzF (fCall kMax (fCons (fVar 2) fNil))) (fC (.int 13)))))) (gSeq (gRet (inF (fTup (fCons (fC .none) (fCons (fzF (fOp kAdd (fVar 1) (fC (.int 1)))) fNil)))))
  gNx) gNx)
  (gSeq (gRet (inF (fTup (fCons (fVar 2) (fCons (fzF (fOp kAdd (fVar 1) (fC (.int 2)))) fNil)))))
  gNx))))
theorem b_listed_from {P : Program} {w : World} {K : PySem.W.Frag} {mg : Str → Option Value} {base : Heap}   (hf : ∀ (i : Nat) (x : Str), frees[i]? = some x → mg x = none) (F_lot_word : FF P w K mg base 5 ("lot_word" : Str) 1 g_lot_word) (F_list_word : FF P w K mg base 4 ("list_word" : Str) 1 g_list_word) (c_MOST_KINDS : GC K mg ("MOST_KINDS" : Str) (.int 13)) {cdv : Value} {A : Around} {outer : List Env} {s : Shared} {H : Hp} {E : XK} {f : Addr}
    (C : Ctx (cxOf (L2N.CX P w) P w K mg base ["words", "at", "found"] "listed_from" (defScope s_listed_from) f cdv A outer s H E) E 5) : DSs (cxOf (L2N.CX P w) P w K mg base ["words", "at", "found"] "listed_from" (defScope s_listed_from) f cdv A outer s H E) E (defBody s_listed_from) (fb_listed_from ) :=
  (ss_cons (s_if (t_cmp (o_eq C) ((d_bin o_add (d_var 1) d_int)).toD ((d_callB c_len (hf 0 _ rfl) rfl (a_cons (d_var 0) a_nil))).toD) (ss_cons (s_ret ((d_tup (a_cons d_non (a_cons ((d_bin o_add (d_var 1) d_int)).toD a_nil)))).toE)
  ss_nil) ss_nil)
  (ss_cons (s_set 2 C ((d_if (t_cmp (o_eq C) ((d_item (d_var 0) (d_var 1))).toD (d_str)) (d_call C F_lot_word (al_cons ((d_item (d_var 0) ((d_bin o_add (d_var 1) d_int)).toD)).toD (al_nil 0)) (alLen_cons alLen_nil).at_) (d_call C F_list_word (al_cons ((d_item (d_var 0) ((d_bin o_add (d_var 1) d_int)).toD)).toD (al_nil 0)) (alLen_cons alLen_nil).at_))).toD)
  (ss_cons (s_if (DW.t (w_or (t_cmp o_is (d_var 2) d_non) (w_or (t_cmp o_gt ((d_callB c_len (hf 0 _ rfl) rfl (a_cons (d_var 2) a_nil))).toD (d_glob c_MOST_KINDS)) (w_or1 (t_cmp o_ge ((d_callB (c_max C) (hf 1 _ rfl) rfl (a_cons (d_var 2) a_nil))).toD (d_glob c_MOST_KINDS)))))) (ss_cons (s_ret ((d_tup (a_cons d_non (a_cons ((d_bin o_add (d_var 1) d_int)).toD a_nil)))).toE)
  ss_nil) ss_nil)
  (ss_cons (s_ret ((d_tup (a_cons (d_var 2) (a_cons ((d_bin o_add (d_var 1) d_int)).toD a_nil)))).toE)
  ss_nil))))
def g_listed_from : AL → List D → Fr := fun as ld => finF as (fb_listed_from (S0 3 as ld))
theorem ff_listed_from {P : Program} {w : World} {K : PySem.W.Frag} {mg : Str → Option Value} {base : Heap} {f : Addr} {fd : FuncData} (F : FunD K "listed_from" "listed_from" (defArgs s_listed_from) (defBody s_listed_from) (defScope s_listed_from) [] [] f fd) (hm : mg ("listed_from" : Str) = some (.ref f)) (hf : ∀ (i : Nat) (x : Str), frees[i]? = some x → mg x = none) (F_lot_word : FF P w K mg base 5 ("lot_word" : Str) 1 g_lot_word) (F_list_word : FF P w K mg base 4 ("list_word" : Str) 1 g_list_word) (c_MOST_KINDS : GC K mg ("MOST_KINDS" : Str) (.int 13)) : FF P w K mg base 6 ("listed_from" : Str) 2 g_listed_from :=
  fn_d (N := ["words", "at", "found"]) (ps := ["words", "at"]) F ⟨rfl, rfl, rfl, by decide +kernel, rfl, by decide +kernel, by decide +kernel⟩ hm (fun _ _ _ _ _ _ us hl => match us, hl with | [_, _], _ => rfl) (fun cdv A outer s H E C => b_listed_from hf F_lot_word F_list_word c_MOST_KINDS C) (fun as ld h => .inr rfl)
/-! ### put_behind -/
abbrev s_put_behind : Stmt := top 40
def fb_put_behind  : AS → Out :=
  (gSeq (gRet (fIf (toBF (fOp kIs (fVar 0) (fC .none))) (inF (fVar 1)) (inF (fTup (fCons (fC (.str ("product" : Str))) (fCons (fVar 0) (fCons (fVar 1) fNil)))))))
  gNx)
theorem b_put_behind {P : Program} {w : World} {K : PySem.W.Frag} {mg : Str → Option Value} {base : Heap}   (hf : ∀ (i : Nat) (x : Str), frees[i]? = some x → mg x = none)  {cdv : Value} {A : Around} {outer : List Env} {s : Shared} {H : Hp} {E : XK} {f : Addr}
    (C : Ctx (cxOf (L2N.CX P w) P w K mg base ["ahead", "unit"] "put_behind" (defScope s_put_behind) f cdv A outer s H E) E 2) : DSs (cxOf (L2N.CX P w) P w K mg base ["ahead", "unit"] "put_behind" (defScope s_put_behind) f cdv A outer s H E) E (defBody s_put_behind) (fb_put_behind ) :=
  (ss_cons (s_ret (d_if (t_cmp o_is (d_var 0) d_non) ((d_var 1)).toE ((d_tup (a_cons (d_str) (a_cons (d_var 0) (a_cons (d_var 1) a_nil))))).toE))
  ss_nil)
def g_put_behind : AL → List D → Fr := fun as ld => finF as (fb_put_behind (S0 2 as ld))
theorem ff_put_behind {P : Program} {w : World} {K : PySem.W.Frag} {mg : Str → Option Value} {base : Heap} {f : Addr} {fd : FuncData} (F : FunD K "put_behind" "put_behind" (defArgs s_put_behind) (defBody s_put_behind) (defScope s_put_behind) [] [] f fd) (hm : mg ("put_behind" : Str) = some (.ref f)) (hf : ∀ (i : Nat) (x : Str), frees[i]? = some x → mg x = none)  : FF P w K mg base 3 ("put_behind" : Str) 2 g_put_behind :=
  fn_d (N := ["ahead", "unit"]) (ps := ["ahead", "unit"]) F ⟨rfl, rfl, rfl, by decide +kernel, rfl, by decide +kernel, by decide +kernel⟩ hm (fun _ _ _ _ _ _ us hl => match us, hl with | [_, _], _ => rfl) (fun cdv A outer s H E C => b_put_behind hf  C) (fun as ld h => .inr rfl)
/-! ### unit_begun -/
abbrev s_unit_begun : Stmt := top 41
def fb_unit_begun  : AS → Out :=
  (gSeq (gIf (toBF (fOp kEq (fzF (fOp kItem (fVar 0) (fVar 1))) (fC (.str ("(" : Str))))) (gSeq (gIf (toBF (fOp kEq (fzF (fPeekLen 3)) (fC (.int 20)))) (gSeq (gRet (inF (fTup (fCons (fC .none) (fCons (fVar 1) (fCons (fNeg (fC (.int 1))) fNil))))))
  gNx) gNx)
  (gSeq (gApp 3 (fVar 2))
  (gSeq (gRet (inF (fTup (fCons (fC .none) (fCons (fC .none) (fCons (fzF (fOp kAdd (fVar 1) (fC (.int 1)))) fNil))))))
  gNx))) gNx)
  (gSeq (gUnp [4, 5] (fzF (fFn g_unit_from 0 (lCons (fVar 0) (lCons (fVar 1) lNil)))))
  (gSeq (gRet (fIf (toBF (fOp kIsNot (fVar 4) (fC .none))) (inF (fTup (fCons (fzF (fFn g_put_behind 0 (lCons (fVar 2) (lCons (fVar 4) lNil)))) (fCons (fC .none) (fCons (fVar 5) fNil))))) (inF (fTup (fCons (fC .none) (fCons (fVar 5) (fCons (fNeg (fC (.int 1))) fNil)))))))
  gNx)))
theorem b_unit_begun {P : Program} {w : World} {K : PySem.W.Frag} {mg : Str → Option Value} {base : Heap}   (hf : ∀ (i : Nat) (x : Str), frees[i]? = some x → mg x = none) (F_unit_from : FF P w K mg base 5 ("unit_from" : Str) 2 g_unit_from) (F_put_behind : FF P w K mg base 3 ("put_behind" : Str) 2 g_put_behind) (c_MOST_OPEN : GC K mg ("MOST_OPEN" : Str) (.int 20)) {cdv : Value} {A : Around} {outer : List Env} {s : Shared} {H : Hp} {E : XK} {f : Addr}
    (C : Ctx (cxOf (L2N.CX P w) P w K mg base ["words", "at", "ahead", "waiting", "unit", "behind"] "unit_begun" (defScope s_unit_begun) f cdv A outer s H E) E 5) : DSs (cxOf (L2N.CX P w) P w K mg base ["words", "at", "ahead", "waiting", "unit", "behind"] "unit_begun" (defScope s_unit_begun) f cdv A outer s H E) E (defBody s_unit_begun) (fb_unit_begun ) :=
  (ss_cons (s_if (t_cmp (o_eq C) ((d_item (d_var 0) (d_var 1))).toD (d_str)) (ss_cons (s_if (t_cmp (o_eq C) ((d_peekLen 3 (hf 0 _ rfl))).toD (d_glob c_MOST_OPEN)) (ss_cons (s_ret ((d_tup (a_cons d_non (a_cons (d_var 1) (a_cons (d_neg d_int) a_nil))))).toE)
  ss_nil) ss_nil)
  (ss_cons (s_app 3 (d_var 2))
  (ss_cons (s_ret ((d_tup (a_cons d_non (a_cons d_non (a_cons ((d_bin o_add (d_var 1) d_int)).toD a_nil))))).toE)
  ss_nil))) ss_nil)
  (ss_cons (s_unp C (un_cons 4 C (un_cons 5 C un_nil)) ((d_call C F_unit_from (al_cons (d_var 0) (al_cons (d_var 1) (al_nil 0))) (alLen_cons (alLen_cons alLen_nil)).at_)).toD)
  (ss_cons (s_ret (d_if (t_cmp o_isNot (d_var 4) d_non) ((d_tup (a_cons ((d_call C F_put_behind (al_cons (d_var 2) (al_cons (d_var 4) (al_nil 0))) (alLen_cons (alLen_cons alLen_nil)).at_)).toD (a_cons d_non (a_cons (d_var 5) a_nil))))).toE ((d_tup (a_cons d_non (a_cons (d_var 5) (a_cons (d_neg d_int) a_nil))))).toE))
  ss_nil)))
def g_unit_begun : AL → List D → Fr := fun as ld => finF as (fb_unit_begun (S0 6 as ld))
theorem ff_unit_begun {P : Program} {w : World} {K : PySem.W.Frag} {mg : Str → Option Value} {base : Heap} {f : Addr} {fd : FuncData} (F : FunD K "unit_begun" "unit_begun" (defArgs s_unit_begun) (defBody s_unit_begun) (defScope s_unit_begun) [] [] f fd) (hm : mg ("unit_begun" : Str) = some (.ref f)) (hf : ∀ (i : Nat) (x : Str), frees[i]? = some x → mg x = none) (F_unit_from : FF P w K mg base 5 ("unit_from" : Str) 2 g_unit_from) (F_put_behind : FF P w K mg base 3 ("put_behind" : Str) 2 g_put_behind) (c_MOST_OPEN : GC K mg ("MOST_OPEN" : Str) (.int 20)) : FF P w K mg base 6 ("unit_begun" : Str) 4 g_unit_begun :=
  fn_d (N := ["words", "at", "ahead", "waiting", "unit", "behind"]) (ps := ["words", "at", "ahead", "waiting"]) F ⟨rfl, rfl, rfl, by decide +kernel, rfl, by decide +kernel, by decide +kernel⟩ hm (fun _ _ _ _ _ _ us hl => match us, hl with | [_, _, _, _], _ => rfl) (fun cdv A outer s H E C => b_unit_begun hf F_unit_from F_put_behind c_MOST_OPEN C) (fun as ld h => .inr rfl)
/-! ### gone_on -/
abbrev s_gone_on : Stmt := top 42
def fb_gone_on  : AS → Out :=
  (gSeq (gSet 4 (fzF (fOp kItem (fVar 0) (fVar 1))))
  (gSeq (gIf (toBF (fOp kEq (fVar 4) (fC (.str ("twin" : Str))))) (gSeq (gRet (inF (fTup (fCons (fTup (fCons (fC (.str ("twin" : Str))) (fCons (fVar 2) fNil))) (fCons (fC .none) (fCons (fzF (fOp kAdd (fVar 1) (fC (.int 1)))) fNil))))))
  gNx) gNx)
  (gSeq (gIf (toBF (fOp kIn (fVar 4) (fTup (fCons (fC (.str ("part" : Str))) (fCons (fC (.str ("lump" : Str))) fNil))))) (gSeq (gUnp [5, 6] (fzF (fFn g_listed_from 0 (lCons (fVar 0) (lCons (fVar 1) lNil)))))
  (gSeq (gRet (fIf (toBF (fOp kIsNot (fVar 5) (fC .none))) (inF (fTup (fCons (fTup (fCons (fVar 4) (fCons (fVar 2) (fCons (fVar 5) fNil)))) (fCons (fC .none) (fCons (fVar 6) fNil))))) (inF (fTup (fCons (fC .none) (fCons (fVar 6) (fCons (fNeg (fC (.int 1))) fNil)))))))
  gNx)) gNx)
  (gSeq (gIf (toBF (fOp kEq (fVar 4) (fC (.str ("*" : Str))))) (gSeq (gRet (inF (fTup (fCons (fC .none) (fCons (fVar 2) (fCons (fzF (fOp kAdd (fVar 1) (fC (.int 1)))) fNil))))))
  gNx) gNx)
  (gSeq (gIf (fAnd (toBF (fOp kEq (fVar 4) (fC (.str (")" : Str))))) (toBF (fPeekCmp 3 kNe (fzF (fLst fNil))))) (gSeq (gRet (inF (fTup (fCons (fzF (fFn g_put_behind 0 (lCons (fPop 3) (lCons (fVar 2) lNil)))) (fCons (fC .none) (fCons (fzF (fOp kAdd (fVar 1) (fC (.int 1)))) fNil))))))
  gNx) gNx)
  (gSeq (gRet (inF (fTup (fCons (fC .none) (fCons (fVar 1) (fCons (fNeg (fC (.int 1))) fNil))))))
  gNx))))))
theorem b_gone_on {P : Program} {w : World} {K : PySem.W.Frag} {mg : Str → Option Value} {base : Heap}   (hf : ∀ (i : Nat) (x : Str), frees[i]? = some x → mg x = none) (F_listed_from : FF P w K mg base 6 ("listed_from" : Str) 2 g_listed_from) (F_put_behind : FF P w K mg base 3 ("put_behind" : Str) 2 g_put_behind) {cdv : Value} {A : Around} {outer : List Env} {s : Shared} {H : Hp} {E : XK} {f : Addr}
    (C : Ctx (cxOf (L2N.CX P w) P w K mg base ["words", "at", "sketch", "waiting", "word", "listed", "behind"] "gone_on" (defScope s_gone_on) f cdv A outer s H E) E 6) : DSs (cxOf (L2N.CX P w) P w K mg base ["words", "at", "sketch", "waiting", "word", "listed", "behind"] "gone_on" (defScope s_gone_on) f cdv A outer s H E) E (defBody s_gone_on) (fb_gone_on ) :=
  (ss_cons (s_set 4 C ((d_item (d_var 0) (d_var 1))).toD)
  (ss_cons (s_if (t_cmp (o_eq C) (d_var 4) (d_str)) (ss_cons (s_ret ((d_tup (a_cons (d_tup (a_cons (d_str) (a_cons (d_var 2) a_nil))) (a_cons d_non (a_cons ((d_bin o_add (d_var 1) d_int)).toD a_nil))))).toE)
  ss_nil) ss_nil)
  (ss_cons (s_if (t_cmp o_in (d_var 4) (d_tup (a_cons (d_str) (a_cons (d_str) a_nil)))) (ss_cons (s_unp C (un_cons 5 C (un_cons 6 C un_nil)) ((d_call C F_listed_from (al_cons (d_var 0) (al_cons (d_var 1) (al_nil 0))) (alLen_cons (alLen_cons alLen_nil)).at_)).toD)
  (ss_cons (s_ret (d_if (t_cmp o_isNot (d_var 5) d_non) ((d_tup (a_cons (d_tup (a_cons (d_var 4) (a_cons (d_var 2) (a_cons (d_var 5) a_nil)))) (a_cons d_non (a_cons (d_var 6) a_nil))))).toE ((d_tup (a_cons d_non (a_cons (d_var 6) (a_cons (d_neg d_int) a_nil))))).toE))
  ss_nil)) ss_nil)
  (ss_cons (s_if (t_cmp (o_eq C) (d_var 4) (d_str)) (ss_cons (s_ret ((d_tup (a_cons d_non (a_cons (d_var 2) (a_cons ((d_bin o_add (d_var 1) d_int)).toD a_nil))))).toE)
  ss_nil) ss_nil)
  (ss_cons (s_if (DW.t (w_and (t_cmp (o_eq C) (d_var 4) (d_str)) (w_and1 (t_peekCmp 3 (p_ne C) ((d_lst a_nil)).toD)))) (ss_cons (s_ret ((d_tup (a_cons ((d_call C F_put_behind (al_cons (d_pop 3) (al_cons (d_var 2) (al_nil 0))) (alLen_cons (alLen_cons alLen_nil)).at_)).toD (a_cons d_non (a_cons ((d_bin o_add (d_var 1) d_int)).toD a_nil))))).toE)
  ss_nil) ss_nil)
  (ss_cons (s_ret ((d_tup (a_cons d_non (a_cons (d_var 1) (a_cons (d_neg d_int) a_nil))))).toE)
  ss_nil))))))
def g_gone_on : AL → List D → Fr := fun as ld => finF as (fb_gone_on (S0 7 as ld))
theorem ff_gone_on {P : Program} {w : World} {K : PySem.W.Frag} {mg : Str → Option Value} {base : Heap} {f : Addr} {fd : FuncData} (F : FunD K "gone_on" "gone_on" (defArgs s_gone_on) (defBody s_gone_on) (defScope s_gone_on) [] [] f fd) (hm : mg ("gone_on" : Str) = some (.ref f)) (hf : ∀ (i : Nat) (x : Str), frees[i]? = some x → mg x = none) (F_listed_from : FF P w K mg base 6 ("listed_from" : Str) 2 g_listed_from) (F_put_behind : FF P w K mg base 3 ("put_behind" : Str) 2 g_put_behind) : FF P w K mg base 7 ("gone_on" : Str) 4 g_gone_on :=
  fn_d (N := ["words", "at", "sketch", "waiting", "word", "listed", "behind"]) (ps := ["words", "at", "sketch", "waiting"]) F ⟨rfl, rfl, rfl, by decide +kernel, rfl, by decide +kernel, by decide +kernel⟩ hm (fun _ _ _ _ _ _ us hl => match us, hl with | [_, _, _, _], _ => rfl) (fun cdv A outer s H E C => b_gone_on hf F_listed_from F_put_behind C) (fun as ld h => .inr rfl)
/-! ### sketch_words -/
abbrev s_sketch_words : Stmt := top 43
def fb_sketch_words  : AS → Out :=
  (gSeq (gPar4 2 3 4 5 (fC .none) (fC .none) (fLst fNil) (fVar 1))
  (gSeq (gWhile (toBF (fOp kLt (fVar 5) (fzF (fCall kLen (fCons (fVar 0) fNil))))) (gSeq (gIf (toBF (fOp kIs (fVar 2) (fC .none))) (gSeq (gUnp [2, 3, 5] (fzF (fFn g_unit_begun 4 (lCons (fVar 0) (lCons (fVar 5) (lCons (fVar 3) (lLoan 4 lNil)))))))
  gNx) (gSeq (gUnp [2, 3, 5] (fzF (fFn g_gone_on 4 (lCons (fVar 0) (lCons (fVar 5) (lCons (fVar 2) (lLoan 4 lNil)))))))
  gNx))
  (gSeq (gIf (toBF (fOp kLt (fVar 5) (fC (.int 0)))) (gSeq (gRet (inF (fTup (fCons (fC .none) (fCons (fVar 3) fNil)))))
  gNx) gNx)
  gNx)) [] 1000000)
  (gSeq (gIf (fOr (toBF (fOp kIs (fVar 2) (fC .none))) (fOr (toBF (fPeekCmp 4 kNe (fzF (fLst fNil)))) (fNot (fTru (fzF (fFn g_is_sketch 0 (lCons (fVar 2) lNil))))))) (gSeq (gRet (inF (fTup (fCons (fC .none) (fCons (fzF (fCall kLen (fCons (fVar 0) fNil))) fNil)))))
  gNx) gNx)
  (gSeq (gRet (inF (fTup (fCons (fVar 2) (fCons (fC .none) fNil)))))
  gNx))))
theorem b_sketch_words {P : Program} {w : World} {K : PySem.W.Frag} {mg : Str → Option Value} {base : Heap}   (hf : ∀ (i : Nat) (x : Str), frees[i]? = some x → mg x = none) (F_unit_begun : FF P w K mg base 6 ("unit_begun" : Str) 4 g_unit_begun) (F_gone_on : FF P w K mg base 7 ("gone_on" : Str) 4 g_gone_on) (F_is_sketch : FF P w K mg base 8 ("is_sketch" : Str) 1 g_is_sketch) {cdv : Value} {A : Around} {outer : List Env} {s : Shared} {H : Hp} {E : XK} {f : Addr}
    (C : Ctx (cxOf (L2N.CX P w) P w K mg base ["words", "start", "sketch", "ahead", "waiting", "at"] "sketch_words" (defScope s_sketch_words) f cdv A outer s H E) E 8) : DSs (cxOf (L2N.CX P w) P w K mg base ["words", "start", "sketch", "ahead", "waiting", "at"] "sketch_words" (defScope s_sketch_words) f cdv A outer s H E) E (defBody s_sketch_words) (fb_sketch_words ) :=
  (ss_cons (s_par4 2 3 4 5 C d_non d_non (d_lst a_nil) (d_var 1))
  (ss_cons (s_while C [] 1000000 (t_cmp o_lt (d_var 5) ((d_callB c_len (hf 0 _ rfl) rfl (a_cons (d_var 0) a_nil))).toD) (ss_cons (s_if (t_cmp o_is (d_var 2) d_non) (ss_cons (s_unp C (un_cons 2 C (un_cons 3 C (un_cons 5 C un_nil))) ((d_call C F_unit_begun (al_cons (d_var 0) (al_cons (d_var 5) (al_cons (d_var 3) (al_loan (al_nil 4))))) (alLen_cons (alLen_cons (alLen_cons (alLen_loan alLen_nil)))).at_)).toD)
  ss_nil) (ss_cons (s_unp C (un_cons 2 C (un_cons 3 C (un_cons 5 C un_nil))) ((d_call C F_gone_on (al_cons (d_var 0) (al_cons (d_var 5) (al_cons (d_var 2) (al_loan (al_nil 4))))) (alLen_cons (alLen_cons (alLen_cons (alLen_loan alLen_nil)))).at_)).toD)
  ss_nil))
  (ss_cons (s_if (t_cmp o_lt (d_var 5) d_int) (ss_cons (s_ret ((d_tup (a_cons d_non (a_cons (d_var 3) a_nil)))).toE)
  ss_nil) ss_nil)
  ss_nil)))
  (ss_cons (s_if (DW.t (w_or (t_cmp o_is (d_var 2) d_non) (w_or (t_peekCmp 4 (p_ne C) ((d_lst a_nil)).toD) (w_or1 (t_not (t_val ((d_call C F_is_sketch (al_cons (d_var 2) (al_nil 0)) (alLen_cons alLen_nil).at_)).toD)))))) (ss_cons (s_ret ((d_tup (a_cons d_non (a_cons ((d_callB c_len (hf 0 _ rfl) rfl (a_cons (d_var 0) a_nil))).toD a_nil)))).toE)
  ss_nil) ss_nil)
  (ss_cons (s_ret ((d_tup (a_cons (d_var 2) (a_cons d_non a_nil)))).toE)
  ss_nil))))
def g_sketch_words : AL → List D → Fr := fun as ld => finF as (fb_sketch_words (S0 6 as ld))
theorem ff_sketch_words {P : Program} {w : World} {K : PySem.W.Frag} {mg : Str → Option Value} {base : Heap} {f : Addr} {fd : FuncData} (F : FunD K "sketch_words" "sketch_words" (defArgs s_sketch_words) (defBody s_sketch_words) (defScope s_sketch_words) [] [] f fd) (hm : mg ("sketch_words" : Str) = some (.ref f)) (hf : ∀ (i : Nat) (x : Str), frees[i]? = some x → mg x = none) (F_unit_begun : FF P w K mg base 6 ("unit_begun" : Str) 4 g_unit_begun) (F_gone_on : FF P w K mg base 7 ("gone_on" : Str) 4 g_gone_on) (F_is_sketch : FF P w K mg base 8 ("is_sketch" : Str) 1 g_is_sketch) : FF P w K mg base 9 ("sketch_words" : Str) 2 g_sketch_words :=
  fn_d (N := ["words", "start", "sketch", "ahead", "waiting", "at"]) (ps := ["words", "start"]) F ⟨rfl, rfl, rfl, by decide +kernel, rfl, by decide +kernel, by decide +kernel⟩ hm (fun _ _ _ _ _ _ us hl => match us, hl with | [_, _], _ => rfl) (fun cdv A outer s H E C => b_sketch_words hf F_unit_begun F_gone_on F_is_sketch C) (fun as ld h => .inr rfl)
/-! ### read_sketch -/
abbrev s_read_sketch : Stmt := top 44
def fb_read_sketch  : AS → Out :=
  (gSeq (gSet 1 (fzF (fFn g_lines_of 0 (lCons (fVar 0) lNil))))
  (gSeq (gUnp [2, 3] (fzF (fFn g_sketch_words 0 (lCons (fzF (fFn g_words_of 0 (lCons (fzF (fOp kItem (fVar 1) (fC (.int 0)))) lNil))) (lCons (fC (.int 0)) lNil)))))
  (gSeq (gIf (toBF (fOp kIsNot (fVar 3) (fC .none))) (gSeq (gRaise ("WrongLine" : Str) (fTup (fCons (fC (.int 0)) (fCons (fVar 3) fNil))))
  gNx) gNx)
  (gSeq (gDrop (fFn g_asked_end 0 (lCons (fVar 1) (lCons (fC (.int 1)) lNil))))
  (gSeq (gRet (inF (fVar 2)))
  gNx)))))
theorem b_read_sketch {P : Program} {w : World} {K : PySem.W.Frag} {mg : Str → Option Value} {base : Heap}   (hf : ∀ (i : Nat) (x : Str), frees[i]? = some x → mg x = none) (F_lines_of : FF P w K mg base 4 ("lines_of" : Str) 1 g_lines_of) (F_sketch_words : FF P w K mg base 9 ("sketch_words" : Str) 2 g_sketch_words) (F_words_of : FF P w K mg base 3 ("words_of" : Str) 1 g_words_of) (F_asked_end : FF P w K mg base 3 ("asked_end" : Str) 2 g_asked_end) (R_WrongLine : RX P w K mg base ("WrongLine" : Str)) {cdv : Value} {A : Around} {outer : List Env} {s : Shared} {H : Hp} {E : XK} {f : Addr}
    (C : Ctx (cxOf (L2N.CX P w) P w K mg base ["text", "lines", "sketch", "wrong"] "read_sketch" (defScope s_read_sketch) f cdv A outer s H E) E 9) : DSs (cxOf (L2N.CX P w) P w K mg base ["text", "lines", "sketch", "wrong"] "read_sketch" (defScope s_read_sketch) f cdv A outer s H E) E (defBody s_read_sketch) (fb_read_sketch ) :=
  (ss_cons (s_set 1 C ((d_call C F_lines_of (al_cons (d_var 0) (al_nil 0)) (alLen_cons alLen_nil).at_)).toD)
  (ss_cons (s_unp C (un_cons 2 C (un_cons 3 C un_nil)) ((d_call C F_sketch_words (al_cons ((d_call C F_words_of (al_cons ((d_item (d_var 1) d_int)).toD (al_nil 0)) (alLen_cons alLen_nil).at_)).toD (al_cons d_int (al_nil 0))) (alLen_cons (alLen_cons alLen_nil)).at_)).toD)
  (ss_cons (s_if (t_cmp o_isNot (d_var 3) d_non) (ss_cons (s_raise C R_WrongLine (d_tup (a_cons d_int (a_cons (d_var 3) a_nil))))
  ss_nil) ss_nil)
  (ss_cons (s_expr (d_call C F_asked_end (al_cons (d_var 1) (al_cons d_int (al_nil 0))) (alLen_cons (alLen_cons alLen_nil)).at_))
  (ss_cons (s_ret ((d_var 2)).toE)
  ss_nil)))))
def g_read_sketch : AL → List D → Fr := fun as ld => finF as (fb_read_sketch (S0 4 as ld))
theorem ff_read_sketch {P : Program} {w : World} {K : PySem.W.Frag} {mg : Str → Option Value} {base : Heap} {f : Addr} {fd : FuncData} (F : FunD K "read_sketch" "read_sketch" (defArgs s_read_sketch) (defBody s_read_sketch) (defScope s_read_sketch) [] [] f fd) (hm : mg ("read_sketch" : Str) = some (.ref f)) (hf : ∀ (i : Nat) (x : Str), frees[i]? = some x → mg x = none) (F_lines_of : FF P w K mg base 4 ("lines_of" : Str) 1 g_lines_of) (F_sketch_words : FF P w K mg base 9 ("sketch_words" : Str) 2 g_sketch_words) (F_words_of : FF P w K mg base 3 ("words_of" : Str) 1 g_words_of) (F_asked_end : FF P w K mg base 3 ("asked_end" : Str) 2 g_asked_end) (R_WrongLine : RX P w K mg base ("WrongLine" : Str)) : FF P w K mg base 10 ("read_sketch" : Str) 1 g_read_sketch :=
  fn_d (N := ["text", "lines", "sketch", "wrong"]) (ps := ["text"]) F ⟨rfl, rfl, rfl, by decide +kernel, rfl, by decide +kernel, by decide +kernel⟩ hm (fun _ _ _ _ _ _ us hl => match us, hl with | [_], _ => rfl) (fun cdv A outer s H E C => b_read_sketch hf F_lines_of F_sketch_words F_words_of F_asked_end R_WrongLine C) (fun as ld h => .inr rfl)
/-! ### _law_tq_is_whole -/
abbrev s__law_tq_is_whole : Stmt := top 46
def fb__law_tq_is_whole  : AS → Out :=
  (gSeq (gRet (inF (fAndV (fIsi "int" (fVar 0)) (fNotV (fIsi "bool" (fVar 0))))))
  gNx)
theorem b__law_tq_is_whole {P : Program} {w : World} {K : PySem.W.Frag} {mg : Str → Option Value} {base : Heap}   (hf : ∀ (i : Nat) (x : Str), frees[i]? = some x → mg x = none)  {cdv : Value} {A : Around} {outer : List Env} {s : Shared} {H : Hp} {E : XK} {f : Addr}
    (C : Ctx (cxOf (L2N.CX P w) P w K mg base ["thing"] "_law_tq_is_whole" (defScope s__law_tq_is_whole) f cdv A outer s H E) E 2) : DSs (cxOf (L2N.CX P w) P w K mg base ["thing"] "_law_tq_is_whole" (defScope s__law_tq_is_whole) f cdv A outer s H E) E (defBody s__law_tq_is_whole) (fb__law_tq_is_whole ) :=
  (ss_cons (s_ret ((v_and (d_isi (T := "int") rfl (d_var 0) (hf 13 _ rfl) (hf 6 _ rfl) rfl) (v_one (v_not (d_isi (T := "bool") rfl (d_var 0) (hf 13 _ rfl) (hf 10 _ rfl) rfl))))).toE)
  ss_nil)
def g__law_tq_is_whole : AL → List D → Fr := fun as ld => finF as (fb__law_tq_is_whole (S0 1 as ld))
theorem ff__law_tq_is_whole {P : Program} {w : World} {K : PySem.W.Frag} {mg : Str → Option Value} {base : Heap} {f : Addr} {fd : FuncData} (F : FunD K "_law_tq_is_whole" "_law_tq_is_whole" (defArgs s__law_tq_is_whole) (defBody s__law_tq_is_whole) (defScope s__law_tq_is_whole) [] [] f fd) (hm : mg ("_law_tq_is_whole" : Str) = some (.ref f)) (hf : ∀ (i : Nat) (x : Str), frees[i]? = some x → mg x = none)  : FF P w K mg base 3 ("_law_tq_is_whole" : Str) 1 g__law_tq_is_whole :=
  fn_d (N := ["thing"]) (ps := ["thing"]) F ⟨rfl, rfl, rfl, by decide +kernel, rfl, by decide +kernel, by decide +kernel⟩ hm (fun _ _ _ _ _ _ us hl => match us, hl with | [_], _ => rfl) (fun cdv A outer s H E C => b__law_tq_is_whole hf  C) (fun as ld h => .inr rfl)
/-! ### _law_tq_same -/
abbrev s__law_tq_same : Stmt := top 47
def fb__law_tq_same (r__law_tq_same : AL → List D → Fr) : AS → Out :=
  (gSeq (gIf (toBF (fOp kIs (fVar 1) (fC .none))) (gSeq (gRet (fOp kIs (fVar 0) (fC .none)))
  gNx) gNx)
  (gSeq (gIf (fTru (fIsi "bool" (fVar 1))) (gSeq (gRet (fIf (fTru (fVar 1)) (fOp kIs (fVar 0) (fC (.bool true))) (fOp kIs (fVar 0) (fC (.bool false)))))
  gNx) gNx)
  (gSeq (gIf (fTru (fIsi "int" (fVar 1))) (gSeq (gRet (inF (fAndV (fzF (fFn g__law_tq_is_whole 0 (lCons (fVar 0) lNil))) (fzF (fOp kEq (fVar 0) (fVar 1))))))
  gNx) gNx)
  (gSeq (gIf (fTru (fIsi "str" (fVar 1))) (gSeq (gRet (inF (fAndV (fIsi "str" (fVar 0)) (fzF (fOp kEq (fVar 0) (fVar 1))))))
  gNx) gNx)
  (gSeq (gIf (fAnd (fNot (fTru (fIsi "tuple" (fVar 1)))) (fNot (fTru (fIsi "list" (fVar 1))))) (gSeq (gRet (fCall kBool (fCons (fzF (fOp kEq (fVar 0) (fVar 1))) fNil)))
  gNx) gNx)
  (gSeq (gIf (toBF (fOp kNe (fIsi "tuple" (fVar 1)) (fIsi "tuple" (fVar 0)))) (gSeq (gRet (inF (fC (.bool false))))
  gNx) gNx)
  (gSeq (gIf (toBF (fOp kNe (fIsi "list" (fVar 1)) (fIsi "list" (fVar 0)))) (gSeq (gRet (inF (fC (.bool false))))
  gNx) gNx)
  (gSeq (gIf (toBF (fOp kNe (fzF (fCall kLen (fCons (fVar 0) fNil))) (fzF (fCall kLen (fCons (fVar 1) fNil))))) (gSeq (gRet (inF (fC (.bool false))))
  gNx) gNx)
  (gSeq (gForI (fRg1 (fzF (fCall kLen (fCons (fVar 1) fNil)))) (bName 2) (gSeq (gIf (fNot (fTru (fzF (fFn r__law_tq_same 0 (lCons (fzF (fOp kItem (fVar 0) (fVar 2))) (lCons (fzF (fOp kItem (fVar 1) (fVar 2))) lNil)))))) (gSeq (gRet (inF (fC (.bool false))))
  gNx) gNx)
  gNx) [2])
  (gSeq (gRet (inF (fC (.bool true))))
  gNx))))))))))
theorem b__law_tq_same {P : Program} {w : World} {K : PySem.W.Frag} {mg : Str → Option Value} {base : Heap} {r__law_tq_same : AL → List D → Fr} {j : Nat} (hf : ∀ (i : Nat) (x : Str), frees[i]? = some x → mg x = none) (F__law_tq_is_whole : FF P w K mg base 3 ("_law_tq_is_whole" : Str) 1 g__law_tq_is_whole) (F__law_tq_same : FF P w K mg base (3 + j) ("_law_tq_same" : Str) 2 r__law_tq_same) {cdv : Value} {A : Around} {outer : List Env} {s : Shared} {H : Hp} {E : XK} {f : Addr}
    (C : Ctx (cxOf (L2N.CX P w) P w K mg base ["heard_one", "owed", "at"] "_law_tq_same" (defScope s__law_tq_same) f cdv A outer s H E) E (3 + j)) : DSs (cxOf (L2N.CX P w) P w K mg base ["heard_one", "owed", "at"] "_law_tq_same" (defScope s__law_tq_same) f cdv A outer s H E) E (defBody s__law_tq_same) (fb__law_tq_same r__law_tq_same) :=
  (ss_cons (s_if (t_cmp o_is (d_var 1) d_non) (ss_cons (s_ret (d_cmp o_is (d_var 0) d_non))
  ss_nil) ss_nil)
  (ss_cons (s_if (t_val (d_isi (T := "bool") rfl (d_var 1) (hf 13 _ rfl) (hf 10 _ rfl) rfl)) (ss_cons (s_ret (d_if (t_val (d_var 1)) (d_cmp o_is (d_var 0) d_bl) (d_cmp o_is (d_var 0) d_bl)))
  ss_nil) ss_nil)
  (ss_cons (s_if (t_val (d_isi (T := "int") rfl (d_var 1) (hf 13 _ rfl) (hf 6 _ rfl) rfl)) (ss_cons (s_ret ((v_and ((d_call C F__law_tq_is_whole (al_cons (d_var 0) (al_nil 0)) (alLen_cons alLen_nil).at_)).toD (v_one ((d_cmp (o_eq C) (d_var 0) (d_var 1))).toD))).toE)
  ss_nil) ss_nil)
  (ss_cons (s_if (t_val (d_isi (T := "str") rfl (d_var 1) (hf 13 _ rfl) (hf 7 _ rfl) rfl)) (ss_cons (s_ret ((v_and (d_isi (T := "str") rfl (d_var 0) (hf 13 _ rfl) (hf 7 _ rfl) rfl) (v_one ((d_cmp (o_eq C) (d_var 0) (d_var 1))).toD))).toE)
  ss_nil) ss_nil)
  (ss_cons (s_if (DW.t (w_and (t_not (t_val (d_isi (T := "tuple") rfl (d_var 1) (hf 13 _ rfl) (hf 8 _ rfl) rfl))) (w_and1 (t_not (t_val (d_isi (T := "list") rfl (d_var 1) (hf 13 _ rfl) (hf 9 _ rfl) rfl)))))) (ss_cons (s_ret (d_callTy c_bool (hf 10 _ rfl) rfl (a_cons ((d_cmp (o_eq C) (d_var 0) (d_var 1))).toD a_nil)))
  ss_nil) ss_nil)
  (ss_cons (s_if (t_cmp (o_ne C) (d_isi (T := "tuple") rfl (d_var 1) (hf 13 _ rfl) (hf 8 _ rfl) rfl) (d_isi (T := "tuple") rfl (d_var 0) (hf 13 _ rfl) (hf 8 _ rfl) rfl)) (ss_cons (s_ret d_bl.toE)
  ss_nil) ss_nil)
  (ss_cons (s_if (t_cmp (o_ne C) (d_isi (T := "list") rfl (d_var 1) (hf 13 _ rfl) (hf 9 _ rfl) rfl) (d_isi (T := "list") rfl (d_var 0) (hf 13 _ rfl) (hf 9 _ rfl) rfl)) (ss_cons (s_ret d_bl.toE)
  ss_nil) ss_nil)
  (ss_cons (s_if (t_cmp (o_ne C) ((d_callB c_len (hf 0 _ rfl) rfl (a_cons (d_var 0) a_nil))).toD ((d_callB c_len (hf 0 _ rfl) rfl (a_cons (d_var 1) a_nil))).toD) (ss_cons (s_ret d_bl.toE)
  ss_nil) ss_nil)
  (ss_cons (s_for C [2] (i_rg1 ((d_callB c_len (hf 0 _ rfl) rfl (a_cons (d_var 1) a_nil))).toD (hf 11 _ rfl)) (g_name 2 C.nd) (ss_cons (s_if (t_not (t_val ((d_call C F__law_tq_same (al_cons ((d_item (d_var 0) (d_var 2))).toD (al_cons ((d_item (d_var 1) (d_var 2))).toD (al_nil 0))) (alLen_cons (alLen_cons alLen_nil)).at_)).toD)) (ss_cons (s_ret d_bl.toE)
  ss_nil) ss_nil)
  ss_nil))
  (ss_cons (s_ret d_bl.toE)
  ss_nil))))))))))
def q_same : Nat → (AL → List D → Fr)
  | 0 => (fun _ _ => .stuck)
  | n + 1 => ((fun as ld => finF as (fb__law_tq_same (q_same n) (S0 3 as ld))))
def g__law_tq_same (n : Nat) : AL → List D → Fr := (q_same n)
theorem ff_same {P : Program} {w : World} {K : PySem.W.Frag} {mg : Str → Option Value} {base : Heap} {f__law_tq_same : Addr} {fd__law_tq_same : FuncData} (F0__law_tq_same : FunD K "_law_tq_same" "_law_tq_same" (defArgs s__law_tq_same) (defBody s__law_tq_same) (defScope s__law_tq_same) [] [] f__law_tq_same fd__law_tq_same) (hm__law_tq_same : mg ("_law_tq_same" : Str) = some (.ref f__law_tq_same)) (hf : ∀ (i : Nat) (x : Str), frees[i]? = some x → mg x = none) (F__law_tq_is_whole : FF P w K mg base 3 ("_law_tq_is_whole" : Str) 1 g__law_tq_is_whole) : ∀ n : Nat, FF P w K mg base (3 + n) ("_law_tq_same" : Str) 2 (g__law_tq_same n)
  | 0 => ff_z (ps := ["heard_one", "owed"]) F0__law_tq_same hm__law_tq_same (fun _ _ _ _ _ _ us hl => match us, hl with | [_, _], _ => rfl) (fun as ld => rfl)
  | n + 1 => by
    have ih := ff_same (P := P) (w := w) (K := K) (mg := mg) (base := base) F0__law_tq_same hm__law_tq_same hf F__law_tq_is_whole n
    have F__law_tq_same := ih
    exact fn_d (N := ["heard_one", "owed", "at"]) (ps := ["heard_one", "owed"]) F0__law_tq_same ⟨rfl, rfl, rfl, by decide +kernel, rfl, by decide +kernel, by decide +kernel⟩ hm__law_tq_same (fun _ _ _ _ _ _ us hl => match us, hl with | [_, _], _ => rfl) (fun cdv A outer s H E C => b__law_tq_same hf F__law_tq_is_whole F__law_tq_same C) (fun as ld h => .inr rfl)
/-! ### _law_pool -/
abbrev s__law_pool : Stmt := top 48
def fb__law_pool  : AS → Out :=
  (gSeq (gUnp [1, 2] (fTup (fCons (fC (.int 0)) (fCons (fC (.int 7)) fNil))))
  (gSeq (gForI (fRg1 (fzF (fCall kLen (fCons (fVar 0) fNil)))) (bName 3) (gSeq (gSet 4 (fzF (fCall kInt (fCons (fzF (fCall kMax (fCons (fzF (fOp kItem (fVar 0) (fVar 3))) (fCons (fzF (fOp kSub (fNeg (fC (.int 1))) (fzF (fOp kItem (fVar 0) (fVar 3))))) fNil)))) fNil))))
  (gSeq (gSet 2 (fzF (fOp kMod (fzF (fCall kInt (fCons (fzF (fOp kAdd (fzF (fOp kAdd (fzF (fOp kMul (fVar 2) (fC (.int 48271)))) (fzF (fOp kMod (fVar 4) (fC (.int 2147483629)))))) (fC (.int 11)))) fNil))) (fC (.int 2147483647)))))
  (gSeq (gSet 1 (fzF (fIf (fAnd (toBF (fOp kGe (fVar 4) (fzF (fOp kPow (fC (.int 10)) (fC (.int 12)))))) (toBF (fOp kLt (fVar 1) (fzF (fOp kPow (fC (.int 10)) (fC (.int 60))))))) (fCall kInt (fCons (fzF (fOp kAdd (fzF (fOp kMul (fVar 1) (fzF (fOp kPow (fC (.int 10)) (fC (.int 60)))))) (fzF (fOp kMod (fVar 4) (fzF (fOp kPow (fC (.int 10)) (fC (.int 60)))))))) fNil)) (inF (fVar 1)))))
  gNx))) [3, 4])
  (gSeq (gRet (fLst (fCons (fVar 1) (fCons (fVar 2) (fCons (fC (.int 0)) fNil)))))
  gNx)))
theorem b__law_pool {P : Program} {w : World} {K : PySem.W.Frag} {mg : Str → Option Value} {base : Heap}   (hf : ∀ (i : Nat) (x : Str), frees[i]? = some x → mg x = none)  {cdv : Value} {A : Around} {outer : List Env} {s : Shared} {H : Hp} {E : XK} {f : Addr}
    (C : Ctx (cxOf (L2N.CX P w) P w K mg base ["script", "digits", "stirred", "at", "cell"] "_law_pool" (defScope s__law_pool) f cdv A outer s H E) E 2) : DSs (cxOf (L2N.CX P w) P w K mg base ["script", "digits", "stirred", "at", "cell"] "_law_pool" (defScope s__law_pool) f cdv A outer s H E) E (defBody s__law_pool) (fb__law_pool ) :=
  (ss_cons (s_unp C (un_cons 1 C (un_cons 2 C un_nil)) (d_tup (a_cons d_int (a_cons d_int a_nil))))
  (ss_cons (s_for C [3, 4] (i_rg1 ((d_callB c_len (hf 0 _ rfl) rfl (a_cons (d_var 0) a_nil))).toD (hf 11 _ rfl)) (g_name 3 C.nd) (ss_cons (s_set 4 C ((d_callTy c_int (hf 6 _ rfl) rfl (a_cons ((d_callB (c_max C) (hf 1 _ rfl) rfl (a_cons ((d_item (d_var 0) (d_var 3))).toD (a_cons ((d_bin o_sub (d_neg d_int) ((d_item (d_var 0) (d_var 3))).toD)).toD a_nil)))).toD a_nil))).toD)
  (ss_cons (s_set 2 C ((d_bin o_mod ((d_callTy c_int (hf 6 _ rfl) rfl (a_cons ((d_bin o_add ((d_bin o_add ((d_bin o_mul (d_var 2) d_int)).toD ((d_bin o_mod (d_var 4) d_int)).toD)).toD d_int)).toD a_nil))).toD d_int)).toD)
  (ss_cons (s_set 1 C ((d_if (DW.t (w_and (t_cmp o_ge (d_var 4) ((d_bin o_pow d_int d_int)).toD) (w_and1 (t_cmp o_lt (d_var 1) ((d_bin o_pow d_int d_int)).toD)))) (d_callTy c_int (hf 6 _ rfl) rfl (a_cons ((d_bin o_add ((d_bin o_mul (d_var 1) ((d_bin o_pow d_int d_int)).toD)).toD ((d_bin o_mod (d_var 4) ((d_bin o_pow d_int d_int)).toD)).toD)).toD a_nil)) ((d_var 1)).toE)).toD)
  ss_nil))))
  (ss_cons (s_ret (d_lst (a_cons (d_var 1) (a_cons (d_var 2) (a_cons d_int a_nil)))))
  ss_nil)))
def g__law_pool : AL → List D → Fr := fun as ld => finF as (fb__law_pool (S0 5 as ld))
theorem ff__law_pool {P : Program} {w : World} {K : PySem.W.Frag} {mg : Str → Option Value} {base : Heap} {f : Addr} {fd : FuncData} (F : FunD K "_law_pool" "_law_pool" (defArgs s__law_pool) (defBody s__law_pool) (defScope s__law_pool) [] [] f fd) (hm : mg ("_law_pool" : Str) = some (.ref f)) (hf : ∀ (i : Nat) (x : Str), frees[i]? = some x → mg x = none)  : FF P w K mg base 3 ("_law_pool" : Str) 1 g__law_pool :=
  fn_d (N := ["script", "digits", "stirred", "at", "cell"]) (ps := ["script"]) F ⟨rfl, rfl, rfl, by decide +kernel, rfl, by decide +kernel, by decide +kernel⟩ hm (fun _ _ _ _ _ _ us hl => match us, hl with | [_], _ => rfl) (fun cdv A outer s H E C => b__law_pool hf  C) (fun as ld h => .inr rfl)
/-! ### _law_take -/
abbrev s__law_take : Stmt := top 49
def fb__law_take  : AS → Out :=
  (gSeq (gIf (toBF (fOp kGt (fzF (fPeekItem 0 (fC (.int 0)))) (fC (.int 0)))) (gSeq (gSet 2 (fzF (fOp kMod (fzF (fCall kInt (fCons (fzF (fPeekItem 0 (fC (.int 0)))) fNil))) (fVar 1))))
  (gSeq (gPut 0 (fzF (fOp kDiv (fzF (fPeekItem 0 (fC (.int 0)))) (fVar 1))) (fC (.int 0)))
  (gSeq (gRet (inF (fVar 2)))
  gNx))) gNx)
  (gSeq (gPut 0 (fzF (fOp kAdd (fzF (fPeekItem 0 (fC (.int 2)))) (fC (.int 1)))) (fC (.int 2)))
  (gSeq (gPut 0 (fzF (fOp kMod (fzF (fCall kInt (fCons (fzF (fOp kAdd (fzF (fOp kAdd (fzF (fOp kMul (fzF (fPeekItem 0 (fC (.int 1)))) (fC (.int 39373)))) (fzF (fOp kMul (fC (.int 7919)) (fzF (fPeekItem 0 (fC (.int 2)))))))) (fC (.int 7)))) fNil))) (fC (.int 2147483647)))) (fC (.int 1)))
  (gSeq (gRet (fOp kMod (fzF (fCall kInt (fCons (fzF (fOp kDiv (fzF (fOp kMod (fzF (fCall kInt (fCons (fzF (fOp kMul (fzF (fPeekItem 0 (fC (.int 1)))) (fzF (fPeekItem 0 (fC (.int 1)))))) fNil))) (fC (.int 2147483629)))) (fC (.int 32)))) fNil))) (fVar 1)))
  gNx))))
theorem b__law_take {P : Program} {w : World} {K : PySem.W.Frag} {mg : Str → Option Value} {base : Heap}   (hf : ∀ (i : Nat) (x : Str), frees[i]? = some x → mg x = none)  {cdv : Value} {A : Around} {outer : List Env} {s : Shared} {H : Hp} {E : XK} {f : Addr}
    (C : Ctx (cxOf (L2N.CX P w) P w K mg base ["jar", "many", "made"] "_law_take" (defScope s__law_take) f cdv A outer s H E) E 2) : DSs (cxOf (L2N.CX P w) P w K mg base ["jar", "many", "made"] "_law_take" (defScope s__law_take) f cdv A outer s H E) E (defBody s__law_take) (fb__law_take ) :=
  (ss_cons (s_if (t_cmp o_gt ((d_peekItem 0 d_int)).toD d_int) (ss_cons (s_set 2 C ((d_bin o_mod ((d_callTy c_int (hf 6 _ rfl) rfl (a_cons ((d_peekItem 0 d_int)).toD a_nil))).toD (d_var 1))).toD)
  (ss_cons (s_put 0 C ((d_bin o_div ((d_peekItem 0 d_int)).toD (d_var 1))).toD d_int)
  (ss_cons (s_ret ((d_var 2)).toE)
  ss_nil))) ss_nil)
  (ss_cons (s_put 0 C ((d_bin o_add ((d_peekItem 0 d_int)).toD d_int)).toD d_int)
  (ss_cons (s_put 0 C ((d_bin o_mod ((d_callTy c_int (hf 6 _ rfl) rfl (a_cons ((d_bin o_add ((d_bin o_add ((d_bin o_mul ((d_peekItem 0 d_int)).toD d_int)).toD ((d_bin o_mul d_int ((d_peekItem 0 d_int)).toD)).toD)).toD d_int)).toD a_nil))).toD d_int)).toD d_int)
  (ss_cons (s_ret (d_bin o_mod ((d_callTy c_int (hf 6 _ rfl) rfl (a_cons ((d_bin o_div ((d_bin o_mod ((d_callTy c_int (hf 6 _ rfl) rfl (a_cons ((d_bin o_mul ((d_peekItem 0 d_int)).toD ((d_peekItem 0 d_int)).toD)).toD a_nil))).toD d_int)).toD d_int)).toD a_nil))).toD (d_var 1)))
  ss_nil))))
def g__law_take : AL → List D → Fr := fun as ld => finF as (fb__law_take (S0 3 as ld))
theorem ff__law_take {P : Program} {w : World} {K : PySem.W.Frag} {mg : Str → Option Value} {base : Heap} {f : Addr} {fd : FuncData} (F : FunD K "_law_take" "_law_take" (defArgs s__law_take) (defBody s__law_take) (defScope s__law_take) [] [] f fd) (hm : mg ("_law_take" : Str) = some (.ref f)) (hf : ∀ (i : Nat) (x : Str), frees[i]? = some x → mg x = none)  : FF P w K mg base 3 ("_law_take" : Str) 2 g__law_take :=
  fn_d (N := ["jar", "many", "made"]) (ps := ["jar", "many"]) F ⟨rfl, rfl, rfl, by decide +kernel, rfl, by decide +kernel, by decide +kernel⟩ hm (fun _ _ _ _ _ _ us hl => match us, hl with | [_, _], _ => rfl) (fun cdv A outer s H E C => b__law_take hf  C) (fun as ld h => .inr rfl)
/-! ### _law_one -/
abbrev s__law_one : Stmt := top 50
def fb__law_one  : AS → Out :=
  (gSeq (gRet (fOp kItem (fVar 1) (fzF (fFn g__law_take 0 (lLoan 0 (lCons (fzF (fCall kLen (fCons (fVar 1) fNil))) lNil))))))
  gNx)
theorem b__law_one {P : Program} {w : World} {K : PySem.W.Frag} {mg : Str → Option Value} {base : Heap}   (hf : ∀ (i : Nat) (x : Str), frees[i]? = some x → mg x = none) (F__law_take : FF P w K mg base 3 ("_law_take" : Str) 2 g__law_take) {cdv : Value} {A : Around} {outer : List Env} {s : Shared} {H : Hp} {E : XK} {f : Addr}
    (C : Ctx (cxOf (L2N.CX P w) P w K mg base ["jar", "things"] "_law_one" (defScope s__law_one) f cdv A outer s H E) E 3) : DSs (cxOf (L2N.CX P w) P w K mg base ["jar", "things"] "_law_one" (defScope s__law_one) f cdv A outer s H E) E (defBody s__law_one) (fb__law_one ) :=
  (ss_cons (s_ret (d_item (d_var 1) ((d_call C F__law_take (al_loan (al_cons ((d_callB c_len (hf 0 _ rfl) rfl (a_cons (d_var 1) a_nil))).toD (al_nil 0))) (alLen_loan (alLen_cons alLen_nil)).at_)).toD))
  ss_nil)
def g__law_one : AL → List D → Fr := fun as ld => finF as (fb__law_one (S0 2 as ld))
theorem ff__law_one {P : Program} {w : World} {K : PySem.W.Frag} {mg : Str → Option Value} {base : Heap} {f : Addr} {fd : FuncData} (F : FunD K "_law_one" "_law_one" (defArgs s__law_one) (defBody s__law_one) (defScope s__law_one) [] [] f fd) (hm : mg ("_law_one" : Str) = some (.ref f)) (hf : ∀ (i : Nat) (x : Str), frees[i]? = some x → mg x = none) (F__law_take : FF P w K mg base 3 ("_law_take" : Str) 2 g__law_take) : FF P w K mg base 4 ("_law_one" : Str) 2 g__law_one :=
  fn_d (N := ["jar", "things"]) (ps := ["jar", "things"]) F ⟨rfl, rfl, rfl, by decide +kernel, rfl, by decide +kernel, by decide +kernel⟩ hm (fun _ _ _ _ _ _ us hl => match us, hl with | [_, _], _ => rfl) (fun cdv A outer s H E C => b__law_one hf F__law_take C) (fun as ld h => .inr rfl)
/-! ### _law_tt_figures -/
abbrev s__law_tt_figures : Stmt := top 51
def fb__law_tt_figures  : AS → Out :=
  (gSeq (gIf (fOr (toBF (fOp kEq (fVar 0) (fC (.str ("" : Str))))) (fOr (toBF (fOp kGt (fzF (fCall kLen (fCons (fVar 0) fNil))) (fC (.int 20)))) (toBF (fOp kNe (fzF (fLc (fAnyI (fVar 0)) (bName 1) (toBF (fOp kNotIn (fVar 1) (fC (.str ("0123456789" : Str))))) (fVar 1) [1])) (fzF (fLst fNil)))))) (gSeq (gRet (inF (fC .none)))
  gNx) gNx)
  (gSeq (gRet (fIf (fOr (toBF (fOp kEq (fVar 0) (fC (.str ("0" : Str))))) (toBF (fOp kNe (fzF (fOp kItem (fVar 0) (fC (.int 0)))) (fC (.str ("0" : Str)))))) (fCall kInt (fCons (fVar 0) fNil)) (inF (fC .none))))
  gNx))
theorem b__law_tt_figures {P : Program} {w : World} {K : PySem.W.Frag} {mg : Str → Option Value} {base : Heap}   (hf : ∀ (i : Nat) (x : Str), frees[i]? = some x → mg x = none)  {cdv : Value} {A : Around} {outer : List Env} {s : Shared} {H : Hp} {E : XK} {f : Addr}
    (C : Ctx (cxOf (L2N.CX P w) P w K mg base ["word", "sign"] "_law_tt_figures" (defScope s__law_tt_figures) f cdv A outer s H E) E 2) : DSs (cxOf (L2N.CX P w) P w K mg base ["word", "sign"] "_law_tt_figures" (defScope s__law_tt_figures) f cdv A outer s H E) E (defBody s__law_tt_figures) (fb__law_tt_figures ) :=
  (ss_cons (s_if (DW.t (w_or (t_cmp (o_eq C) (d_var 0) (d_str)) (w_or (t_cmp o_gt ((d_callB c_len (hf 0 _ rfl) rfl (a_cons (d_var 0) a_nil))).toD d_int) (w_or1 (t_cmp (o_ne C) ((d_comp C [("sign", 1)] (i_any (d_var 0)) (by show blkC ["word", "sign"] (defScope s__law_tt_figures) _ _ = true; decide +kernel) (fun s H Cc cl fp => (gw_name [1] 1 C.nd (by simp))) (fun s H Cc cl fp => (ts_one (t_cmp o_notIn (d_var 1) (d_str)))) (fun s H Cc cl fp => (d_var 1)))).toD ((d_lst a_nil)).toD))))) (ss_cons (s_ret d_non.toE)
  ss_nil) ss_nil)
  (ss_cons (s_ret (d_if (DW.t (w_or (t_cmp (o_eq C) (d_var 0) (d_str)) (w_or1 (t_cmp (o_ne C) ((d_item (d_var 0) d_int)).toD (d_str))))) (d_callTy c_int (hf 6 _ rfl) rfl (a_cons (d_var 0) a_nil)) d_non.toE))
  ss_nil))
def g__law_tt_figures : AL → List D → Fr := fun as ld => finF as (fb__law_tt_figures (S0 2 as ld))
theorem ff__law_tt_figures {P : Program} {w : World} {K : PySem.W.Frag} {mg : Str → Option Value} {base : Heap} {f : Addr} {fd : FuncData} (F : FunD K "_law_tt_figures" "_law_tt_figures" (defArgs s__law_tt_figures) (defBody s__law_tt_figures) (defScope s__law_tt_figures) [] [] f fd) (hm : mg ("_law_tt_figures" : Str) = some (.ref f)) (hf : ∀ (i : Nat) (x : Str), frees[i]? = some x → mg x = none)  : FF P w K mg base 3 ("_law_tt_figures" : Str) 1 g__law_tt_figures :=
  fn_d (N := ["word", "sign"]) (ps := ["word"]) F ⟨rfl, rfl, rfl, by decide +kernel, rfl, by decide +kernel, by decide +kernel⟩ hm (fun _ _ _ _ _ _ us hl => match us, hl with | [_], _ => rfl) (fun cdv A outer s H E C => b__law_tt_figures hf  C) (fun as ld h => .inr rfl)
/-! ### _law_tt_within -/
abbrev s__law_tt_within : Stmt := top 52
def fb__law_tt_within  : AS → Out :=
  (gSeq (gSet 4 (fzF (fIf (toBF (fOp kLt (fVar 1) (fzF (fCall kLen (fCons (fVar 0) fNil))))) (fFn g__law_tt_figures 0 (lCons (fzF (fOp kItem (fVar 0) (fVar 1))) lNil)) (inF (fC .none)))))
  (gSeq (gRet (fIf (fAnd (toBF (fOp kIsNot (fVar 4) (fC .none))) (fAnd (toBF (fOp kLe (fVar 2) (fVar 4))) (fOr (toBF (fOp kIs (fVar 3) (fC .none))) (toBF (fOp kLe (fVar 4) (fVar 3)))))) (inF (fVar 4)) (inF (fC .none))))
  gNx))
theorem b__law_tt_within {P : Program} {w : World} {K : PySem.W.Frag} {mg : Str → Option Value} {base : Heap}   (hf : ∀ (i : Nat) (x : Str), frees[i]? = some x → mg x = none) (F__law_tt_figures : FF P w K mg base 3 ("_law_tt_figures" : Str) 1 g__law_tt_figures) {cdv : Value} {A : Around} {outer : List Env} {s : Shared} {H : Hp} {E : XK} {f : Addr}
    (C : Ctx (cxOf (L2N.CX P w) P w K mg base ["parts_now", "at", "low", "high", "much"] "_law_tt_within" (defScope s__law_tt_within) f cdv A outer s H E) E 3) : DSs (cxOf (L2N.CX P w) P w K mg base ["parts_now", "at", "low", "high", "much"] "_law_tt_within" (defScope s__law_tt_within) f cdv A outer s H E) E (defBody s__law_tt_within) (fb__law_tt_within ) :=
  (ss_cons (s_set 4 C ((d_if (t_cmp o_lt (d_var 1) ((d_callB c_len (hf 0 _ rfl) rfl (a_cons (d_var 0) a_nil))).toD) (d_call C F__law_tt_figures (al_cons ((d_item (d_var 0) (d_var 1))).toD (al_nil 0)) (alLen_cons alLen_nil).at_) d_non.toE)).toD)
  (ss_cons (s_ret (d_if (DW.t (w_and (t_cmp o_isNot (d_var 4) d_non) (w_and (t_cmp o_le (d_var 2) (d_var 4)) (w_and1 (DW.t (w_or (t_cmp o_is (d_var 3) d_non) (w_or1 (t_cmp o_le (d_var 4) (d_var 3))))))))) ((d_var 4)).toE d_non.toE))
  ss_nil))
def g__law_tt_within : AL → List D → Fr := fun as ld => finF as (fb__law_tt_within (S0 5 as ld))
theorem ff__law_tt_within {P : Program} {w : World} {K : PySem.W.Frag} {mg : Str → Option Value} {base : Heap} {f : Addr} {fd : FuncData} (F : FunD K "_law_tt_within" "_law_tt_within" (defArgs s__law_tt_within) (defBody s__law_tt_within) (defScope s__law_tt_within) [] [] f fd) (hm : mg ("_law_tt_within" : Str) = some (.ref f)) (hf : ∀ (i : Nat) (x : Str), frees[i]? = some x → mg x = none) (F__law_tt_figures : FF P w K mg base 3 ("_law_tt_figures" : Str) 1 g__law_tt_figures) : FF P w K mg base 4 ("_law_tt_within" : Str) 4 g__law_tt_within :=
  fn_d (N := ["parts_now", "at", "low", "high", "much"]) (ps := ["parts_now", "at", "low", "high"]) F ⟨rfl, rfl, rfl, by decide +kernel, rfl, by decide +kernel, by decide +kernel⟩ hm (fun _ _ _ _ _ _ us hl => match us, hl with | [_, _, _, _], _ => rfl) (fun cdv A outer s H E C => b__law_tt_within hf F__law_tt_figures C) (fun as ld h => .inr rfl)
/-! ### _law_tt_listed -/
abbrev s__law_tt_listed : Stmt := top 53
def fb__law_tt_listed  : AS → Out :=
  (gSeq (gIf (toBF (fOp kGe (fVar 1) (fzF (fCall kLen (fCons (fVar 0) fNil))))) (gSeq (gRet (inF (fC .none)))
  gNx) gNx)
  (gSeq (gSet 4 (fzF (fLc (fAnyI (fzF (fSplit (fzF (fOp kItem (fVar 0) (fVar 1))) (fC (.str ("," : Str)))))) (bName 5) (fun S => .ok true S) (fzF (fFn g__law_tt_figures 0 (lCons (fVar 5) lNil))) [5])))
  (gSeq (gIf (fOr (toBF (fOp kIn (fC .none) (fVar 4))) (fAnd (toBF (fOp kIsNot (fVar 3) (fC .none))) (toBF (fOp kGe (fzF (fCall kMax (fCons (fVar 4) fNil))) (fVar 3))))) (gSeq (gRet (inF (fC .none)))
  gNx) gNx)
  (gSeq (gIf (fAnd (fTru (fVar 2)) (toBF (fOp kNe (fzF (fLc (fRg2 (fC (.int 1)) (fzF (fCall kLen (fCons (fVar 4) fNil)))) (bName 6) (toBF (fOp kGe (fzF (fOp kItem (fVar 4) (fzF (fOp kSub (fVar 6) (fC (.int 1)))))) (fzF (fOp kItem (fVar 4) (fVar 6))))) (fVar 6) [6])) (fzF (fLst fNil))))) (gSeq (gRet (inF (fC .none)))
  gNx) gNx)
  (gSeq (gRet (fCall kTuple (fCons (fVar 4) fNil)))
  gNx)))))
theorem b__law_tt_listed {P : Program} {w : World} {K : PySem.W.Frag} {mg : Str → Option Value} {base : Heap}   (hf : ∀ (i : Nat) (x : Str), frees[i]? = some x → mg x = none) (F__law_tt_figures : FF P w K mg base 3 ("_law_tt_figures" : Str) 1 g__law_tt_figures) {cdv : Value} {A : Around} {outer : List Env} {s : Shared} {H : Hp} {E : XK} {f : Addr}
    (C : Ctx (cxOf (L2N.CX P w) P w K mg base ["parts_now", "at", "is_rising", "below", "made", "piece", "k"] "_law_tt_listed" (defScope s__law_tt_listed) f cdv A outer s H E) E 3) : DSs (cxOf (L2N.CX P w) P w K mg base ["parts_now", "at", "is_rising", "below", "made", "piece", "k"] "_law_tt_listed" (defScope s__law_tt_listed) f cdv A outer s H E) E (defBody s__law_tt_listed) (fb__law_tt_listed ) :=
  (ss_cons (s_if (t_cmp o_ge (d_var 1) ((d_callB c_len (hf 0 _ rfl) rfl (a_cons (d_var 0) a_nil))).toD) (ss_cons (s_ret d_non.toE)
  ss_nil) ss_nil)
  (ss_cons (s_set 4 C ((d_comp C [("piece", 5)] (i_any ((d_split ((d_item (d_var 0) (d_var 1))).toD (d_str))).toD) (by show blkC ["parts_now", "at", "is_rising", "below", "made", "piece", "k"] (defScope s__law_tt_listed) _ _ = true; decide +kernel) (fun s H Cc cl fp => (gw_name [5] 5 C.nd (by simp))) (fun s H Cc cl fp => ts_nil) (fun s H Cc cl fp => ((d_call (C.blk s H Cc cl fp) F__law_tt_figures (al_cons (d_var 5) (al_nil 0)) (alLen_cons alLen_nil).at_)).toD))).toD)
  (ss_cons (s_if (DW.t (w_or (t_cmp o_in d_non (d_var 4)) (w_or1 (DW.t (w_and (t_cmp o_isNot (d_var 3) d_non) (w_and1 (t_cmp o_ge ((d_callB (c_max C) (hf 1 _ rfl) rfl (a_cons (d_var 4) a_nil))).toD (d_var 3)))))))) (ss_cons (s_ret d_non.toE)
  ss_nil) ss_nil)
  (ss_cons (s_if (DW.t (w_and (t_val (d_var 2)) (w_and1 (t_cmp (o_ne C) ((d_comp C [("k", 6)] (i_rg2 d_int ((d_callB c_len (hf 0 _ rfl) rfl (a_cons (d_var 4) a_nil))).toD (hf 11 _ rfl)) (by show blkC ["parts_now", "at", "is_rising", "below", "made", "piece", "k"] (defScope s__law_tt_listed) _ _ = true; decide +kernel) (fun s H Cc cl fp => (gw_name [6] 6 C.nd (by simp))) (fun s H Cc cl fp => (ts_one (t_cmp o_ge ((d_item (d_var 4) ((d_bin o_sub (d_var 6) d_int)).toD)).toD ((d_item (d_var 4) (d_var 6))).toD))) (fun s H Cc cl fp => (d_var 6)))).toD ((d_lst a_nil)).toD)))) (ss_cons (s_ret d_non.toE)
  ss_nil) ss_nil)
  (ss_cons (s_ret (d_callTy c_tuple (hf 8 _ rfl) rfl (a_cons (d_var 4) a_nil)))
  ss_nil)))))
def g__law_tt_listed : AL → List D → Fr := fun as ld => finF as (fb__law_tt_listed (S0 7 as ld))
theorem ff__law_tt_listed {P : Program} {w : World} {K : PySem.W.Frag} {mg : Str → Option Value} {base : Heap} {f : Addr} {fd : FuncData} (F : FunD K "_law_tt_listed" "_law_tt_listed" (defArgs s__law_tt_listed) (defBody s__law_tt_listed) (defScope s__law_tt_listed) [] [] f fd) (hm : mg ("_law_tt_listed" : Str) = some (.ref f)) (hf : ∀ (i : Nat) (x : Str), frees[i]? = some x → mg x = none) (F__law_tt_figures : FF P w K mg base 3 ("_law_tt_figures" : Str) 1 g__law_tt_figures) : FF P w K mg base 4 ("_law_tt_listed" : Str) 4 g__law_tt_listed :=
  fn_d (N := ["parts_now", "at", "is_rising", "below", "made", "piece", "k"]) (ps := ["parts_now", "at", "is_rising", "below"]) F ⟨rfl, rfl, rfl, by decide +kernel, rfl, by decide +kernel, by decide +kernel⟩ hm (fun _ _ _ _ _ _ us hl => match us, hl with | [_, _, _, _], _ => rfl) (fun cdv A outer s H E C => b__law_tt_listed hf F__law_tt_figures C) (fun as ld h => .inr rfl)
/-! ### _law_tt_line -/
abbrev s__law_tt_line : Stmt := top 54
def fb__law_tt_line  : AS → Out :=
  (gSeq (gRet (fJoin (fC (.str (" " : Str))) (fzF (fOp kAdd (fzF (fLst (fCons (fVar 0) fNil))) (fzF (fLc (fAnyI (fVar 1)) (bName 2) (fun S => .ok true S) (fzF (fCall kStr (fCons (fVar 2) fNil))) [2]))))))
  gNx)
theorem b__law_tt_line {P : Program} {w : World} {K : PySem.W.Frag} {mg : Str → Option Value} {base : Heap}   (hf : ∀ (i : Nat) (x : Str), frees[i]? = some x → mg x = none)  {cdv : Value} {A : Around} {outer : List Env} {s : Shared} {H : Hp} {E : XK} {f : Addr}
    (C : Ctx (cxOf (L2N.CX P w) P w K mg base ["word", "some", "much"] "_law_tt_line" (defScope s__law_tt_line) f cdv A outer s H E) E 2) : DSs (cxOf (L2N.CX P w) P w K mg base ["word", "some", "much"] "_law_tt_line" (defScope s__law_tt_line) f cdv A outer s H E) E (defBody s__law_tt_line) (fb__law_tt_line ) :=
  (ss_cons (s_ret (d_join (d_str) ((d_bin o_add ((d_lst (a_cons (d_var 0) a_nil))).toD ((d_comp C [("much", 2)] (i_any (d_var 1)) (by show blkC ["word", "some", "much"] (defScope s__law_tt_line) _ _ = true; decide +kernel) (fun s H Cc cl fp => (gw_name [2] 2 C.nd (by simp))) (fun s H Cc cl fp => ts_nil) (fun s H Cc cl fp => ((d_callTy c_str (hf 7 _ rfl) rfl (a_cons (d_var 2) a_nil))).toD))).toD)).toD))
  ss_nil)
def g__law_tt_line : AL → List D → Fr := fun as ld => finF as (fb__law_tt_line (S0 3 as ld))
theorem ff__law_tt_line {P : Program} {w : World} {K : PySem.W.Frag} {mg : Str → Option Value} {base : Heap} {f : Addr} {fd : FuncData} (F : FunD K "_law_tt_line" "_law_tt_line" (defArgs s__law_tt_line) (defBody s__law_tt_line) (defScope s__law_tt_line) [] [] f fd) (hm : mg ("_law_tt_line" : Str) = some (.ref f)) (hf : ∀ (i : Nat) (x : Str), frees[i]? = some x → mg x = none)  : FF P w K mg base 3 ("_law_tt_line" : Str) 2 g__law_tt_line :=
  fn_d (N := ["word", "some", "much"]) (ps := ["word", "some"]) F ⟨rfl, rfl, rfl, by decide +kernel, rfl, by decide +kernel, by decide +kernel⟩ hm (fun _ _ _ _ _ _ us hl => match us, hl with | [_, _], _ => rfl) (fun cdv A outer s H E C => b__law_tt_line hf  C) (fun as ld h => .inr rfl)
/-! ### _law_tt_list_word -/
abbrev s__law_tt_list_word : Stmt := top 55
def fb__law_tt_list_word  : AS → Out :=
  (gSeq (gRet (fJoin (fC (.str ("," : Str))) (fzF (fLc (fAnyI (fVar 0)) (bName 1) (fun S => .ok true S) (fzF (fCall kStr (fCons (fVar 1) fNil))) [1]))))
  gNx)
theorem b__law_tt_list_word {P : Program} {w : World} {K : PySem.W.Frag} {mg : Str → Option Value} {base : Heap}   (hf : ∀ (i : Nat) (x : Str), frees[i]? = some x → mg x = none)  {cdv : Value} {A : Around} {outer : List Env} {s : Shared} {H : Hp} {E : XK} {f : Addr}
    (C : Ctx (cxOf (L2N.CX P w) P w K mg base ["some", "much"] "_law_tt_list_word" (defScope s__law_tt_list_word) f cdv A outer s H E) E 2) : DSs (cxOf (L2N.CX P w) P w K mg base ["some", "much"] "_law_tt_list_word" (defScope s__law_tt_list_word) f cdv A outer s H E) E (defBody s__law_tt_list_word) (fb__law_tt_list_word ) :=
  (ss_cons (s_ret (d_join (d_str) ((d_comp C [("much", 1)] (i_any (d_var 0)) (by show blkC ["some", "much"] (defScope s__law_tt_list_word) _ _ = true; decide +kernel) (fun s H Cc cl fp => (gw_name [1] 1 C.nd (by simp))) (fun s H Cc cl fp => ts_nil) (fun s H Cc cl fp => ((d_callTy c_str (hf 7 _ rfl) rfl (a_cons (d_var 1) a_nil))).toD))).toD))
  ss_nil)
def g__law_tt_list_word : AL → List D → Fr := fun as ld => finF as (fb__law_tt_list_word (S0 2 as ld))
theorem ff__law_tt_list_word {P : Program} {w : World} {K : PySem.W.Frag} {mg : Str → Option Value} {base : Heap} {f : Addr} {fd : FuncData} (F : FunD K "_law_tt_list_word" "_law_tt_list_word" (defArgs s__law_tt_list_word) (defBody s__law_tt_list_word) (defScope s__law_tt_list_word) [] [] f fd) (hm : mg ("_law_tt_list_word" : Str) = some (.ref f)) (hf : ∀ (i : Nat) (x : Str), frees[i]? = some x → mg x = none)  : FF P w K mg base 3 ("_law_tt_list_word" : Str) 1 g__law_tt_list_word :=
  fn_d (N := ["some", "much"]) (ps := ["some"]) F ⟨rfl, rfl, rfl, by decide +kernel, rfl, by decide +kernel, by decide +kernel⟩ hm (fun _ _ _ _ _ _ us hl => match us, hl with | [_], _ => rfl) (fun cdv A outer s H E C => b__law_tt_list_word hf  C) (fun as ld h => .inr rfl)
/-! ### _law_tt_lines -/
abbrev s__law_tt_lines : Stmt := top 56
def fb__law_tt_lines  : AS → Out :=
  (gSeq (gRet (fLc (fAnyI (fzF (fSplit (fVar 0) (fC (.str ("\n" : Str)))))) (bName 1) (fun S => .ok true S) (fzF (fSplit (fVar 1) (fC (.str (" " : Str))))) [1]))
  gNx)
theorem b__law_tt_lines {P : Program} {w : World} {K : PySem.W.Frag} {mg : Str → Option Value} {base : Heap}   (hf : ∀ (i : Nat) (x : Str), frees[i]? = some x → mg x = none)  {cdv : Value} {A : Around} {outer : List Env} {s : Shared} {H : Hp} {E : XK} {f : Addr}
    (C : Ctx (cxOf (L2N.CX P w) P w K mg base ["text", "line"] "_law_tt_lines" (defScope s__law_tt_lines) f cdv A outer s H E) E 2) : DSs (cxOf (L2N.CX P w) P w K mg base ["text", "line"] "_law_tt_lines" (defScope s__law_tt_lines) f cdv A outer s H E) E (defBody s__law_tt_lines) (fb__law_tt_lines ) :=
  (ss_cons (s_ret (d_comp C [("line", 1)] (i_any ((d_split (d_var 0) (d_str))).toD) (by show blkC ["text", "line"] (defScope s__law_tt_lines) _ _ = true; decide +kernel) (fun s H Cc cl fp => (gw_name [1] 1 C.nd (by simp))) (fun s H Cc cl fp => ts_nil) (fun s H Cc cl fp => ((d_split (d_var 1) (d_str))).toD)))
  ss_nil)
def g__law_tt_lines : AL → List D → Fr := fun as ld => finF as (fb__law_tt_lines (S0 2 as ld))
theorem ff__law_tt_lines {P : Program} {w : World} {K : PySem.W.Frag} {mg : Str → Option Value} {base : Heap} {f : Addr} {fd : FuncData} (F : FunD K "_law_tt_lines" "_law_tt_lines" (defArgs s__law_tt_lines) (defBody s__law_tt_lines) (defScope s__law_tt_lines) [] [] f fd) (hm : mg ("_law_tt_lines" : Str) = some (.ref f)) (hf : ∀ (i : Nat) (x : Str), frees[i]? = some x → mg x = none)  : FF P w K mg base 3 ("_law_tt_lines" : Str) 1 g__law_tt_lines :=
  fn_d (N := ["text", "line"]) (ps := ["text"]) F ⟨rfl, rfl, rfl, by decide +kernel, rfl, by decide +kernel, by decide +kernel⟩ hm (fun _ _ _ _ _ _ us hl => match us, hl with | [_], _ => rfl) (fun cdv A outer s H E C => b__law_tt_lines hf  C) (fun as ld h => .inr rfl)
/-! ### _law_tt_wrong -/
abbrev s__law_tt_wrong : Stmt := top 57
def fb__law_tt_wrong  : AS → Out :=
  (gSeq (gRet (inF (fTup (fCons (fC (.str ("WrongLine" : Str))) (fCons (fTup (fCons (fVar 0) (fCons (fVar 1) fNil))) fNil)))))
  gNx)
theorem b__law_tt_wrong {P : Program} {w : World} {K : PySem.W.Frag} {mg : Str → Option Value} {base : Heap}   (hf : ∀ (i : Nat) (x : Str), frees[i]? = some x → mg x = none)  {cdv : Value} {A : Around} {outer : List Env} {s : Shared} {H : Hp} {E : XK} {f : Addr}
    (C : Ctx (cxOf (L2N.CX P w) P w K mg base ["line", "word"] "_law_tt_wrong" (defScope s__law_tt_wrong) f cdv A outer s H E) E 2) : DSs (cxOf (L2N.CX P w) P w K mg base ["line", "word"] "_law_tt_wrong" (defScope s__law_tt_wrong) f cdv A outer s H E) E (defBody s__law_tt_wrong) (fb__law_tt_wrong ) :=
  (ss_cons (s_ret ((d_tup (a_cons (d_str) (a_cons (d_tup (a_cons (d_var 0) (a_cons (d_var 1) a_nil))) a_nil)))).toE)
  ss_nil)
def g__law_tt_wrong : AL → List D → Fr := fun as ld => finF as (fb__law_tt_wrong (S0 2 as ld))
theorem ff__law_tt_wrong {P : Program} {w : World} {K : PySem.W.Frag} {mg : Str → Option Value} {base : Heap} {f : Addr} {fd : FuncData} (F : FunD K "_law_tt_wrong" "_law_tt_wrong" (defArgs s__law_tt_wrong) (defBody s__law_tt_wrong) (defScope s__law_tt_wrong) [] [] f fd) (hm : mg ("_law_tt_wrong" : Str) = some (.ref f)) (hf : ∀ (i : Nat) (x : Str), frees[i]? = some x → mg x = none)  : FF P w K mg base 3 ("_law_tt_wrong" : Str) 2 g__law_tt_wrong :=
  fn_d (N := ["line", "word"]) (ps := ["line", "word"]) F ⟨rfl, rfl, rfl, by decide +kernel, rfl, by decide +kernel, by decide +kernel⟩ hm (fun _ _ _ _ _ _ us hl => match us, hl with | [_, _], _ => rfl) (fun cdv A outer s H E C => b__law_tt_wrong hf  C) (fun as ld h => .inr rfl)
/-! ### _law_tt_end -/
abbrev s__law_tt_end : Stmt := top 58
def fb__law_tt_end  : AS → Out :=
  (gSeq (gRet (fIf (fAnd (toBF (fOp kEq (fzF (fOp kItem (fVar 1) (fC (.int 0)))) (fC (.str ("told" : Str))))) (toBF (fOp kLt (fzF (fOp kItem (fVar 1) (fC (.int 2)))) (fzF (fCall kLen (fCons (fVar 0) fNil)))))) (inF (fTup (fCons (fC (.str ("wrong" : Str))) (fCons (fzF (fOp kItem (fVar 1) (fC (.int 2)))) fNil)))) (inF (fVar 1))))
  gNx)
theorem b__law_tt_end {P : Program} {w : World} {K : PySem.W.Frag} {mg : Str → Option Value} {base : Heap}   (hf : ∀ (i : Nat) (x : Str), frees[i]? = some x → mg x = none)  {cdv : Value} {A : Around} {outer : List Env} {s : Shared} {H : Hp} {E : XK} {f : Addr}
    (C : Ctx (cxOf (L2N.CX P w) P w K mg base ["parts_now", "share"] "_law_tt_end" (defScope s__law_tt_end) f cdv A outer s H E) E 2) : DSs (cxOf (L2N.CX P w) P w K mg base ["parts_now", "share"] "_law_tt_end" (defScope s__law_tt_end) f cdv A outer s H E) E (defBody s__law_tt_end) (fb__law_tt_end ) :=
  (ss_cons (s_ret (d_if (DW.t (w_and (t_cmp (o_eq C) ((d_item (d_var 1) d_int)).toD (d_str)) (w_and1 (t_cmp o_lt ((d_item (d_var 1) d_int)).toD ((d_callB c_len (hf 0 _ rfl) rfl (a_cons (d_var 0) a_nil))).toD)))) ((d_tup (a_cons (d_str) (a_cons ((d_item (d_var 1) d_int)).toD a_nil)))).toE ((d_var 1)).toE))
  ss_nil)
def g__law_tt_end : AL → List D → Fr := fun as ld => finF as (fb__law_tt_end (S0 2 as ld))
theorem ff__law_tt_end {P : Program} {w : World} {K : PySem.W.Frag} {mg : Str → Option Value} {base : Heap} {f : Addr} {fd : FuncData} (F : FunD K "_law_tt_end" "_law_tt_end" (defArgs s__law_tt_end) (defBody s__law_tt_end) (defScope s__law_tt_end) [] [] f fd) (hm : mg ("_law_tt_end" : Str) = some (.ref f)) (hf : ∀ (i : Nat) (x : Str), frees[i]? = some x → mg x = none)  : FF P w K mg base 3 ("_law_tt_end" : Str) 2 g__law_tt_end :=
  fn_d (N := ["parts_now", "share"]) (ps := ["parts_now", "share"]) F ⟨rfl, rfl, rfl, by decide +kernel, rfl, by decide +kernel, by decide +kernel⟩ hm (fun _ _ _ _ _ _ us hl => match us, hl with | [_, _], _ => rfl) (fun cdv A outer s H E C => b__law_tt_end hf  C) (fun as ld h => .inr rfl)
/-! ### _law_tt_one_line -/
abbrev s__law_tt_one_line : Stmt := top 59
def fb__law_tt_one_line  : AS → Out :=
  (gSeq (gIf (toBF (fOp kEq (fzF (fOp kItem (fVar 1) (fC (.int 0)))) (fC (.str ("wrong" : Str))))) (gSeq (gRet (fFn g__law_tt_wrong 0 (lCons (fC (.int 0)) (lCons (fzF (fOp kItem (fVar 1) (fC (.int 1)))) lNil))))
  gNx) gNx)
  (gSeq (gRet (fIf (toBF (fOp kEq (fzF (fCall kLen (fCons (fVar 0) fNil))) (fC (.int 1)))) (inF (fTup (fCons (fC (.str ("told" : Str))) (fCons (fzF (fOp kItem (fVar 1) (fC (.int 1)))) fNil)))) (fFn g__law_tt_wrong 0 (lCons (fC (.int 1)) (lCons (fC (.int 0)) lNil)))))
  gNx))
theorem b__law_tt_one_line {P : Program} {w : World} {K : PySem.W.Frag} {mg : Str → Option Value} {base : Heap}   (hf : ∀ (i : Nat) (x : Str), frees[i]? = some x → mg x = none) (F__law_tt_wrong : FF P w K mg base 3 ("_law_tt_wrong" : Str) 2 g__law_tt_wrong) {cdv : Value} {A : Around} {outer : List Env} {s : Shared} {H : Hp} {E : XK} {f : Addr}
    (C : Ctx (cxOf (L2N.CX P w) P w K mg base ["lines", "share"] "_law_tt_one_line" (defScope s__law_tt_one_line) f cdv A outer s H E) E 3) : DSs (cxOf (L2N.CX P w) P w K mg base ["lines", "share"] "_law_tt_one_line" (defScope s__law_tt_one_line) f cdv A outer s H E) E (defBody s__law_tt_one_line) (fb__law_tt_one_line ) :=
  (ss_cons (s_if (t_cmp (o_eq C) ((d_item (d_var 1) d_int)).toD (d_str)) (ss_cons (s_ret (d_call C F__law_tt_wrong (al_cons d_int (al_cons ((d_item (d_var 1) d_int)).toD (al_nil 0))) (alLen_cons (alLen_cons alLen_nil)).at_))
  ss_nil) ss_nil)
  (ss_cons (s_ret (d_if (t_cmp (o_eq C) ((d_callB c_len (hf 0 _ rfl) rfl (a_cons (d_var 0) a_nil))).toD d_int) ((d_tup (a_cons (d_str) (a_cons ((d_item (d_var 1) d_int)).toD a_nil)))).toE (d_call C F__law_tt_wrong (al_cons d_int (al_cons d_int (al_nil 0))) (alLen_cons (alLen_cons alLen_nil)).at_)))
  ss_nil))
def g__law_tt_one_line : AL → List D → Fr := fun as ld => finF as (fb__law_tt_one_line (S0 2 as ld))
theorem ff__law_tt_one_line {P : Program} {w : World} {K : PySem.W.Frag} {mg : Str → Option Value} {base : Heap} {f : Addr} {fd : FuncData} (F : FunD K "_law_tt_one_line" "_law_tt_one_line" (defArgs s__law_tt_one_line) (defBody s__law_tt_one_line) (defScope s__law_tt_one_line) [] [] f fd) (hm : mg ("_law_tt_one_line" : Str) = some (.ref f)) (hf : ∀ (i : Nat) (x : Str), frees[i]? = some x → mg x = none) (F__law_tt_wrong : FF P w K mg base 3 ("_law_tt_wrong" : Str) 2 g__law_tt_wrong) : FF P w K mg base 4 ("_law_tt_one_line" : Str) 2 g__law_tt_one_line :=
  fn_d (N := ["lines", "share"]) (ps := ["lines", "share"]) F ⟨rfl, rfl, rfl, by decide +kernel, rfl, by decide +kernel, by decide +kernel⟩ hm (fun _ _ _ _ _ _ us hl => match us, hl with | [_, _], _ => rfl) (fun cdv A outer s H E C => b__law_tt_one_line hf F__law_tt_wrong C) (fun as ld h => .inr rfl)
/-! ### _law_tt_is_leaf -/
abbrev s__law_tt_is_leaf : Stmt := top 60
def fb__law_tt_is_leaf  : AS → Out :=
  (gSeq (gRet (fOp kIn (fzF (fOp kItem (fVar 0) (fC (.int 0)))) (fzF (fLst (fCons (fC (.str ("order" : Str))) (fCons (fC (.str ("nest" : Str))) (fCons (fC (.str ("span" : Str))) (fCons (fC (.str ("far" : Str))) (fCons (fC (.str ("rank" : Str))) (fCons (fC (.str ("dial" : Str))) fNil))))))))))
  gNx)
theorem b__law_tt_is_leaf {P : Program} {w : World} {K : PySem.W.Frag} {mg : Str → Option Value} {base : Heap}   (hf : ∀ (i : Nat) (x : Str), frees[i]? = some x → mg x = none)  {cdv : Value} {A : Around} {outer : List Env} {s : Shared} {H : Hp} {E : XK} {f : Addr}
    (C : Ctx (cxOf (L2N.CX P w) P w K mg base ["sketch"] "_law_tt_is_leaf" (defScope s__law_tt_is_leaf) f cdv A outer s H E) E 2) : DSs (cxOf (L2N.CX P w) P w K mg base ["sketch"] "_law_tt_is_leaf" (defScope s__law_tt_is_leaf) f cdv A outer s H E) E (defBody s__law_tt_is_leaf) (fb__law_tt_is_leaf ) :=
  (ss_cons (s_ret (d_cmp o_in ((d_item (d_var 0) d_int)).toD ((d_lst (a_cons (d_str) (a_cons (d_str) (a_cons (d_str) (a_cons (d_str) (a_cons (d_str) (a_cons (d_str) a_nil)))))))).toD))
  ss_nil)
def g__law_tt_is_leaf : AL → List D → Fr := fun as ld => finF as (fb__law_tt_is_leaf (S0 1 as ld))
theorem ff__law_tt_is_leaf {P : Program} {w : World} {K : PySem.W.Frag} {mg : Str → Option Value} {base : Heap} {f : Addr} {fd : FuncData} (F : FunD K "_law_tt_is_leaf" "_law_tt_is_leaf" (defArgs s__law_tt_is_leaf) (defBody s__law_tt_is_leaf) (defScope s__law_tt_is_leaf) [] [] f fd) (hm : mg ("_law_tt_is_leaf" : Str) = some (.ref f)) (hf : ∀ (i : Nat) (x : Str), frees[i]? = some x → mg x = none)  : FF P w K mg base 3 ("_law_tt_is_leaf" : Str) 1 g__law_tt_is_leaf :=
  fn_d (N := ["sketch"]) (ps := ["sketch"]) F ⟨rfl, rfl, rfl, by decide +kernel, rfl, by decide +kernel, by decide +kernel⟩ hm (fun _ _ _ _ _ _ us hl => match us, hl with | [_], _ => rfl) (fun cdv A outer s H E C => b__law_tt_is_leaf hf  C) (fun as ld h => .inr rfl)
/-! ### _law_tt_sketch -/
abbrev s__law_tt_sketch : Stmt := top 61
def fb__law_tt_sketch (r__law_tt_sketch : AL → List D → Fr) : AS → Out :=
  (gSeq (gSet 1 (fzF (fOp kItem (fVar 0) (fC (.int 0)))))
  (gSeq (gIf (fTru (fzF (fFn g__law_tt_is_leaf 0 (lCons (fVar 0) lNil)))) (gSeq (gRet (fFn g__law_tt_line 0 (lCons (fVar 1) (lCons (fzF (fSlice (fVar 0) (fPart (fC (.int 1))) fNoPart)) lNil))))
  gNx) gNx)
  (gSeq (gSet 2 (fzF (fFn r__law_tt_sketch 0 (lCons (fzF (fOp kItem (fVar 0) (fC (.int 1)))) lNil))))
  (gSeq (gIf (toBF (fOp kIn (fVar 1) (fzF (fLst (fCons (fC (.str ("part" : Str))) (fCons (fC (.str ("lump" : Str))) fNil)))))) (gSeq (gRet (fOp kAdd (fzF (fOp kAdd (fzF (fOp kAdd (fzF (fOp kAdd (fVar 2) (fC (.str (" " : Str))))) (fVar 1))) (fC (.str (" " : Str))))) (fzF (fFn g__law_tt_list_word 0 (lCons (fzF (fOp kItem (fVar 0) (fC (.int 2)))) lNil)))))
  gNx) gNx)
  (gSeq (gIf (toBF (fOp kEq (fVar 1) (fC (.str ("twin" : Str))))) (gSeq (gRet (fOp kAdd (fVar 2) (fC (.str (" twin" : Str)))))
  gNx) gNx)
  (gSeq (gSet 3 (fzF (fFn r__law_tt_sketch 0 (lCons (fzF (fOp kItem (fVar 0) (fC (.int 2)))) lNil))))
  (gSeq (gRet (fOp kAdd (fzF (fOp kAdd (fVar 2) (fC (.str (" * " : Str))))) (fzF (fIf (fTru (fzF (fFn g__law_tt_is_leaf 0 (lCons (fzF (fOp kItem (fVar 0) (fC (.int 2)))) lNil)))) (inF (fVar 3)) (fOp kAdd (fzF (fOp kAdd (fC (.str ("( " : Str))) (fVar 3))) (fC (.str (" )" : Str))))))))
  gNx)))))))
theorem b__law_tt_sketch {P : Program} {w : World} {K : PySem.W.Frag} {mg : Str → Option Value} {base : Heap} {r__law_tt_sketch : AL → List D → Fr} {j : Nat} (hf : ∀ (i : Nat) (x : Str), frees[i]? = some x → mg x = none) (F__law_tt_is_leaf : FF P w K mg base 3 ("_law_tt_is_leaf" : Str) 1 g__law_tt_is_leaf) (F__law_tt_line : FF P w K mg base 3 ("_law_tt_line" : Str) 2 g__law_tt_line) (F__law_tt_sketch : FF P w K mg base (3 + j) ("_law_tt_sketch" : Str) 1 r__law_tt_sketch) (F__law_tt_list_word : FF P w K mg base 3 ("_law_tt_list_word" : Str) 1 g__law_tt_list_word) {cdv : Value} {A : Around} {outer : List Env} {s : Shared} {H : Hp} {E : XK} {f : Addr}
    (C : Ctx (cxOf (L2N.CX P w) P w K mg base ["sketch", "word", "one", "two"] "_law_tt_sketch" (defScope s__law_tt_sketch) f cdv A outer s H E) E (3 + j)) : DSs (cxOf (L2N.CX P w) P w K mg base ["sketch", "word", "one", "two"] "_law_tt_sketch" (defScope s__law_tt_sketch) f cdv A outer s H E) E (defBody s__law_tt_sketch) (fb__law_tt_sketch r__law_tt_sketch) :=
  (ss_cons (s_set 1 C ((d_item (d_var 0) d_int)).toD)
  (ss_cons (s_if (t_val ((d_call C F__law_tt_is_leaf (al_cons (d_var 0) (al_nil 0)) (alLen_cons alLen_nil).at_)).toD) (ss_cons (s_ret (d_call C F__law_tt_line (al_cons (d_var 1) (al_cons ((d_slice (d_var 0) (po_so d_int) po_no)).toD (al_nil 0))) (alLen_cons (alLen_cons alLen_nil)).at_))
  ss_nil) ss_nil)
  (ss_cons (s_set 2 C ((d_call C F__law_tt_sketch (al_cons ((d_item (d_var 0) d_int)).toD (al_nil 0)) (alLen_cons alLen_nil).at_)).toD)
  (ss_cons (s_if (t_cmp o_in (d_var 1) ((d_lst (a_cons (d_str) (a_cons (d_str) a_nil)))).toD) (ss_cons (s_ret (d_bin o_add ((d_bin o_add ((d_bin o_add ((d_bin o_add (d_var 2) (d_str))).toD (d_var 1))).toD (d_str))).toD ((d_call C F__law_tt_list_word (al_cons ((d_item (d_var 0) d_int)).toD (al_nil 0)) (alLen_cons alLen_nil).at_)).toD))
  ss_nil) ss_nil)
  (ss_cons (s_if (t_cmp (o_eq C) (d_var 1) (d_str)) (ss_cons (s_ret (d_bin o_add (d_var 2) (d_str)))
  ss_nil) ss_nil)
  (ss_cons (s_set 3 C ((d_call C F__law_tt_sketch (al_cons ((d_item (d_var 0) d_int)).toD (al_nil 0)) (alLen_cons alLen_nil).at_)).toD)
  (ss_cons (s_ret (d_bin o_add ((d_bin o_add (d_var 2) (d_str))).toD ((d_if (t_val ((d_call C F__law_tt_is_leaf (al_cons ((d_item (d_var 0) d_int)).toD (al_nil 0)) (alLen_cons alLen_nil).at_)).toD) ((d_var 3)).toE (d_bin o_add ((d_bin o_add (d_str) (d_var 3))).toD (d_str)))).toD))
  ss_nil)))))))
def q_tsk : Nat → (AL → List D → Fr)
  | 0 => (fun _ _ => .stuck)
  | n + 1 => ((fun as ld => finF as (fb__law_tt_sketch (q_tsk n) (S0 4 as ld))))
def g__law_tt_sketch (n : Nat) : AL → List D → Fr := (q_tsk n)
theorem ff_tsk {P : Program} {w : World} {K : PySem.W.Frag} {mg : Str → Option Value} {base : Heap} {f__law_tt_sketch : Addr} {fd__law_tt_sketch : FuncData} (F0__law_tt_sketch : FunD K "_law_tt_sketch" "_law_tt_sketch" (defArgs s__law_tt_sketch) (defBody s__law_tt_sketch) (defScope s__law_tt_sketch) [] [] f__law_tt_sketch fd__law_tt_sketch) (hm__law_tt_sketch : mg ("_law_tt_sketch" : Str) = some (.ref f__law_tt_sketch)) (hf : ∀ (i : Nat) (x : Str), frees[i]? = some x → mg x = none) (F__law_tt_is_leaf : FF P w K mg base 3 ("_law_tt_is_leaf" : Str) 1 g__law_tt_is_leaf) (F__law_tt_line : FF P w K mg base 3 ("_law_tt_line" : Str) 2 g__law_tt_line) (F__law_tt_list_word : FF P w K mg base 3 ("_law_tt_list_word" : Str) 1 g__law_tt_list_word) : ∀ n : Nat, FF P w K mg base (3 + n) ("_law_tt_sketch" : Str) 1 (g__law_tt_sketch n)
  | 0 => ff_z (ps := ["sketch"]) F0__law_tt_sketch hm__law_tt_sketch (fun _ _ _ _ _ _ us hl => match us, hl with | [_], _ => rfl) (fun as ld => rfl)
  | n + 1 => by
    have ih := ff_tsk (P := P) (w := w) (K := K) (mg := mg) (base := base) F0__law_tt_sketch hm__law_tt_sketch hf F__law_tt_is_leaf F__law_tt_line F__law_tt_list_word n
    have F__law_tt_sketch := ih
    exact fn_d (N := ["sketch", "word", "one", "two"]) (ps := ["sketch"]) F0__law_tt_sketch ⟨rfl, rfl, rfl, by decide +kernel, rfl, by decide +kernel, by decide +kernel⟩ hm__law_tt_sketch (fun _ _ _ _ _ _ us hl => match us, hl with | [_], _ => rfl) (fun cdv A outer s H E C => b__law_tt_sketch hf F__law_tt_is_leaf F__law_tt_line F__law_tt_sketch F__law_tt_list_word C) (fun as ld h => .inr rfl)
/-! ### _law_tt_parts_of -/
abbrev s__law_tt_parts_of : Stmt := top 62
def fb__law_tt_parts_of  : AS → Out :=
  (gSeq (gIf (fTru (fzF (fFn g__law_tt_is_leaf 0 (lCons (fVar 0) lNil)))) (gSeq (gRet (fLst fNil))
  gNx) gNx)
  (gSeq (gRet (fOp kAdd (fzF (fLst (fCons (fzF (fOp kItem (fVar 0) (fC (.int 1)))) fNil))) (fzF (fIf (toBF (fOp kEq (fzF (fOp kItem (fVar 0) (fC (.int 0)))) (fC (.str ("product" : Str))))) (fLst (fCons (fzF (fOp kItem (fVar 0) (fC (.int 2)))) fNil)) (fLst fNil)))))
  gNx))
theorem b__law_tt_parts_of {P : Program} {w : World} {K : PySem.W.Frag} {mg : Str → Option Value} {base : Heap}   (hf : ∀ (i : Nat) (x : Str), frees[i]? = some x → mg x = none) (F__law_tt_is_leaf : FF P w K mg base 3 ("_law_tt_is_leaf" : Str) 1 g__law_tt_is_leaf) {cdv : Value} {A : Around} {outer : List Env} {s : Shared} {H : Hp} {E : XK} {f : Addr}
    (C : Ctx (cxOf (L2N.CX P w) P w K mg base ["sketch"] "_law_tt_parts_of" (defScope s__law_tt_parts_of) f cdv A outer s H E) E 3) : DSs (cxOf (L2N.CX P w) P w K mg base ["sketch"] "_law_tt_parts_of" (defScope s__law_tt_parts_of) f cdv A outer s H E) E (defBody s__law_tt_parts_of) (fb__law_tt_parts_of ) :=
  (ss_cons (s_if (t_val ((d_call C F__law_tt_is_leaf (al_cons (d_var 0) (al_nil 0)) (alLen_cons alLen_nil).at_)).toD) (ss_cons (s_ret (d_lst a_nil))
  ss_nil) ss_nil)
  (ss_cons (s_ret (d_bin o_add ((d_lst (a_cons ((d_item (d_var 0) d_int)).toD a_nil))).toD ((d_if (t_cmp (o_eq C) ((d_item (d_var 0) d_int)).toD (d_str)) (d_lst (a_cons ((d_item (d_var 0) d_int)).toD a_nil)) (d_lst a_nil))).toD))
  ss_nil))
def g__law_tt_parts_of : AL → List D → Fr := fun as ld => finF as (fb__law_tt_parts_of (S0 1 as ld))
theorem ff__law_tt_parts_of {P : Program} {w : World} {K : PySem.W.Frag} {mg : Str → Option Value} {base : Heap} {f : Addr} {fd : FuncData} (F : FunD K "_law_tt_parts_of" "_law_tt_parts_of" (defArgs s__law_tt_parts_of) (defBody s__law_tt_parts_of) (defScope s__law_tt_parts_of) [] [] f fd) (hm : mg ("_law_tt_parts_of" : Str) = some (.ref f)) (hf : ∀ (i : Nat) (x : Str), frees[i]? = some x → mg x = none) (F__law_tt_is_leaf : FF P w K mg base 3 ("_law_tt_is_leaf" : Str) 1 g__law_tt_is_leaf) : FF P w K mg base 4 ("_law_tt_parts_of" : Str) 1 g__law_tt_parts_of :=
  fn_d (N := ["sketch"]) (ps := ["sketch"]) F ⟨rfl, rfl, rfl, by decide +kernel, rfl, by decide +kernel, by decide +kernel⟩ hm (fun _ _ _ _ _ _ us hl => match us, hl with | [_], _ => rfl) (fun cdv A outer s H E C => b__law_tt_parts_of hf F__law_tt_is_leaf C) (fun as ld h => .inr rfl)
/-! ### _law_tt_deep -/
abbrev s__law_tt_deep : Stmt := top 63
def fb__law_tt_deep (r__law_tt_deep : AL → List D → Fr) : AS → Out :=
  (gSeq (gRet (fOp kAdd (fC (.int 1)) (fzF (fCall kMax (fCons (fzF (fOp kAdd (fzF (fLc (fAnyI (fzF (fFn g__law_tt_parts_of 0 (lCons (fVar 0) lNil)))) (bName 1) (fun S => .ok true S) (fzF (fFn r__law_tt_deep 0 (lCons (fVar 1) lNil))) [1])) (fzF (fLst (fCons (fC (.int 0)) fNil))))) fNil)))))
  gNx)
theorem b__law_tt_deep {P : Program} {w : World} {K : PySem.W.Frag} {mg : Str → Option Value} {base : Heap} {r__law_tt_deep : AL → List D → Fr} {j : Nat} (hf : ∀ (i : Nat) (x : Str), frees[i]? = some x → mg x = none) (F__law_tt_parts_of : FF P w K mg base 4 ("_law_tt_parts_of" : Str) 1 g__law_tt_parts_of) (F__law_tt_deep : FF P w K mg base (4 + j) ("_law_tt_deep" : Str) 1 r__law_tt_deep) {cdv : Value} {A : Around} {outer : List Env} {s : Shared} {H : Hp} {E : XK} {f : Addr}
    (C : Ctx (cxOf (L2N.CX P w) P w K mg base ["sketch", "one"] "_law_tt_deep" (defScope s__law_tt_deep) f cdv A outer s H E) E (4 + j)) : DSs (cxOf (L2N.CX P w) P w K mg base ["sketch", "one"] "_law_tt_deep" (defScope s__law_tt_deep) f cdv A outer s H E) E (defBody s__law_tt_deep) (fb__law_tt_deep r__law_tt_deep) :=
  (ss_cons (s_ret (d_bin o_add d_int ((d_callB (c_max C) (hf 1 _ rfl) rfl (a_cons ((d_bin o_add ((d_comp C [("one", 1)] (i_any ((d_call C F__law_tt_parts_of (al_cons (d_var 0) (al_nil 0)) (alLen_cons alLen_nil).at_)).toD) (by show blkC ["sketch", "one"] (defScope s__law_tt_deep) _ _ = true; decide +kernel) (fun s H Cc cl fp => (gw_name [1] 1 C.nd (by simp))) (fun s H Cc cl fp => ts_nil) (fun s H Cc cl fp => ((d_call (C.blk s H Cc cl fp) F__law_tt_deep (al_cons (d_var 1) (al_nil 0)) (alLen_cons alLen_nil).at_)).toD))).toD ((d_lst (a_cons d_int a_nil))).toD)).toD a_nil))).toD))
  ss_nil)
def q_deep : Nat → (AL → List D → Fr)
  | 0 => (fun _ _ => .stuck)
  | n + 1 => ((fun as ld => finF as (fb__law_tt_deep (q_deep n) (S0 2 as ld))))
def g__law_tt_deep (n : Nat) : AL → List D → Fr := (q_deep n)
theorem ff_deep {P : Program} {w : World} {K : PySem.W.Frag} {mg : Str → Option Value} {base : Heap} {f__law_tt_deep : Addr} {fd__law_tt_deep : FuncData} (F0__law_tt_deep : FunD K "_law_tt_deep" "_law_tt_deep" (defArgs s__law_tt_deep) (defBody s__law_tt_deep) (defScope s__law_tt_deep) [] [] f__law_tt_deep fd__law_tt_deep) (hm__law_tt_deep : mg ("_law_tt_deep" : Str) = some (.ref f__law_tt_deep)) (hf : ∀ (i : Nat) (x : Str), frees[i]? = some x → mg x = none) (F__law_tt_parts_of : FF P w K mg base 4 ("_law_tt_parts_of" : Str) 1 g__law_tt_parts_of) : ∀ n : Nat, FF P w K mg base (4 + n) ("_law_tt_deep" : Str) 1 (g__law_tt_deep n)
  | 0 => ff_z (ps := ["sketch"]) F0__law_tt_deep hm__law_tt_deep (fun _ _ _ _ _ _ us hl => match us, hl with | [_], _ => rfl) (fun as ld => rfl)
  | n + 1 => by
    have ih := ff_deep (P := P) (w := w) (K := K) (mg := mg) (base := base) F0__law_tt_deep hm__law_tt_deep hf F__law_tt_parts_of n
    have F__law_tt_deep := ih
    exact fn_d (N := ["sketch", "one"]) (ps := ["sketch"]) F0__law_tt_deep ⟨rfl, rfl, rfl, by decide +kernel, rfl, by decide +kernel, by decide +kernel⟩ hm__law_tt_deep (fun _ _ _ _ _ _ us hl => match us, hl with | [_], _ => rfl) (fun cdv A outer s H E C => b__law_tt_deep hf F__law_tt_parts_of F__law_tt_deep C) (fun as ld h => .inr rfl)
/-! ### _law_tt_leaves -/
abbrev s__law_tt_leaves : Stmt := top 64
def fb__law_tt_leaves (r__law_tt_leaves : AL → List D → Fr) : AS → Out :=
  (gSeq (gRet (fIf (fTru (fzF (fFn g__law_tt_is_leaf 0 (lCons (fVar 0) lNil)))) (inF (fC (.int 1))) (fCall kSum (fCons (fzF (fLc (fAnyI (fzF (fFn g__law_tt_parts_of 0 (lCons (fVar 0) lNil)))) (bName 1) (fun S => .ok true S) (fzF (fFn r__law_tt_leaves 0 (lCons (fVar 1) lNil))) [1])) fNil))))
  gNx)
theorem b__law_tt_leaves {P : Program} {w : World} {K : PySem.W.Frag} {mg : Str → Option Value} {base : Heap} {r__law_tt_leaves : AL → List D → Fr} {j : Nat} (hf : ∀ (i : Nat) (x : Str), frees[i]? = some x → mg x = none) (F__law_tt_is_leaf : FF P w K mg base 3 ("_law_tt_is_leaf" : Str) 1 g__law_tt_is_leaf) (F__law_tt_parts_of : FF P w K mg base 4 ("_law_tt_parts_of" : Str) 1 g__law_tt_parts_of) (F__law_tt_leaves : FF P w K mg base (4 + j) ("_law_tt_leaves" : Str) 1 r__law_tt_leaves) {cdv : Value} {A : Around} {outer : List Env} {s : Shared} {H : Hp} {E : XK} {f : Addr}
    (C : Ctx (cxOf (L2N.CX P w) P w K mg base ["sketch", "one"] "_law_tt_leaves" (defScope s__law_tt_leaves) f cdv A outer s H E) E (4 + j)) : DSs (cxOf (L2N.CX P w) P w K mg base ["sketch", "one"] "_law_tt_leaves" (defScope s__law_tt_leaves) f cdv A outer s H E) E (defBody s__law_tt_leaves) (fb__law_tt_leaves r__law_tt_leaves) :=
  (ss_cons (s_ret (d_if (t_val ((d_call C F__law_tt_is_leaf (al_cons (d_var 0) (al_nil 0)) (alLen_cons alLen_nil).at_)).toD) d_int.toE (d_callB (c_sum C) (hf 3 _ rfl) rfl (a_cons ((d_comp C [("one", 1)] (i_any ((d_call C F__law_tt_parts_of (al_cons (d_var 0) (al_nil 0)) (alLen_cons alLen_nil).at_)).toD) (by show blkC ["sketch", "one"] (defScope s__law_tt_leaves) _ _ = true; decide +kernel) (fun s H Cc cl fp => (gw_name [1] 1 C.nd (by simp))) (fun s H Cc cl fp => ts_nil) (fun s H Cc cl fp => ((d_call (C.blk s H Cc cl fp) F__law_tt_leaves (al_cons (d_var 1) (al_nil 0)) (alLen_cons alLen_nil).at_)).toD))).toD a_nil))))
  ss_nil)
def q_leaves : Nat → (AL → List D → Fr)
  | 0 => (fun _ _ => .stuck)
  | n + 1 => ((fun as ld => finF as (fb__law_tt_leaves (q_leaves n) (S0 2 as ld))))
def g__law_tt_leaves (n : Nat) : AL → List D → Fr := (q_leaves n)
theorem ff_leaves {P : Program} {w : World} {K : PySem.W.Frag} {mg : Str → Option Value} {base : Heap} {f__law_tt_leaves : Addr} {fd__law_tt_leaves : FuncData} (F0__law_tt_leaves : FunD K "_law_tt_leaves" "_law_tt_leaves" (defArgs s__law_tt_leaves) (defBody s__law_tt_leaves) (defScope s__law_tt_leaves) [] [] f__law_tt_leaves fd__law_tt_leaves) (hm__law_tt_leaves : mg ("_law_tt_leaves" : Str) = some (.ref f__law_tt_leaves)) (hf : ∀ (i : Nat) (x : Str), frees[i]? = some x → mg x = none) (F__law_tt_is_leaf : FF P w K mg base 3 ("_law_tt_is_leaf" : Str) 1 g__law_tt_is_leaf) (F__law_tt_parts_of : FF P w K mg base 4 ("_law_tt_parts_of" : Str) 1 g__law_tt_parts_of) : ∀ n : Nat, FF P w K mg base (4 + n) ("_law_tt_leaves" : Str) 1 (g__law_tt_leaves n)
  | 0 => ff_z (ps := ["sketch"]) F0__law_tt_leaves hm__law_tt_leaves (fun _ _ _ _ _ _ us hl => match us, hl with | [_], _ => rfl) (fun as ld => rfl)
  | n + 1 => by
    have ih := ff_leaves (P := P) (w := w) (K := K) (mg := mg) (base := base) F0__law_tt_leaves hm__law_tt_leaves hf F__law_tt_is_leaf F__law_tt_parts_of n
    have F__law_tt_leaves := ih
    exact fn_d (N := ["sketch", "one"]) (ps := ["sketch"]) F0__law_tt_leaves ⟨rfl, rfl, rfl, by decide +kernel, rfl, by decide +kernel, by decide +kernel⟩ hm__law_tt_leaves (fun _ _ _ _ _ _ us hl => match us, hl with | [_], _ => rfl) (fun cdv A outer s H E C => b__law_tt_leaves hf F__law_tt_is_leaf F__law_tt_parts_of F__law_tt_leaves C) (fun as ld h => .inr rfl)
/-! ### _law_tt_unit_in -/
abbrev s__law_tt_unit_in : Stmt := top 65
def fb__law_tt_unit_in (r__law_tt_sketch_in : AL → List D → Fr) : AS → Out :=
  (gSeq (gSet 3 (fzF (fIf (toBF (fOp kLt (fVar 1) (fzF (fCall kLen (fCons (fVar 0) fNil))))) (fOp kItem (fVar 0) (fVar 1)) (inF (fC (.str ("" : Str)))))))
  (gSeq (gIf (toBF (fOp kIn (fVar 3) (fzF (fLst (fCons (fC (.str ("order" : Str))) (fCons (fC (.str ("nest" : Str))) (fCons (fC (.str ("span" : Str))) fNil))))))) (gSeq (gRet (inF (fTup (fCons (fC (.str ("told" : Str))) (fCons (fTup (fCons (fVar 3) fNil)) (fCons (fzF (fOp kAdd (fVar 1) (fC (.int 1)))) fNil))))))
  gNx) gNx)
  (gSeq (gIf (toBF (fOp kIn (fVar 3) (fzF (fLst (fCons (fC (.str ("far" : Str))) (fCons (fC (.str ("rank" : Str))) (fCons (fC (.str ("dial" : Str))) fNil))))))) (gSeq (gSet 4 (fzF (fFn g__law_tt_within 0 (lCons (fVar 0) (lCons (fzF (fOp kAdd (fVar 1) (fC (.int 1)))) (lCons (fC (.int 1)) (lCons (fzF (fIf (toBF (fOp kEq (fVar 3) (fC (.str ("dial" : Str))))) (inF (fC (.int 13))) (inF (fC (.int 12))))) lNil)))))))
  (gSeq (gRet (fIf (toBF (fOp kIsNot (fVar 4) (fC .none))) (inF (fTup (fCons (fC (.str ("told" : Str))) (fCons (fTup (fCons (fVar 3) (fCons (fVar 4) fNil))) (fCons (fzF (fOp kAdd (fVar 1) (fC (.int 2)))) fNil))))) (inF (fTup (fCons (fC (.str ("wrong" : Str))) (fCons (fzF (fCall kMin (fCons (fzF (fOp kAdd (fVar 1) (fC (.int 1)))) (fCons (fzF (fCall kLen (fCons (fVar 0) fNil))) fNil)))) fNil))))))
  gNx)) gNx)
  (gSeq (gIf (fOr (toBF (fOp kNe (fVar 3) (fC (.str ("(" : Str))))) (toBF (fOp kEq (fVar 2) (fC (.int 20))))) (gSeq (gRet (inF (fTup (fCons (fC (.str ("wrong" : Str))) (fCons (fzF (fCall kMin (fCons (fVar 1) (fCons (fzF (fCall kLen (fCons (fVar 0) fNil))) fNil)))) fNil)))))
  gNx) gNx)
  (gSeq (gSet 5 (fzF (fFn r__law_tt_sketch_in 0 (lCons (fVar 0) (lCons (fzF (fOp kAdd (fVar 1) (fC (.int 1)))) (lCons (fzF (fOp kAdd (fVar 2) (fC (.int 1)))) lNil))))))
  (gSeq (gIf (toBF (fOp kEq (fzF (fOp kItem (fVar 5) (fC (.int 0)))) (fC (.str ("wrong" : Str))))) (gSeq (gRet (inF (fVar 5)))
  gNx) gNx)
  (gSeq (gRet (fIf (toBF (fOp kEq (fzF (fSlice (fVar 0) (fPart (fzF (fOp kItem (fVar 5) (fC (.int 2))))) (fPart (fzF (fOp kAdd (fzF (fOp kItem (fVar 5) (fC (.int 2)))) (fC (.int 1))))))) (fzF (fLst (fCons (fC (.str (")" : Str))) fNil))))) (inF (fTup (fCons (fC (.str ("told" : Str))) (fCons (fzF (fOp kItem (fVar 5) (fC (.int 1)))) (fCons (fzF (fOp kAdd (fzF (fOp kItem (fVar 5) (fC (.int 2)))) (fC (.int 1)))) fNil))))) (inF (fTup (fCons (fC (.str ("wrong" : Str))) (fCons (fzF (fOp kItem (fVar 5) (fC (.int 2)))) fNil))))))
  gNx)))))))
theorem b__law_tt_unit_in {P : Program} {w : World} {K : PySem.W.Frag} {mg : Str → Option Value} {base : Heap} {r__law_tt_sketch_in : AL → List D → Fr} {j : Nat} (hf : ∀ (i : Nat) (x : Str), frees[i]? = some x → mg x = none) (F__law_tt_within : FF P w K mg base 4 ("_law_tt_within" : Str) 4 g__law_tt_within) (F__law_tt_sketch_in : FF P w K mg base (4 + j) ("_law_tt_sketch_in" : Str) 3 r__law_tt_sketch_in) {cdv : Value} {A : Around} {outer : List Env} {s : Shared} {H : Hp} {E : XK} {f : Addr}
    (C : Ctx (cxOf (L2N.CX P w) P w K mg base ["words_now", "at", "depth", "word", "top", "share"] "_law_tt_unit_in" (defScope s__law_tt_unit_in) f cdv A outer s H E) E (4 + j)) : DSs (cxOf (L2N.CX P w) P w K mg base ["words_now", "at", "depth", "word", "top", "share"] "_law_tt_unit_in" (defScope s__law_tt_unit_in) f cdv A outer s H E) E (defBody s__law_tt_unit_in) (fb__law_tt_unit_in r__law_tt_sketch_in) :=
  (ss_cons (s_set 3 C ((d_if (t_cmp o_lt (d_var 1) ((d_callB c_len (hf 0 _ rfl) rfl (a_cons (d_var 0) a_nil))).toD) (d_item (d_var 0) (d_var 1)) (d_str).toE)).toD)
  (ss_cons (s_if (t_cmp o_in (d_var 3) ((d_lst (a_cons (d_str) (a_cons (d_str) (a_cons (d_str) a_nil))))).toD) (ss_cons (s_ret ((d_tup (a_cons (d_str) (a_cons (d_tup (a_cons (d_var 3) a_nil)) (a_cons ((d_bin o_add (d_var 1) d_int)).toD a_nil))))).toE)
  ss_nil) ss_nil)
  (ss_cons (s_if (t_cmp o_in (d_var 3) ((d_lst (a_cons (d_str) (a_cons (d_str) (a_cons (d_str) a_nil))))).toD) (ss_cons (s_set 4 C ((d_call C F__law_tt_within (al_cons (d_var 0) (al_cons ((d_bin o_add (d_var 1) d_int)).toD (al_cons d_int (al_cons ((d_if (t_cmp (o_eq C) (d_var 3) (d_str)) d_int.toE d_int.toE)).toD (al_nil 0))))) (alLen_cons (alLen_cons (alLen_cons (alLen_cons alLen_nil)))).at_)).toD)
  (ss_cons (s_ret (d_if (t_cmp o_isNot (d_var 4) d_non) ((d_tup (a_cons (d_str) (a_cons (d_tup (a_cons (d_var 3) (a_cons (d_var 4) a_nil))) (a_cons ((d_bin o_add (d_var 1) d_int)).toD a_nil))))).toE ((d_tup (a_cons (d_str) (a_cons ((d_callB (c_min C) (hf 2 _ rfl) rfl (a_cons ((d_bin o_add (d_var 1) d_int)).toD (a_cons ((d_callB c_len (hf 0 _ rfl) rfl (a_cons (d_var 0) a_nil))).toD a_nil)))).toD a_nil)))).toE))
  ss_nil)) ss_nil)
  (ss_cons (s_if (DW.t (w_or (t_cmp (o_ne C) (d_var 3) (d_str)) (w_or1 (t_cmp (o_eq C) (d_var 2) d_int)))) (ss_cons (s_ret ((d_tup (a_cons (d_str) (a_cons ((d_callB (c_min C) (hf 2 _ rfl) rfl (a_cons (d_var 1) (a_cons ((d_callB c_len (hf 0 _ rfl) rfl (a_cons (d_var 0) a_nil))).toD a_nil)))).toD a_nil)))).toE)
  ss_nil) ss_nil)
  (ss_cons (s_set 5 C ((d_call C F__law_tt_sketch_in (al_cons (d_var 0) (al_cons ((d_bin o_add (d_var 1) d_int)).toD (al_cons ((d_bin o_add (d_var 2) d_int)).toD (al_nil 0)))) (alLen_cons (alLen_cons (alLen_cons alLen_nil))).at_)).toD)
  (ss_cons (s_if (t_cmp (o_eq C) ((d_item (d_var 5) d_int)).toD (d_str)) (ss_cons (s_ret ((d_var 5)).toE)
  ss_nil) ss_nil)
  (ss_cons (s_ret (d_if (t_cmp (o_eq C) ((d_slice (d_var 0) (po_so ((d_item (d_var 5) d_int)).toD) (po_so ((d_bin o_add ((d_item (d_var 5) d_int)).toD d_int)).toD))).toD ((d_lst (a_cons (d_str) a_nil))).toD) ((d_tup (a_cons (d_str) (a_cons ((d_item (d_var 5) d_int)).toD (a_cons ((d_bin o_add ((d_item (d_var 5) d_int)).toD d_int)).toD a_nil))))).toE ((d_tup (a_cons (d_str) (a_cons ((d_item (d_var 5) d_int)).toD a_nil)))).toE))
  ss_nil)))))))
/-! ### _law_tt_sketch_in -/
abbrev s__law_tt_sketch_in : Stmt := top 66
def fb__law_tt_sketch_in (r__law_tt_unit_in : AL → List D → Fr) : AS → Out :=
  (gSeq (gSet 3 (fzF (fFn r__law_tt_unit_in 0 (lCons (fVar 0) (lCons (fVar 1) (lCons (fVar 2) lNil))))))
  (gSeq (gForI (fRg1 (fzF (fCall kLen (fCons (fVar 0) fNil)))) (bName 4) (gSeq (gSet 5 (fzF (fIf (fAnd (toBF (fOp kEq (fzF (fOp kItem (fVar 3) (fC (.int 0)))) (fC (.str ("told" : Str))))) (toBF (fOp kLt (fzF (fOp kItem (fVar 3) (fC (.int 2)))) (fzF (fCall kLen (fCons (fVar 0) fNil)))))) (fOp kItem (fVar 0) (fzF (fOp kItem (fVar 3) (fC (.int 2))))) (inF (fC (.str ("" : Str)))))))
  (gSeq (gIf (toBF (fOp kNotIn (fVar 5) (fzF (fLst (fCons (fC (.str ("twin" : Str))) (fCons (fC (.str ("part" : Str))) (fCons (fC (.str ("lump" : Str))) (fCons (fC (.str ("*" : Str))) fNil)))))))) (gSeq (gRet (inF (fVar 3)))
  gNx) gNx)
  (gSeq (gPar2 6 7 (fOp kItem (fVar 3) (fC (.int 1))) (fOp kAdd (fzF (fOp kItem (fVar 3) (fC (.int 2)))) (fC (.int 1))))
  (gSeq (gIf (toBF (fOp kEq (fVar 5) (fC (.str ("twin" : Str))))) (gSeq (gSet 3 (fTup (fCons (fC (.str ("told" : Str))) (fCons (fTup (fCons (fC (.str ("twin" : Str))) (fCons (fVar 6) fNil))) (fCons (fVar 7) fNil)))))
  gNx) (gSeq (gIf (toBF (fOp kEq (fVar 5) (fC (.str ("*" : Str))))) (gSeq (gSet 8 (fzF (fFn r__law_tt_unit_in 0 (lCons (fVar 0) (lCons (fVar 7) (lCons (fVar 2) lNil))))))
  (gSeq (gSet 3 (fzF (fIf (toBF (fOp kEq (fzF (fOp kItem (fVar 8) (fC (.int 0)))) (fC (.str ("wrong" : Str))))) (inF (fVar 8)) (inF (fTup (fCons (fC (.str ("told" : Str))) (fCons (fTup (fCons (fC (.str ("product" : Str))) (fCons (fVar 6) (fCons (fzF (fOp kItem (fVar 8) (fC (.int 1)))) fNil)))) (fCons (fzF (fOp kItem (fVar 8) (fC (.int 2)))) fNil))))))))
  gNx)) (gSeq (gSet 9 (fzF (fFn g__law_tt_listed 0 (lCons (fVar 0) (lCons (fVar 7) (lCons (fzF (fOp kEq (fVar 5) (fC (.str ("part" : Str))))) (lCons (fC (.int 13)) lNil)))))))
  (gSeq (gSet 10 (fAndV (fzF (fOp kIsNot (fVar 9) (fC .none))) (fzF (fOp kLt (fzF (fCall kLen (fCons (fVar 9) fNil))) (fC (.int 14))))))
  (gSeq (gSet 3 (fzF (fIf (fTru (fVar 10)) (inF (fTup (fCons (fC (.str ("told" : Str))) (fCons (fTup (fCons (fVar 5) (fCons (fVar 6) (fCons (fVar 9) fNil)))) (fCons (fzF (fOp kAdd (fVar 7) (fC (.int 1)))) fNil))))) (inF (fTup (fCons (fC (.str ("wrong" : Str))) (fCons (fzF (fCall kMin (fCons (fVar 7) (fCons (fzF (fCall kLen (fCons (fVar 0) fNil))) fNil)))) fNil)))))))
  gNx))))
  gNx))
  gNx)))) [4, 5, 6, 7, 8, 9, 10])
  (gSeq (gRet (inF (fVar 3)))
  gNx)))
theorem b__law_tt_sketch_in {P : Program} {w : World} {K : PySem.W.Frag} {mg : Str → Option Value} {base : Heap} {r__law_tt_unit_in : AL → List D → Fr} {j : Nat} (hf : ∀ (i : Nat) (x : Str), frees[i]? = some x → mg x = none) (F__law_tt_unit_in : FF P w K mg base (4 + j) ("_law_tt_unit_in" : Str) 3 r__law_tt_unit_in) (F__law_tt_listed : FF P w K mg base 4 ("_law_tt_listed" : Str) 4 g__law_tt_listed) {cdv : Value} {A : Around} {outer : List Env} {s : Shared} {H : Hp} {E : XK} {f : Addr}
    (C : Ctx (cxOf (L2N.CX P w) P w K mg base ["words_now", "at", "depth", "share", "go", "word", "one", "here", "two", "lot", "is_one"] "_law_tt_sketch_in" (defScope s__law_tt_sketch_in) f cdv A outer s H E) E (4 + j)) : DSs (cxOf (L2N.CX P w) P w K mg base ["words_now", "at", "depth", "share", "go", "word", "one", "here", "two", "lot", "is_one"] "_law_tt_sketch_in" (defScope s__law_tt_sketch_in) f cdv A outer s H E) E (defBody s__law_tt_sketch_in) (fb__law_tt_sketch_in r__law_tt_unit_in) :=
  (ss_cons (s_set 3 C ((d_call C F__law_tt_unit_in (al_cons (d_var 0) (al_cons (d_var 1) (al_cons (d_var 2) (al_nil 0)))) (alLen_cons (alLen_cons (alLen_cons alLen_nil))).at_)).toD)
  (ss_cons (s_for C [4, 5, 6, 7, 8, 9, 10] (i_rg1 ((d_callB c_len (hf 0 _ rfl) rfl (a_cons (d_var 0) a_nil))).toD (hf 11 _ rfl)) (g_name 4 C.nd) (ss_cons (s_set 5 C ((d_if (DW.t (w_and (t_cmp (o_eq C) ((d_item (d_var 3) d_int)).toD (d_str)) (w_and1 (t_cmp o_lt ((d_item (d_var 3) d_int)).toD ((d_callB c_len (hf 0 _ rfl) rfl (a_cons (d_var 0) a_nil))).toD)))) (d_item (d_var 0) ((d_item (d_var 3) d_int)).toD) (d_str).toE)).toD)
  (ss_cons (s_if (t_cmp o_notIn (d_var 5) ((d_lst (a_cons (d_str) (a_cons (d_str) (a_cons (d_str) (a_cons (d_str) a_nil)))))).toD) (ss_cons (s_ret ((d_var 3)).toE)
  ss_nil) ss_nil)
  (ss_cons (s_par2 6 7 C (d_item (d_var 3) d_int) (d_bin o_add ((d_item (d_var 3) d_int)).toD d_int))
  (ss_cons (s_if (t_cmp (o_eq C) (d_var 5) (d_str)) (ss_cons (s_set 3 C (d_tup (a_cons (d_str) (a_cons (d_tup (a_cons (d_str) (a_cons (d_var 6) a_nil))) (a_cons (d_var 7) a_nil)))))
  ss_nil) (ss_cons (s_if (t_cmp (o_eq C) (d_var 5) (d_str)) (ss_cons (s_set 8 C ((d_call C F__law_tt_unit_in (al_cons (d_var 0) (al_cons (d_var 7) (al_cons (d_var 2) (al_nil 0)))) (alLen_cons (alLen_cons (alLen_cons alLen_nil))).at_)).toD)
  (ss_cons (s_set 3 C ((d_if (t_cmp (o_eq C) ((d_item (d_var 8) d_int)).toD (d_str)) ((d_var 8)).toE ((d_tup (a_cons (d_str) (a_cons (d_tup (a_cons (d_str) (a_cons (d_var 6) (a_cons ((d_item (d_var 8) d_int)).toD a_nil)))) (a_cons ((d_item (d_var 8) d_int)).toD a_nil))))).toE)).toD)
  ss_nil)) (ss_cons (s_set 9 C ((d_call C F__law_tt_listed (al_cons (d_var 0) (al_cons (d_var 7) (al_cons ((d_cmp (o_eq C) (d_var 5) (d_str))).toD (al_cons d_int (al_nil 0))))) (alLen_cons (alLen_cons (alLen_cons (alLen_cons alLen_nil)))).at_)).toD)
  (ss_cons (s_set 10 C (v_and ((d_cmp o_isNot (d_var 9) d_non)).toD (v_one ((d_cmp o_lt ((d_callB c_len (hf 0 _ rfl) rfl (a_cons (d_var 9) a_nil))).toD d_int)).toD)))
  (ss_cons (s_set 3 C ((d_if (t_val (d_var 10)) ((d_tup (a_cons (d_str) (a_cons (d_tup (a_cons (d_var 5) (a_cons (d_var 6) (a_cons (d_var 9) a_nil)))) (a_cons ((d_bin o_add (d_var 7) d_int)).toD a_nil))))).toE ((d_tup (a_cons (d_str) (a_cons ((d_callB (c_min C) (hf 2 _ rfl) rfl (a_cons (d_var 7) (a_cons ((d_callB c_len (hf 0 _ rfl) rfl (a_cons (d_var 0) a_nil))).toD a_nil)))).toD a_nil)))).toE)).toD)
  ss_nil))))
  ss_nil))
  ss_nil)))))
  (ss_cons (s_ret ((d_var 3)).toE)
  ss_nil)))
def q_rd : Nat → (AL → List D → Fr) × (AL → List D → Fr)
  | 0 => (fun _ _ => .stuck, fun _ _ => .stuck)
  | n + 1 => ((fun as ld => finF as (fb__law_tt_unit_in ((q_rd n)).2 (S0 6 as ld))), (fun as ld => finF as (fb__law_tt_sketch_in ((q_rd n)).1 (S0 11 as ld))))
def g__law_tt_unit_in (n : Nat) : AL → List D → Fr := ((q_rd n)).1
def g__law_tt_sketch_in (n : Nat) : AL → List D → Fr := ((q_rd n)).2
theorem ff_rd {P : Program} {w : World} {K : PySem.W.Frag} {mg : Str → Option Value} {base : Heap} {f__law_tt_unit_in : Addr} {fd__law_tt_unit_in : FuncData} (F0__law_tt_unit_in : FunD K "_law_tt_unit_in" "_law_tt_unit_in" (defArgs s__law_tt_unit_in) (defBody s__law_tt_unit_in) (defScope s__law_tt_unit_in) [] [] f__law_tt_unit_in fd__law_tt_unit_in) (hm__law_tt_unit_in : mg ("_law_tt_unit_in" : Str) = some (.ref f__law_tt_unit_in)) {f__law_tt_sketch_in : Addr} {fd__law_tt_sketch_in : FuncData} (F0__law_tt_sketch_in : FunD K "_law_tt_sketch_in" "_law_tt_sketch_in" (defArgs s__law_tt_sketch_in) (defBody s__law_tt_sketch_in) (defScope s__law_tt_sketch_in) [] [] f__law_tt_sketch_in fd__law_tt_sketch_in) (hm__law_tt_sketch_in : mg ("_law_tt_sketch_in" : Str) = some (.ref f__law_tt_sketch_in)) (hf : ∀ (i : Nat) (x : Str), frees[i]? = some x → mg x = none) (F__law_tt_within : FF P w K mg base 4 ("_law_tt_within" : Str) 4 g__law_tt_within) (F__law_tt_listed : FF P w K mg base 4 ("_law_tt_listed" : Str) 4 g__law_tt_listed) : ∀ n : Nat, FF P w K mg base (4 + n) ("_law_tt_unit_in" : Str) 3 (g__law_tt_unit_in n) ∧ FF P w K mg base (4 + n) ("_law_tt_sketch_in" : Str) 3 (g__law_tt_sketch_in n)
  | 0 => ⟨ff_z (ps := ["words_now", "at", "depth"]) F0__law_tt_unit_in hm__law_tt_unit_in (fun _ _ _ _ _ _ us hl => match us, hl with | [_, _, _], _ => rfl) (fun as ld => rfl),
    ff_z (ps := ["words_now", "at", "depth"]) F0__law_tt_sketch_in hm__law_tt_sketch_in (fun _ _ _ _ _ _ us hl => match us, hl with | [_, _, _], _ => rfl) (fun as ld => rfl)⟩
  | n + 1 => by
    have ih := ff_rd (P := P) (w := w) (K := K) (mg := mg) (base := base) F0__law_tt_unit_in hm__law_tt_unit_in F0__law_tt_sketch_in hm__law_tt_sketch_in hf F__law_tt_within F__law_tt_listed n
    obtain ⟨F__law_tt_unit_in, F__law_tt_sketch_in⟩ := ih
    exact ⟨fn_d (N := ["words_now", "at", "depth", "word", "top", "share"]) (ps := ["words_now", "at", "depth"]) F0__law_tt_unit_in ⟨rfl, rfl, rfl, by decide +kernel, rfl, by decide +kernel, by decide +kernel⟩ hm__law_tt_unit_in (fun _ _ _ _ _ _ us hl => match us, hl with | [_, _, _], _ => rfl) (fun cdv A outer s H E C => b__law_tt_unit_in hf F__law_tt_within F__law_tt_sketch_in C) (fun as ld h => .inr rfl),
    fn_d (N := ["words_now", "at", "depth", "share", "go", "word", "one", "here", "two", "lot", "is_one"]) (ps := ["words_now", "at", "depth"]) F0__law_tt_sketch_in ⟨rfl, rfl, rfl, by decide +kernel, rfl, by decide +kernel, by decide +kernel⟩ hm__law_tt_sketch_in (fun _ _ _ _ _ _ us hl => match us, hl with | [_, _, _], _ => rfl) (fun cdv A outer s H E C => b__law_tt_sketch_in hf F__law_tt_unit_in F__law_tt_listed C) (fun as ld h => .inr rfl)⟩
/-! ### _law_tt_sketch_read -/
abbrev s__law_tt_sketch_read : Stmt := top 67
def fb__law_tt_sketch_read  : AS → Out :=
  (gSeq (gSet 1 (fzF (fFn g__law_tt_lines 0 (lCons (fVar 0) lNil))))
  (gSeq (gSet 2 (fzF (fFn g__law_tt_end 0 (lCons (fzF (fOp kItem (fVar 1) (fC (.int 0)))) (lCons (fzF (fFn (g__law_tt_sketch_in 46) 0 (lCons (fzF (fOp kItem (fVar 1) (fC (.int 0)))) (lCons (fC (.int 0)) (lCons (fC (.int 0)) lNil))))) lNil)))))
  (gSeq (gIf (fAnd (toBF (fOp kEq (fzF (fOp kItem (fVar 2) (fC (.int 0)))) (fC (.str ("told" : Str))))) (fOr (toBF (fOp kGt (fzF (fFn (g__law_tt_deep 200) 0 (lCons (fzF (fOp kItem (fVar 2) (fC (.int 1)))) lNil))) (fC (.int 20)))) (toBF (fOp kGt (fzF (fFn (g__law_tt_leaves 200) 0 (lCons (fzF (fOp kItem (fVar 2) (fC (.int 1)))) lNil))) (fC (.int 100)))))) (gSeq (gSet 2 (fTup (fCons (fC (.str ("wrong" : Str))) (fCons (fzF (fCall kLen (fCons (fzF (fOp kItem (fVar 1) (fC (.int 0)))) fNil))) fNil))))
  gNx) gNx)
  (gSeq (gRet (fFn g__law_tt_one_line 0 (lCons (fVar 1) (lCons (fVar 2) lNil))))
  gNx))))
theorem b__law_tt_sketch_read {P : Program} {w : World} {K : PySem.W.Frag} {mg : Str → Option Value} {base : Heap}   (hf : ∀ (i : Nat) (x : Str), frees[i]? = some x → mg x = none) (F__law_tt_lines : FF P w K mg base 3 ("_law_tt_lines" : Str) 1 g__law_tt_lines) (F__law_tt_end : FF P w K mg base 3 ("_law_tt_end" : Str) 2 g__law_tt_end) (F__law_tt_sketch_in : FF P w K mg base 50 ("_law_tt_sketch_in" : Str) 3 (g__law_tt_sketch_in 46)) (F__law_tt_deep : FF P w K mg base 204 ("_law_tt_deep" : Str) 1 (g__law_tt_deep 200)) (F__law_tt_leaves : FF P w K mg base 204 ("_law_tt_leaves" : Str) 1 (g__law_tt_leaves 200)) (F__law_tt_one_line : FF P w K mg base 4 ("_law_tt_one_line" : Str) 2 g__law_tt_one_line) {cdv : Value} {A : Around} {outer : List Env} {s : Shared} {H : Hp} {E : XK} {f : Addr}
    (C : Ctx (cxOf (L2N.CX P w) P w K mg base ["text", "lines", "share"] "_law_tt_sketch_read" (defScope s__law_tt_sketch_read) f cdv A outer s H E) E 204) : DSs (cxOf (L2N.CX P w) P w K mg base ["text", "lines", "share"] "_law_tt_sketch_read" (defScope s__law_tt_sketch_read) f cdv A outer s H E) E (defBody s__law_tt_sketch_read) (fb__law_tt_sketch_read ) :=
  (ss_cons (s_set 1 C ((d_call C F__law_tt_lines (al_cons (d_var 0) (al_nil 0)) (alLen_cons alLen_nil).at_)).toD)
  (ss_cons (s_set 2 C ((d_call C F__law_tt_end (al_cons ((d_item (d_var 1) d_int)).toD (al_cons ((d_call C F__law_tt_sketch_in (al_cons ((d_item (d_var 1) d_int)).toD (al_cons d_int (al_cons d_int (al_nil 0)))) (alLen_cons (alLen_cons (alLen_cons alLen_nil))).at_)).toD (al_nil 0))) (alLen_cons (alLen_cons alLen_nil)).at_)).toD)
  (ss_cons (s_if (DW.t (w_and (t_cmp (o_eq C) ((d_item (d_var 2) d_int)).toD (d_str)) (w_and1 (DW.t (w_or (t_cmp o_gt ((d_call C F__law_tt_deep (al_cons ((d_item (d_var 2) d_int)).toD (al_nil 0)) (alLen_cons alLen_nil).at_)).toD d_int) (w_or1 (t_cmp o_gt ((d_call C F__law_tt_leaves (al_cons ((d_item (d_var 2) d_int)).toD (al_nil 0)) (alLen_cons alLen_nil).at_)).toD d_int))))))) (ss_cons (s_set 2 C (d_tup (a_cons (d_str) (a_cons ((d_callB c_len (hf 0 _ rfl) rfl (a_cons ((d_item (d_var 1) d_int)).toD a_nil))).toD a_nil))))
  ss_nil) ss_nil)
  (ss_cons (s_ret (d_call C F__law_tt_one_line (al_cons (d_var 1) (al_cons (d_var 2) (al_nil 0))) (alLen_cons (alLen_cons alLen_nil)).at_))
  ss_nil))))
def g__law_tt_sketch_read : AL → List D → Fr := fun as ld => finF as (fb__law_tt_sketch_read (S0 3 as ld))
theorem ff__law_tt_sketch_read {P : Program} {w : World} {K : PySem.W.Frag} {mg : Str → Option Value} {base : Heap} {f : Addr} {fd : FuncData} (F : FunD K "_law_tt_sketch_read" "_law_tt_sketch_read" (defArgs s__law_tt_sketch_read) (defBody s__law_tt_sketch_read) (defScope s__law_tt_sketch_read) [] [] f fd) (hm : mg ("_law_tt_sketch_read" : Str) = some (.ref f)) (hf : ∀ (i : Nat) (x : Str), frees[i]? = some x → mg x = none) (F__law_tt_lines : FF P w K mg base 3 ("_law_tt_lines" : Str) 1 g__law_tt_lines) (F__law_tt_end : FF P w K mg base 3 ("_law_tt_end" : Str) 2 g__law_tt_end) (F__law_tt_sketch_in : FF P w K mg base 50 ("_law_tt_sketch_in" : Str) 3 (g__law_tt_sketch_in 46)) (F__law_tt_deep : FF P w K mg base 204 ("_law_tt_deep" : Str) 1 (g__law_tt_deep 200)) (F__law_tt_leaves : FF P w K mg base 204 ("_law_tt_leaves" : Str) 1 (g__law_tt_leaves 200)) (F__law_tt_one_line : FF P w K mg base 4 ("_law_tt_one_line" : Str) 2 g__law_tt_one_line) : FF P w K mg base 205 ("_law_tt_sketch_read" : Str) 1 g__law_tt_sketch_read :=
  fn_d (N := ["text", "lines", "share"]) (ps := ["text"]) F ⟨rfl, rfl, rfl, by decide +kernel, rfl, by decide +kernel, by decide +kernel⟩ hm (fun _ _ _ _ _ _ us hl => match us, hl with | [_], _ => rfl) (fun cdv A outer s H E C => b__law_tt_sketch_read hf F__law_tt_lines F__law_tt_end F__law_tt_sketch_in F__law_tt_deep F__law_tt_leaves F__law_tt_one_line C) (fun as ld h => .inr rfl)
/-! ### _law_tt_word_drawn -/
abbrev s__law_tt_word_drawn : Stmt := top 68
def fb__law_tt_word_drawn  : AS → Out :=
  (gSeq (gSet 1 (fzF (fLst (fCons (fC (.str ("" : Str))) (fCons (fC (.str ("0" : Str))) (fCons (fC (.str ("1" : Str))) (fCons (fC (.str ("2" : Str))) (fCons (fC (.str ("3" : Str))) (fCons (fC (.str ("12" : Str))) (fCons (fC (.str ("13" : Str))) (fCons (fC (.str ("19" : Str))) (fCons (fC (.str ("20" : Str))) (fCons (fC (.str ("21" : Str))) (fCons (fC (.str ("00" : Str))) (fCons (fC (.str ("-1" : Str))) (fCons (fC (.str ("x" : Str))) (fCons (fC (.str ("0,1" : Str))) (fCons (fC (.str ("0,1,2" : Str))) (fCons (fC (.str ("1,0" : Str))) (fCons (fC (.str ("1,1" : Str))) fNil))))))))))))))))))))
  (gSeq (gSet 1 (fzF (fOp kAdd (fVar 1) (fzF (fLst (fCons (fC (.str ("," : Str))) (fCons (fC (.str ("0," : Str))) (fCons (fzF (fOp kMul (fC (.str ("9" : Str))) (fC (.int 20)))) (fCons (fzF (fOp kAdd (fC (.str ("1" : Str))) (fzF (fOp kMul (fC (.str ("0" : Str))) (fC (.int 20)))))) (fCons (fC (.str ("book" : Str))) (fCons (fC (.str ("turns" : Str))) (fCons (fC (.str ("then" : Str))) (fCons (fC (.str ("web" : Str))) (fCons (fC (.str ("tie" : Str))) (fCons (fC (.str ("vague" : Str))) (fCons (fC (.str ("lot" : Str))) fNil))))))))))))))))
  (gSeq (gSet 1 (fzF (fOp kAdd (fVar 1) (fzF (fLst (fCons (fC (.str ("views" : Str))) (fCons (fC (.str ("view" : Str))) (fCons (fC (.str ("told" : Str))) (fCons (fC (.str ("ring" : Str))) (fCons (fC (.str ("path" : Str))) (fCons (fC (.str ("fold" : Str))) (fCons (fC (.str ("four" : Str))) (fCons (fC (.str ("row" : Str))) (fCons (fC (.str ("rows" : Str))) (fCons (fC (.str ("steps" : Str))) (fCons (fC (.str ("step" : Str))) (fCons (fC (.str ("hard" : Str))) fNil)))))))))))))))))
  (gSeq (gSet 1 (fzF (fOp kAdd (fVar 1) (fzF (fLst (fCons (fC (.str ("turn" : Str))) (fCons (fC (.str ("looks" : Str))) (fCons (fC (.str ("thing" : Str))) (fCons (fC (.str ("teller" : Str))) (fCons (fC (.str ("gone" : Str))) (fCons (fC (.str ("tell" : Str))) (fCons (fC (.str ("hush" : Str))) (fCons (fC (.str ("undo" : Str))) (fCons (fC (.str ("redo" : Str))) (fCons (fC (.str ("chain" : Str))) (fCons (fC (.str ("all" : Str))) (fCons (fC (.str ("star" : Str))) fNil)))))))))))))))))
  (gSeq (gSet 1 (fzF (fOp kAdd (fVar 1) (fzF (fLst (fCons (fC (.str ("order" : Str))) (fCons (fC (.str ("nest" : Str))) (fCons (fC (.str ("span" : Str))) (fCons (fC (.str ("far" : Str))) (fCons (fC (.str ("rank" : Str))) (fCons (fC (.str ("dial" : Str))) (fCons (fC (.str ("twin" : Str))) (fCons (fC (.str ("part" : Str))) (fCons (fC (.str ("lump" : Str))) fNil))))))))))))))
  (gSeq (gRet (fFn g__law_one 0 (lLoan 0 (lCons (fzF (fOp kAdd (fVar 1) (fzF (fLst (fCons (fC (.str ("*" : Str))) (fCons (fC (.str ("(" : Str))) (fCons (fC (.str (")" : Str))) fNil))))))) lNil))))
  gNx))))))
theorem b__law_tt_word_drawn {P : Program} {w : World} {K : PySem.W.Frag} {mg : Str → Option Value} {base : Heap}   (hf : ∀ (i : Nat) (x : Str), frees[i]? = some x → mg x = none) (F__law_one : FF P w K mg base 4 ("_law_one" : Str) 2 g__law_one) {cdv : Value} {A : Around} {outer : List Env} {s : Shared} {H : Hp} {E : XK} {f : Addr}
    (C : Ctx (cxOf (L2N.CX P w) P w K mg base ["jar", "some"] "_law_tt_word_drawn" (defScope s__law_tt_word_drawn) f cdv A outer s H E) E 4) : DSs (cxOf (L2N.CX P w) P w K mg base ["jar", "some"] "_law_tt_word_drawn" (defScope s__law_tt_word_drawn) f cdv A outer s H E) E (defBody s__law_tt_word_drawn) (fb__law_tt_word_drawn ) :=
  (ss_cons (s_set 1 C ((d_lst (a_cons (d_str) (a_cons (d_str) (a_cons (d_str) (a_cons (d_str) (a_cons (d_str) (a_cons (d_str) (a_cons (d_str) (a_cons (d_str) (a_cons (d_str) (a_cons (d_str) (a_cons (d_str) (a_cons (d_str) (a_cons (d_str) (a_cons (d_str) (a_cons (d_str) (a_cons (d_str) (a_cons (d_str) a_nil))))))))))))))))))).toD)
  (ss_cons (s_set 1 C ((d_bin o_add (d_var 1) ((d_lst (a_cons (d_str) (a_cons (d_str) (a_cons ((d_bin o_mul (d_str) d_int)).toD (a_cons ((d_bin o_add (d_str) ((d_bin o_mul (d_str) d_int)).toD)).toD (a_cons (d_str) (a_cons (d_str) (a_cons (d_str) (a_cons (d_str) (a_cons (d_str) (a_cons (d_str) (a_cons (d_str) a_nil))))))))))))).toD)).toD)
  (ss_cons (s_set 1 C ((d_bin o_add (d_var 1) ((d_lst (a_cons (d_str) (a_cons (d_str) (a_cons (d_str) (a_cons (d_str) (a_cons (d_str) (a_cons (d_str) (a_cons (d_str) (a_cons (d_str) (a_cons (d_str) (a_cons (d_str) (a_cons (d_str) (a_cons (d_str) a_nil)))))))))))))).toD)).toD)
  (ss_cons (s_set 1 C ((d_bin o_add (d_var 1) ((d_lst (a_cons (d_str) (a_cons (d_str) (a_cons (d_str) (a_cons (d_str) (a_cons (d_str) (a_cons (d_str) (a_cons (d_str) (a_cons (d_str) (a_cons (d_str) (a_cons (d_str) (a_cons (d_str) (a_cons (d_str) a_nil)))))))))))))).toD)).toD)
  (ss_cons (s_set 1 C ((d_bin o_add (d_var 1) ((d_lst (a_cons (d_str) (a_cons (d_str) (a_cons (d_str) (a_cons (d_str) (a_cons (d_str) (a_cons (d_str) (a_cons (d_str) (a_cons (d_str) (a_cons (d_str) a_nil))))))))))).toD)).toD)
  (ss_cons (s_ret (d_call C F__law_one (al_loan (al_cons ((d_bin o_add (d_var 1) ((d_lst (a_cons (d_str) (a_cons (d_str) (a_cons (d_str) a_nil))))).toD)).toD (al_nil 0))) (alLen_loan (alLen_cons alLen_nil)).at_))
  ss_nil))))))
def g__law_tt_word_drawn : AL → List D → Fr := fun as ld => finF as (fb__law_tt_word_drawn (S0 2 as ld))
theorem ff__law_tt_word_drawn {P : Program} {w : World} {K : PySem.W.Frag} {mg : Str → Option Value} {base : Heap} {f : Addr} {fd : FuncData} (F : FunD K "_law_tt_word_drawn" "_law_tt_word_drawn" (defArgs s__law_tt_word_drawn) (defBody s__law_tt_word_drawn) (defScope s__law_tt_word_drawn) [] [] f fd) (hm : mg ("_law_tt_word_drawn" : Str) = some (.ref f)) (hf : ∀ (i : Nat) (x : Str), frees[i]? = some x → mg x = none) (F__law_one : FF P w K mg base 4 ("_law_one" : Str) 2 g__law_one) : FF P w K mg base 5 ("_law_tt_word_drawn" : Str) 1 g__law_tt_word_drawn :=
  fn_d (N := ["jar", "some"]) (ps := ["jar"]) F ⟨rfl, rfl, rfl, by decide +kernel, rfl, by decide +kernel, by decide +kernel⟩ hm (fun _ _ _ _ _ _ us hl => match us, hl with | [_], _ => rfl) (fun cdv A outer s H E C => b__law_tt_word_drawn hf F__law_one C) (fun as ld h => .inr rfl)
/-! ### _law_tt_otherwise -/
abbrev s__law_tt_otherwise : Stmt := top 69
def fb__law_tt_otherwise  : AS → Out :=
  (gSeq (gPar2 2 3 (fSplit (fVar 1) (fC (.str ("\n" : Str)))) (fFn g__law_take 0 (lLoan 0 (lCons (fC (.int 12)) lNil))))
  (gSeq (gPar2 4 5 (fFn g__law_take 0 (lLoan 0 (lCons (fzF (fPeekLen 2)) lNil))) (fFn g__law_take 0 (lLoan 0 (lCons (fzF (fPeekLen 2)) lNil))))
  (gSeq (gSet 6 (fzF (fSplit (fzF (fPeekItem 2 (fVar 4))) (fC (.str (" " : Str))))))
  (gSeq (gPar2 7 8 (fFn g__law_take 0 (lLoan 0 (lCons (fzF (fCall kLen (fCons (fVar 6) fNil))) lNil))) (fFn g__law_take 0 (lLoan 0 (lCons (fzF (fOp kAdd (fzF (fCall kLen (fCons (fVar 6) fNil))) (fC (.int 1)))) lNil))))
  (gSeq (gIf (toBF (fOp kLt (fVar 3) (fC (.int 4)))) (gSeq (gPut 2 (fzF (fJoin (fC (.str (" " : Str))) (fzF (fOp kAdd (fzF (fOp kAdd (fzF (fSlice (fVar 6) fNoPart (fPart (fVar 7)))) (fzF (fLst (fCons (fzF (fFn g__law_tt_word_drawn 0 (lLoan 0 lNil))) fNil))))) (fzF (fSlice (fVar 6) (fPart (fzF (fOp kAdd (fVar 7) (fC (.int 1))))) fNoPart)))))) (fVar 4))
  gNx) gNx)
  (gSeq (gIf (toBF (fOp kIn (fVar 3) (fzF (fLst (fCons (fC (.int 4)) (fCons (fC (.int 5)) fNil)))))) (gSeq (gSet 9 (fzF (fIf (toBF (fOp kEq (fVar 3) (fC (.int 4)))) (fFn g__law_tt_word_drawn 0 (lLoan 0 lNil)) (fOp kItem (fVar 6) (fVar 7)))))
  (gSeq (gPut 2 (fzF (fJoin (fC (.str (" " : Str))) (fzF (fOp kAdd (fzF (fOp kAdd (fzF (fSlice (fVar 6) fNoPart (fPart (fVar 8)))) (fzF (fLst (fCons (fVar 9) fNil))))) (fzF (fSlice (fVar 6) (fPart (fVar 8)) fNoPart)))))) (fVar 4))
  gNx)) gNx)
  (gSeq (gIf (toBF (fOp kEq (fVar 3) (fC (.int 6)))) (gSeq (gPut 2 (fzF (fJoin (fC (.str (" " : Str))) (fzF (fOp kAdd (fzF (fSlice (fVar 6) fNoPart (fPart (fVar 7)))) (fzF (fSlice (fVar 6) (fPart (fzF (fOp kAdd (fVar 7) (fC (.int 1))))) fNoPart)))))) (fVar 4))
  gNx) gNx)
  (gSeq (gIf (toBF (fOp kEq (fVar 3) (fC (.int 7)))) (gSeq (gSet 10 (fzF (fOp kEq (fzF (fFn g__law_take 0 (lLoan 0 (lCons (fC (.int 2)) lNil)))) (fC (.int 0)))))
  (gSeq (gSetO 2 (fIf (fTru (fVar 10)) (fOp kAdd (fzF (fSlice (fVar 2) fNoPart (fPart (fVar 4)))) (fzF (fSlice (fVar 2) (fPart (fzF (fOp kAdd (fVar 4) (fC (.int 1))))) fNoPart))) (fOp kAdd (fzF (fSlice (fVar 2) fNoPart (fPart (fzF (fOp kAdd (fVar 4) (fC (.int 1))))))) (fzF (fSlice (fVar 2) (fPart (fVar 4)) fNoPart)))))
  gNx)) gNx)
  (gSeq (gIf (toBF (fOp kEq (fVar 3) (fC (.int 8)))) (gSeq (gPut2 2 (fzF (fPeekItem 2 (fVar 5))) (fzF (fPeekItem 2 (fVar 4))) (fVar 4) (fVar 5))
  gNx) gNx)
  (gSeq (gIf (toBF (fOp kEq (fVar 3) (fC (.int 9)))) (gSeq (gSet 9 (fzF (fFn g__law_one 0 (lLoan 0 (lCons (fzF (fLst (fCons (fC (.str ("" : Str))) (fCons (fC (.str (" " : Str))) (fCons (fC (.str ("x" : Str))) (fCons (fzF (fOp kAdd (fzF (fPeekItem 2 (fVar 4))) (fC (.str (" " : Str))))) (fCons (fzF (fJoin (fC (.str (" " : Str))) (fzF (fSlice (fVar 6) fNoPart (fPart (fVar 8)))))) fNil))))))) lNil)))))
  (gSeq (gSetO 2 (fOp kAdd (fzF (fOp kAdd (fzF (fSlice (fVar 2) fNoPart (fPart (fVar 4)))) (fzF (fLst (fCons (fVar 9) fNil))))) (fzF (fSlice (fVar 2) (fPart (fVar 4)) fNoPart))))
  gNx)) gNx)
  (gSeq (gIf (toBF (fOp kLt (fVar 3) (fC (.int 10)))) (gSeq (gRet (fJoin (fC (.str ("\n" : Str))) (fVar 2)))
  gNx) gNx)
  (gSeq (gPar2 11 12 (fFn g__law_take 0 (lLoan 0 (lCons (fzF (fOp kAdd (fzF (fCall kLen (fCons (fVar 1) fNil))) (fC (.int 1)))) lNil))) (fFn g__law_one 0 (lLoan 0 (lCons (fzF (fLst (fCons (fC (.str ("" : Str))) (fCons (fC (.str (" " : Str))) (fCons (fC (.str ("\n" : Str))) (fCons (fC (.str ("0" : Str))) (fCons (fC (.str ("1" : Str))) (fCons (fC (.str ("," : Str))) (fCons (fC (.str ("-" : Str))) (fCons (fC (.str ("\t" : Str))) fNil)))))))))) lNil))))
  (gSeq (gRet (fOp kAdd (fzF (fOp kAdd (fzF (fSlice (fVar 1) fNoPart (fPart (fVar 11)))) (fVar 12))) (fzF (fSlice (fVar 1) (fPart (fzF (fOp kAdd (fVar 11) (fzF (fFn g__law_take 0 (lLoan 0 (lCons (fC (.int 3)) lNil))))))) fNoPart))))
  gNx)))))))))))))
theorem b__law_tt_otherwise {P : Program} {w : World} {K : PySem.W.Frag} {mg : Str → Option Value} {base : Heap}   (hf : ∀ (i : Nat) (x : Str), frees[i]? = some x → mg x = none) (F__law_take : FF P w K mg base 3 ("_law_take" : Str) 2 g__law_take) (F__law_tt_word_drawn : FF P w K mg base 5 ("_law_tt_word_drawn" : Str) 1 g__law_tt_word_drawn) (F__law_one : FF P w K mg base 4 ("_law_one" : Str) 2 g__law_one) {cdv : Value} {A : Around} {outer : List Env} {s : Shared} {H : Hp} {E : XK} {f : Addr}
    (C : Ctx (cxOf (L2N.CX P w) P w K mg base ["jar", "text", "rows_now", "form", "at", "other", "words_now", "spot", "place", "more", "is_less", "here", "sign"] "_law_tt_otherwise" (defScope s__law_tt_otherwise) f cdv A outer s H E) E 5) : DSs (cxOf (L2N.CX P w) P w K mg base ["jar", "text", "rows_now", "form", "at", "other", "words_now", "spot", "place", "more", "is_less", "here", "sign"] "_law_tt_otherwise" (defScope s__law_tt_otherwise) f cdv A outer s H E) E (defBody s__law_tt_otherwise) (fb__law_tt_otherwise ) :=
  (ss_cons (s_par2 2 3 C (d_split (d_var 1) (d_str)) (d_call C F__law_take (al_loan (al_cons d_int (al_nil 0))) (alLen_loan (alLen_cons alLen_nil)).at_))
  (ss_cons (s_par2 4 5 C (d_call C F__law_take (al_loan (al_cons ((d_peekLen 2 (hf 0 _ rfl))).toD (al_nil 0))) (alLen_loan (alLen_cons alLen_nil)).at_) (d_call C F__law_take (al_loan (al_cons ((d_peekLen 2 (hf 0 _ rfl))).toD (al_nil 0))) (alLen_loan (alLen_cons alLen_nil)).at_))
  (ss_cons (s_set 6 C ((d_split ((d_peekItem 2 (d_var 4))).toD (d_str))).toD)
  (ss_cons (s_par2 7 8 C (d_call C F__law_take (al_loan (al_cons ((d_callB c_len (hf 0 _ rfl) rfl (a_cons (d_var 6) a_nil))).toD (al_nil 0))) (alLen_loan (alLen_cons alLen_nil)).at_) (d_call C F__law_take (al_loan (al_cons ((d_bin o_add ((d_callB c_len (hf 0 _ rfl) rfl (a_cons (d_var 6) a_nil))).toD d_int)).toD (al_nil 0))) (alLen_loan (alLen_cons alLen_nil)).at_))
  (ss_cons (s_if (t_cmp o_lt (d_var 3) d_int) (ss_cons (s_put 2 C ((d_join (d_str) ((d_bin o_add ((d_bin o_add ((d_slice (d_var 6) po_no (po_so (d_var 7)))).toD ((d_lst (a_cons ((d_call C F__law_tt_word_drawn (al_loan (al_nil 0)) (alLen_loan alLen_nil).at_)).toD a_nil))).toD)).toD ((d_slice (d_var 6) (po_so ((d_bin o_add (d_var 7) d_int)).toD) po_no)).toD)).toD)).toD (d_var 4))
  ss_nil) ss_nil)
  (ss_cons (s_if (t_cmp o_in (d_var 3) ((d_lst (a_cons d_int (a_cons d_int a_nil)))).toD) (ss_cons (s_set 9 C ((d_if (t_cmp (o_eq C) (d_var 3) d_int) (d_call C F__law_tt_word_drawn (al_loan (al_nil 0)) (alLen_loan alLen_nil).at_) (d_item (d_var 6) (d_var 7)))).toD)
  (ss_cons (s_put 2 C ((d_join (d_str) ((d_bin o_add ((d_bin o_add ((d_slice (d_var 6) po_no (po_so (d_var 8)))).toD ((d_lst (a_cons (d_var 9) a_nil))).toD)).toD ((d_slice (d_var 6) (po_so (d_var 8)) po_no)).toD)).toD)).toD (d_var 4))
  ss_nil)) ss_nil)
  (ss_cons (s_if (t_cmp (o_eq C) (d_var 3) d_int) (ss_cons (s_put 2 C ((d_join (d_str) ((d_bin o_add ((d_slice (d_var 6) po_no (po_so (d_var 7)))).toD ((d_slice (d_var 6) (po_so ((d_bin o_add (d_var 7) d_int)).toD) po_no)).toD)).toD)).toD (d_var 4))
  ss_nil) ss_nil)
  (ss_cons (s_if (t_cmp (o_eq C) (d_var 3) d_int) (ss_cons (s_set 10 C ((d_cmp (o_eq C) ((d_call C F__law_take (al_loan (al_cons d_int (al_nil 0))) (alLen_loan (alLen_cons alLen_nil)).at_)).toD d_int)).toD)
  (ss_cons (s_setO 2 C (d_if (t_val (d_var 10)) (d_bin o_add ((d_slice (d_var 2) po_no (po_so (d_var 4)))).toD ((d_slice (d_var 2) (po_so ((d_bin o_add (d_var 4) d_int)).toD) po_no)).toD) (d_bin o_add ((d_slice (d_var 2) po_no (po_so ((d_bin o_add (d_var 4) d_int)).toD))).toD ((d_slice (d_var 2) (po_so (d_var 4)) po_no)).toD)))
  ss_nil)) ss_nil)
  (ss_cons (s_if (t_cmp (o_eq C) (d_var 3) d_int) (ss_cons (s_put2 2 C ((d_peekItem 2 (d_var 5))).toD ((d_peekItem 2 (d_var 4))).toD (d_var 4) (d_var 5))
  ss_nil) ss_nil)
  (ss_cons (s_if (t_cmp (o_eq C) (d_var 3) d_int) (ss_cons (s_set 9 C ((d_call C F__law_one (al_loan (al_cons ((d_lst (a_cons (d_str) (a_cons (d_str) (a_cons (d_str) (a_cons ((d_bin o_add ((d_peekItem 2 (d_var 4))).toD (d_str))).toD (a_cons ((d_join (d_str) ((d_slice (d_var 6) po_no (po_so (d_var 8)))).toD)).toD a_nil))))))).toD (al_nil 0))) (alLen_loan (alLen_cons alLen_nil)).at_)).toD)
  (ss_cons (s_setO 2 C (d_bin o_add ((d_bin o_add ((d_slice (d_var 2) po_no (po_so (d_var 4)))).toD ((d_lst (a_cons (d_var 9) a_nil))).toD)).toD ((d_slice (d_var 2) (po_so (d_var 4)) po_no)).toD))
  ss_nil)) ss_nil)
  (ss_cons (s_if (t_cmp o_lt (d_var 3) d_int) (ss_cons (s_ret (d_join (d_str) (d_var 2)))
  ss_nil) ss_nil)
  (ss_cons (s_par2 11 12 C (d_call C F__law_take (al_loan (al_cons ((d_bin o_add ((d_callB c_len (hf 0 _ rfl) rfl (a_cons (d_var 1) a_nil))).toD d_int)).toD (al_nil 0))) (alLen_loan (alLen_cons alLen_nil)).at_) (d_call C F__law_one (al_loan (al_cons ((d_lst (a_cons (d_str) (a_cons (d_str) (a_cons (d_str) (a_cons (d_str) (a_cons (d_str) (a_cons (d_str) (a_cons (d_str) (a_cons (d_str) a_nil)))))))))).toD (al_nil 0))) (alLen_loan (alLen_cons alLen_nil)).at_))
  (ss_cons (s_ret (d_bin o_add ((d_bin o_add ((d_slice (d_var 1) po_no (po_so (d_var 11)))).toD (d_var 12))).toD ((d_slice (d_var 1) (po_so ((d_bin o_add (d_var 11) ((d_call C F__law_take (al_loan (al_cons d_int (al_nil 0))) (alLen_loan (alLen_cons alLen_nil)).at_)).toD)).toD) po_no)).toD))
  ss_nil)))))))))))))
def g__law_tt_otherwise : AL → List D → Fr := fun as ld => finF as (fb__law_tt_otherwise (S0 13 as ld))
theorem ff__law_tt_otherwise {P : Program} {w : World} {K : PySem.W.Frag} {mg : Str → Option Value} {base : Heap} {f : Addr} {fd : FuncData} (F : FunD K "_law_tt_otherwise" "_law_tt_otherwise" (defArgs s__law_tt_otherwise) (defBody s__law_tt_otherwise) (defScope s__law_tt_otherwise) [] [] f fd) (hm : mg ("_law_tt_otherwise" : Str) = some (.ref f)) (hf : ∀ (i : Nat) (x : Str), frees[i]? = some x → mg x = none) (F__law_take : FF P w K mg base 3 ("_law_take" : Str) 2 g__law_take) (F__law_tt_word_drawn : FF P w K mg base 5 ("_law_tt_word_drawn" : Str) 1 g__law_tt_word_drawn) (F__law_one : FF P w K mg base 4 ("_law_one" : Str) 2 g__law_one) : FF P w K mg base 6 ("_law_tt_otherwise" : Str) 2 g__law_tt_otherwise :=
  fn_d (N := ["jar", "text", "rows_now", "form", "at", "other", "words_now", "spot", "place", "more", "is_less", "here", "sign"]) (ps := ["jar", "text"]) F ⟨rfl, rfl, rfl, by decide +kernel, rfl, by decide +kernel, by decide +kernel⟩ hm (fun _ _ _ _ _ _ us hl => match us, hl with | [_, _], _ => rfl) (fun cdv A outer s H E C => b__law_tt_otherwise hf F__law_take F__law_tt_word_drawn F__law_one C) (fun as ld h => .inr rfl)
/-! ### _law_tt_leaf_drawn -/
abbrev s__law_tt_leaf_drawn : Stmt := top 70
def fb__law_tt_leaf_drawn  : AS → Out :=
  (gSeq (gSet 1 (fzF (fLst (fCons (fTup (fCons (fC (.str ("order" : Str))) fNil)) (fCons (fTup (fCons (fC (.str ("nest" : Str))) fNil)) (fCons (fTup (fCons (fC (.str ("span" : Str))) fNil)) (fCons (fTup (fCons (fC (.str ("far" : Str))) (fCons (fC (.int 1)) fNil))) (fCons (fTup (fCons (fC (.str ("far" : Str))) (fCons (fC (.int 12)) fNil))) (fCons (fTup (fCons (fC (.str ("rank" : Str))) (fCons (fzF (fOp kAdd (fC (.int 1)) (fzF (fFn g__law_take 0 (lLoan 0 (lCons (fC (.int 12)) lNil)))))) fNil))) (fCons (fTup (fCons (fC (.str ("dial" : Str))) (fCons (fC (.int 1)) fNil))) fNil))))))))))
  (gSeq (gRet (fFn g__law_one 0 (lLoan 0 (lCons (fzF (fOp kAdd (fVar 1) (fzF (fLst (fCons (fTup (fCons (fC (.str ("far" : Str))) (fCons (fzF (fOp kAdd (fC (.int 1)) (fzF (fFn g__law_take 0 (lLoan 0 (lCons (fC (.int 5)) lNil)))))) fNil))) (fCons (fTup (fCons (fC (.str ("dial" : Str))) (fCons (fzF (fOp kAdd (fC (.int 1)) (fzF (fFn g__law_take 0 (lLoan 0 (lCons (fC (.int 13)) lNil)))))) fNil))) (fCons (fTup (fCons (fC (.str ("rank" : Str))) (fCons (fC (.int 2)) fNil))) fNil))))))) lNil))))
  gNx))
theorem b__law_tt_leaf_drawn {P : Program} {w : World} {K : PySem.W.Frag} {mg : Str → Option Value} {base : Heap}   (hf : ∀ (i : Nat) (x : Str), frees[i]? = some x → mg x = none) (F__law_take : FF P w K mg base 3 ("_law_take" : Str) 2 g__law_take) (F__law_one : FF P w K mg base 4 ("_law_one" : Str) 2 g__law_one) {cdv : Value} {A : Around} {outer : List Env} {s : Shared} {H : Hp} {E : XK} {f : Addr}
    (C : Ctx (cxOf (L2N.CX P w) P w K mg base ["jar", "some"] "_law_tt_leaf_drawn" (defScope s__law_tt_leaf_drawn) f cdv A outer s H E) E 4) : DSs (cxOf (L2N.CX P w) P w K mg base ["jar", "some"] "_law_tt_leaf_drawn" (defScope s__law_tt_leaf_drawn) f cdv A outer s H E) E (defBody s__law_tt_leaf_drawn) (fb__law_tt_leaf_drawn ) :=
  (ss_cons (s_set 1 C ((d_lst (a_cons (d_tup (a_cons (d_str) a_nil)) (a_cons (d_tup (a_cons (d_str) a_nil)) (a_cons (d_tup (a_cons (d_str) a_nil)) (a_cons (d_tup (a_cons (d_str) (a_cons d_int a_nil))) (a_cons (d_tup (a_cons (d_str) (a_cons d_int a_nil))) (a_cons (d_tup (a_cons (d_str) (a_cons ((d_bin o_add d_int ((d_call C F__law_take (al_loan (al_cons d_int (al_nil 0))) (alLen_loan (alLen_cons alLen_nil)).at_)).toD)).toD a_nil))) (a_cons (d_tup (a_cons (d_str) (a_cons d_int a_nil))) a_nil))))))))).toD)
  (ss_cons (s_ret (d_call C F__law_one (al_loan (al_cons ((d_bin o_add (d_var 1) ((d_lst (a_cons (d_tup (a_cons (d_str) (a_cons ((d_bin o_add d_int ((d_call C F__law_take (al_loan (al_cons d_int (al_nil 0))) (alLen_loan (alLen_cons alLen_nil)).at_)).toD)).toD a_nil))) (a_cons (d_tup (a_cons (d_str) (a_cons ((d_bin o_add d_int ((d_call C F__law_take (al_loan (al_cons d_int (al_nil 0))) (alLen_loan (alLen_cons alLen_nil)).at_)).toD)).toD a_nil))) (a_cons (d_tup (a_cons (d_str) (a_cons d_int a_nil))) a_nil))))).toD)).toD (al_nil 0))) (alLen_loan (alLen_cons alLen_nil)).at_))
  ss_nil))
def g__law_tt_leaf_drawn : AL → List D → Fr := fun as ld => finF as (fb__law_tt_leaf_drawn (S0 2 as ld))
theorem ff__law_tt_leaf_drawn {P : Program} {w : World} {K : PySem.W.Frag} {mg : Str → Option Value} {base : Heap} {f : Addr} {fd : FuncData} (F : FunD K "_law_tt_leaf_drawn" "_law_tt_leaf_drawn" (defArgs s__law_tt_leaf_drawn) (defBody s__law_tt_leaf_drawn) (defScope s__law_tt_leaf_drawn) [] [] f fd) (hm : mg ("_law_tt_leaf_drawn" : Str) = some (.ref f)) (hf : ∀ (i : Nat) (x : Str), frees[i]? = some x → mg x = none) (F__law_take : FF P w K mg base 3 ("_law_take" : Str) 2 g__law_take) (F__law_one : FF P w K mg base 4 ("_law_one" : Str) 2 g__law_one) : FF P w K mg base 5 ("_law_tt_leaf_drawn" : Str) 1 g__law_tt_leaf_drawn :=
  fn_d (N := ["jar", "some"]) (ps := ["jar"]) F ⟨rfl, rfl, rfl, by decide +kernel, rfl, by decide +kernel, by decide +kernel⟩ hm (fun _ _ _ _ _ _ us hl => match us, hl with | [_], _ => rfl) (fun cdv A outer s H E C => b__law_tt_leaf_drawn hf F__law_take F__law_one C) (fun as ld h => .inr rfl)
/-! ### _law_tt_list_drawn -/
abbrev s__law_tt_list_drawn : Stmt := top 71
def fb__law_tt_list_drawn  : AS → Out :=
  (gSeq (gSetO 2 (fLst fNil))
  (gSeq (gForI (fRg1 (fzF (fOp kAdd (fC (.int 1)) (fzF (fFn g__law_take 0 (lLoan 0 (lCons (fC (.int 5)) lNil))))))) (bName 3) (gSeq (gApp 2 (fzF (fFn g__law_take 0 (lLoan 0 (lCons (fC (.int 13)) lNil)))))
  gNx) [3])
  (gSeq (gRet (fIf (fTru (fVar 1)) (fSortSet (fVar 2)) (fCall kTuple (fCons (fVar 2) fNil))))
  gNx)))
theorem b__law_tt_list_drawn {P : Program} {w : World} {K : PySem.W.Frag} {mg : Str → Option Value} {base : Heap}   (hf : ∀ (i : Nat) (x : Str), frees[i]? = some x → mg x = none) (F__law_take : FF P w K mg base 3 ("_law_take" : Str) 2 g__law_take) {cdv : Value} {A : Around} {outer : List Env} {s : Shared} {H : Hp} {E : XK} {f : Addr}
    (C : Ctx (cxOf (L2N.CX P w) P w K mg base ["jar", "is_rising", "made", "go"] "_law_tt_list_drawn" (defScope s__law_tt_list_drawn) f cdv A outer s H E) E 3) : DSs (cxOf (L2N.CX P w) P w K mg base ["jar", "is_rising", "made", "go"] "_law_tt_list_drawn" (defScope s__law_tt_list_drawn) f cdv A outer s H E) E (defBody s__law_tt_list_drawn) (fb__law_tt_list_drawn ) :=
  (ss_cons (s_setO 2 C (d_lst a_nil))
  (ss_cons (s_for C [3] (i_rg1 ((d_bin o_add d_int ((d_call C F__law_take (al_loan (al_cons d_int (al_nil 0))) (alLen_loan (alLen_cons alLen_nil)).at_)).toD)).toD (hf 11 _ rfl)) (g_name 3 C.nd) (ss_cons (s_app 2 ((d_call C F__law_take (al_loan (al_cons d_int (al_nil 0))) (alLen_loan (alLen_cons alLen_nil)).at_)).toD)
  ss_nil))
  (ss_cons (s_ret (d_if (t_val (d_var 1)) (d_sortSet C (d_var 2) (hf 8 _ rfl) (hf 14 _ rfl) (hf 15 _ rfl)) (d_callTy c_tuple (hf 8 _ rfl) rfl (a_cons (d_var 2) a_nil))))
  ss_nil)))
def g__law_tt_list_drawn : AL → List D → Fr := fun as ld => finF as (fb__law_tt_list_drawn (S0 4 as ld))
theorem ff__law_tt_list_drawn {P : Program} {w : World} {K : PySem.W.Frag} {mg : Str → Option Value} {base : Heap} {f : Addr} {fd : FuncData} (F : FunD K "_law_tt_list_drawn" "_law_tt_list_drawn" (defArgs s__law_tt_list_drawn) (defBody s__law_tt_list_drawn) (defScope s__law_tt_list_drawn) [] [] f fd) (hm : mg ("_law_tt_list_drawn" : Str) = some (.ref f)) (hf : ∀ (i : Nat) (x : Str), frees[i]? = some x → mg x = none) (F__law_take : FF P w K mg base 3 ("_law_take" : Str) 2 g__law_take) : FF P w K mg base 4 ("_law_tt_list_drawn" : Str) 2 g__law_tt_list_drawn :=
  fn_d (N := ["jar", "is_rising", "made", "go"]) (ps := ["jar", "is_rising"]) F ⟨rfl, rfl, rfl, by decide +kernel, rfl, by decide +kernel, by decide +kernel⟩ hm (fun _ _ _ _ _ _ us hl => match us, hl with | [_, _], _ => rfl) (fun cdv A outer s H E C => b__law_tt_list_drawn hf F__law_take C) (fun as ld h => .inr rfl)
/-! ### _law_tt_sketch_drawn -/
abbrev s__law_tt_sketch_drawn : Stmt := top 72
def fb__law_tt_sketch_drawn (r__law_tt_sketch_drawn : AL → List D → Fr) : AS → Out :=
  (gSeq (gIf (fOr (toBF (fOp kLt (fVar 1) (fC (.int 2)))) (toBF (fOp kEq (fzF (fFn g__law_take 0 (lLoan 0 (lCons (fC (.int 5)) lNil)))) (fC (.int 0))))) (gSeq (gRet (fFn g__law_tt_leaf_drawn 0 (lLoan 0 lNil)))
  gNx) gNx)
  (gSeq (gPar2 2 3 (fFn g__law_take 0 (lLoan 0 (lCons (fC (.int 6)) lNil))) (fFn r__law_tt_sketch_drawn 0 (lLoan 0 (lCons (fzF (fOp kSub (fVar 1) (fC (.int 1)))) lNil))))
  (gSeq (gIf (toBF (fOp kLt (fVar 2) (fC (.int 2)))) (gSeq (gRet (inF (fTup (fCons (fC (.str ("product" : Str))) (fCons (fVar 3) (fCons (fzF (fFn r__law_tt_sketch_drawn 0 (lLoan 0 (lCons (fzF (fOp kSub (fzF (fOp kSub (fVar 1) (fC (.int 1)))) (fzF (fFn g__law_take 0 (lLoan 0 (lCons (fC (.int 2)) lNil)))))) lNil)))) fNil))))))
  gNx) gNx)
  (gSeq (gIf (toBF (fOp kEq (fVar 2) (fC (.int 2)))) (gSeq (gRet (inF (fTup (fCons (fC (.str ("twin" : Str))) (fCons (fVar 3) fNil)))))
  gNx) gNx)
  (gSeq (gIf (toBF (fOp kEq (fVar 2) (fC (.int 3)))) (gSeq (gRet (inF (fTup (fCons (fC (.str ("lump" : Str))) (fCons (fVar 3) (fCons (fzF (fFn g__law_tt_list_drawn 0 (lLoan 0 (lCons (fC (.bool false)) lNil)))) fNil))))))
  gNx) gNx)
  (gSeq (gRet (inF (fTup (fCons (fC (.str ("part" : Str))) (fCons (fVar 3) (fCons (fzF (fFn g__law_tt_list_drawn 0 (lLoan 0 (lCons (fC (.bool true)) lNil)))) fNil))))))
  gNx))))))
theorem b__law_tt_sketch_drawn {P : Program} {w : World} {K : PySem.W.Frag} {mg : Str → Option Value} {base : Heap} {r__law_tt_sketch_drawn : AL → List D → Fr} {j : Nat} (hf : ∀ (i : Nat) (x : Str), frees[i]? = some x → mg x = none) (F__law_take : FF P w K mg base 3 ("_law_take" : Str) 2 g__law_take) (F__law_tt_leaf_drawn : FF P w K mg base 5 ("_law_tt_leaf_drawn" : Str) 1 g__law_tt_leaf_drawn) (F__law_tt_sketch_drawn : FF P w K mg base (5 + j) ("_law_tt_sketch_drawn" : Str) 2 r__law_tt_sketch_drawn) (F__law_tt_list_drawn : FF P w K mg base 4 ("_law_tt_list_drawn" : Str) 2 g__law_tt_list_drawn) {cdv : Value} {A : Around} {outer : List Env} {s : Shared} {H : Hp} {E : XK} {f : Addr}
    (C : Ctx (cxOf (L2N.CX P w) P w K mg base ["jar", "deep", "form", "one"] "_law_tt_sketch_drawn" (defScope s__law_tt_sketch_drawn) f cdv A outer s H E) E (5 + j)) : DSs (cxOf (L2N.CX P w) P w K mg base ["jar", "deep", "form", "one"] "_law_tt_sketch_drawn" (defScope s__law_tt_sketch_drawn) f cdv A outer s H E) E (defBody s__law_tt_sketch_drawn) (fb__law_tt_sketch_drawn r__law_tt_sketch_drawn) :=
  (ss_cons (s_if (DW.t (w_or (t_cmp o_lt (d_var 1) d_int) (w_or1 (t_cmp (o_eq C) ((d_call C F__law_take (al_loan (al_cons d_int (al_nil 0))) (alLen_loan (alLen_cons alLen_nil)).at_)).toD d_int)))) (ss_cons (s_ret (d_call C F__law_tt_leaf_drawn (al_loan (al_nil 0)) (alLen_loan alLen_nil).at_))
  ss_nil) ss_nil)
  (ss_cons (s_par2 2 3 C (d_call C F__law_take (al_loan (al_cons d_int (al_nil 0))) (alLen_loan (alLen_cons alLen_nil)).at_) (d_call C F__law_tt_sketch_drawn (al_loan (al_cons ((d_bin o_sub (d_var 1) d_int)).toD (al_nil 0))) (alLen_loan (alLen_cons alLen_nil)).at_))
  (ss_cons (s_if (t_cmp o_lt (d_var 2) d_int) (ss_cons (s_ret ((d_tup (a_cons (d_str) (a_cons (d_var 3) (a_cons ((d_call C F__law_tt_sketch_drawn (al_loan (al_cons ((d_bin o_sub ((d_bin o_sub (d_var 1) d_int)).toD ((d_call C F__law_take (al_loan (al_cons d_int (al_nil 0))) (alLen_loan (alLen_cons alLen_nil)).at_)).toD)).toD (al_nil 0))) (alLen_loan (alLen_cons alLen_nil)).at_)).toD a_nil))))).toE)
  ss_nil) ss_nil)
  (ss_cons (s_if (t_cmp (o_eq C) (d_var 2) d_int) (ss_cons (s_ret ((d_tup (a_cons (d_str) (a_cons (d_var 3) a_nil)))).toE)
  ss_nil) ss_nil)
  (ss_cons (s_if (t_cmp (o_eq C) (d_var 2) d_int) (ss_cons (s_ret ((d_tup (a_cons (d_str) (a_cons (d_var 3) (a_cons ((d_call C F__law_tt_list_drawn (al_loan (al_cons d_bl (al_nil 0))) (alLen_loan (alLen_cons alLen_nil)).at_)).toD a_nil))))).toE)
  ss_nil) ss_nil)
  (ss_cons (s_ret ((d_tup (a_cons (d_str) (a_cons (d_var 3) (a_cons ((d_call C F__law_tt_list_drawn (al_loan (al_cons d_bl (al_nil 0))) (alLen_loan (alLen_cons alLen_nil)).at_)).toD a_nil))))).toE)
  ss_nil))))))
def q_drawn : Nat → (AL → List D → Fr)
  | 0 => (fun _ _ => .stuck)
  | n + 1 => ((fun as ld => finF as (fb__law_tt_sketch_drawn (q_drawn n) (S0 4 as ld))))
def g__law_tt_sketch_drawn (n : Nat) : AL → List D → Fr := (q_drawn n)
theorem ff_drawn {P : Program} {w : World} {K : PySem.W.Frag} {mg : Str → Option Value} {base : Heap} {f__law_tt_sketch_drawn : Addr} {fd__law_tt_sketch_drawn : FuncData} (F0__law_tt_sketch_drawn : FunD K "_law_tt_sketch_drawn" "_law_tt_sketch_drawn" (defArgs s__law_tt_sketch_drawn) (defBody s__law_tt_sketch_drawn) (defScope s__law_tt_sketch_drawn) [] [] f__law_tt_sketch_drawn fd__law_tt_sketch_drawn) (hm__law_tt_sketch_drawn : mg ("_law_tt_sketch_drawn" : Str) = some (.ref f__law_tt_sketch_drawn)) (hf : ∀ (i : Nat) (x : Str), frees[i]? = some x → mg x = none) (F__law_take : FF P w K mg base 3 ("_law_take" : Str) 2 g__law_take) (F__law_tt_leaf_drawn : FF P w K mg base 5 ("_law_tt_leaf_drawn" : Str) 1 g__law_tt_leaf_drawn) (F__law_tt_list_drawn : FF P w K mg base 4 ("_law_tt_list_drawn" : Str) 2 g__law_tt_list_drawn) : ∀ n : Nat, FF P w K mg base (5 + n) ("_law_tt_sketch_drawn" : Str) 2 (g__law_tt_sketch_drawn n)
  | 0 => ff_z (ps := ["jar", "deep"]) F0__law_tt_sketch_drawn hm__law_tt_sketch_drawn (fun _ _ _ _ _ _ us hl => match us, hl with | [_, _], _ => rfl) (fun as ld => rfl)
  | n + 1 => by
    have ih := ff_drawn (P := P) (w := w) (K := K) (mg := mg) (base := base) F0__law_tt_sketch_drawn hm__law_tt_sketch_drawn hf F__law_take F__law_tt_leaf_drawn F__law_tt_list_drawn n
    have F__law_tt_sketch_drawn := ih
    exact fn_d (N := ["jar", "deep", "form", "one"]) (ps := ["jar", "deep"]) F0__law_tt_sketch_drawn ⟨rfl, rfl, rfl, by decide +kernel, rfl, by decide +kernel, by decide +kernel⟩ hm__law_tt_sketch_drawn (fun _ _ _ _ _ _ us hl => match us, hl with | [_, _], _ => rfl) (fun cdv A outer s H E C => b__law_tt_sketch_drawn hf F__law_take F__law_tt_leaf_drawn F__law_tt_sketch_drawn F__law_tt_list_drawn C) (fun as ld h => .inr rfl)
/-! ### _law_tt_more_brackets -/
abbrev s__law_tt_more_brackets : Stmt := top 73
def fb__law_tt_more_brackets  : AS → Out :=
  (gSeq (gSet 2 (fzF (fSplit (fVar 1) (fC (.str (" " : Str))))))
  (gSeq (gSet 3 (fzF (fLst (fCons (fC (.str ("order" : Str))) (fCons (fC (.str ("nest" : Str))) (fCons (fC (.str ("span" : Str))) (fCons (fC (.str ("far" : Str))) (fCons (fC (.str ("rank" : Str))) (fCons (fC (.str ("dial" : Str))) fNil)))))))))
  (gSeq (gSetO 4 (fLc (fRg1 (fzF (fCall kLen (fCons (fVar 2) fNil)))) (bName 5) (toBF (fOp kIn (fzF (fOp kItem (fVar 2) (fVar 5))) (fVar 3))) (fVar 5) [5]))
  (gSeq (gSet 5 (fzF (fFn g__law_one 0 (lLoan 0 (lCons (fVar 4) lNil)))))
  (gSeq (gSet 6 (fzF (fIf (toBF (fOp kIn (fzF (fOp kItem (fVar 2) (fVar 5))) (fzF (fSlice (fVar 3) fNoPart (fPart (fC (.int 3))))))) (inF (fC (.int 1))) (inF (fC (.int 2))))))
  (gSeq (gSet 7 (fzF (fOp kAdd (fzF (fOp kAdd (fzF (fLst (fCons (fC (.str ("(" : Str))) fNil))) (fzF (fSlice (fVar 2) (fPart (fVar 5)) (fPart (fzF (fOp kAdd (fVar 5) (fVar 6)))))))) (fzF (fLst (fCons (fC (.str (")" : Str))) fNil))))))
  (gSeq (gSet 2 (fzF (fOp kAdd (fzF (fOp kAdd (fzF (fSlice (fVar 2) fNoPart (fPart (fVar 5)))) (fVar 7))) (fzF (fSlice (fVar 2) (fPart (fzF (fOp kAdd (fVar 5) (fVar 6)))) fNoPart)))))
  (gSeq (gRet (fIf (toBF (fOp kEq (fzF (fFn g__law_take 0 (lLoan 0 (lCons (fC (.int 2)) lNil)))) (fC (.int 0)))) (fJoin (fC (.str (" " : Str))) (fVar 2)) (fOp kAdd (fzF (fOp kAdd (fC (.str ("( " : Str))) (fzF (fJoin (fC (.str (" " : Str))) (fVar 2))))) (fC (.str (" )" : Str))))))
  gNx))))))))
theorem b__law_tt_more_brackets {P : Program} {w : World} {K : PySem.W.Frag} {mg : Str → Option Value} {base : Heap}   (hf : ∀ (i : Nat) (x : Str), frees[i]? = some x → mg x = none) (F__law_one : FF P w K mg base 4 ("_law_one" : Str) 2 g__law_one) (F__law_take : FF P w K mg base 3 ("_law_take" : Str) 2 g__law_take) {cdv : Value} {A : Around} {outer : List Env} {s : Shared} {H : Hp} {E : XK} {f : Addr}
    (C : Ctx (cxOf (L2N.CX P w) P w K mg base ["jar", "text", "words_now", "heads", "some", "at", "many", "inner"] "_law_tt_more_brackets" (defScope s__law_tt_more_brackets) f cdv A outer s H E) E 4) : DSs (cxOf (L2N.CX P w) P w K mg base ["jar", "text", "words_now", "heads", "some", "at", "many", "inner"] "_law_tt_more_brackets" (defScope s__law_tt_more_brackets) f cdv A outer s H E) E (defBody s__law_tt_more_brackets) (fb__law_tt_more_brackets ) :=
  (ss_cons (s_set 2 C ((d_split (d_var 1) (d_str))).toD)
  (ss_cons (s_set 3 C ((d_lst (a_cons (d_str) (a_cons (d_str) (a_cons (d_str) (a_cons (d_str) (a_cons (d_str) (a_cons (d_str) a_nil)))))))).toD)
  (ss_cons (s_setC 4 C [("at", 5)] (i_rg1 ((d_callB c_len (hf 0 _ rfl) rfl (a_cons (d_var 2) a_nil))).toD (hf 11 _ rfl)) (by show blkC ["jar", "text", "words_now", "heads", "some", "at", "many", "inner"] (defScope s__law_tt_more_brackets) _ _ = true; decide +kernel) (fun s H Cc cl fp => (gw_name [5] 5 C.nd (by simp))) (fun s H Cc cl fp => (ts_one (t_cmp o_in ((d_item (d_var 2) (d_var 5))).toD (d_var 3)))) (fun s H Cc cl fp => (d_var 5)))
  (ss_cons (s_set 5 C ((d_call C F__law_one (al_loan (al_cons (d_var 4) (al_nil 0))) (alLen_loan (alLen_cons alLen_nil)).at_)).toD)
  (ss_cons (s_set 6 C ((d_if (t_cmp o_in ((d_item (d_var 2) (d_var 5))).toD ((d_slice (d_var 3) po_no (po_so d_int))).toD) d_int.toE d_int.toE)).toD)
  (ss_cons (s_set 7 C ((d_bin o_add ((d_bin o_add ((d_lst (a_cons (d_str) a_nil))).toD ((d_slice (d_var 2) (po_so (d_var 5)) (po_so ((d_bin o_add (d_var 5) (d_var 6))).toD))).toD)).toD ((d_lst (a_cons (d_str) a_nil))).toD)).toD)
  (ss_cons (s_set 2 C ((d_bin o_add ((d_bin o_add ((d_slice (d_var 2) po_no (po_so (d_var 5)))).toD (d_var 7))).toD ((d_slice (d_var 2) (po_so ((d_bin o_add (d_var 5) (d_var 6))).toD) po_no)).toD)).toD)
  (ss_cons (s_ret (d_if (t_cmp (o_eq C) ((d_call C F__law_take (al_loan (al_cons d_int (al_nil 0))) (alLen_loan (alLen_cons alLen_nil)).at_)).toD d_int) (d_join (d_str) (d_var 2)) (d_bin o_add ((d_bin o_add (d_str) ((d_join (d_str) (d_var 2))).toD)).toD (d_str))))
  ss_nil))))))))
def g__law_tt_more_brackets : AL → List D → Fr := fun as ld => finF as (fb__law_tt_more_brackets (S0 8 as ld))
theorem ff__law_tt_more_brackets {P : Program} {w : World} {K : PySem.W.Frag} {mg : Str → Option Value} {base : Heap} {f : Addr} {fd : FuncData} (F : FunD K "_law_tt_more_brackets" "_law_tt_more_brackets" (defArgs s__law_tt_more_brackets) (defBody s__law_tt_more_brackets) (defScope s__law_tt_more_brackets) [] [] f fd) (hm : mg ("_law_tt_more_brackets" : Str) = some (.ref f)) (hf : ∀ (i : Nat) (x : Str), frees[i]? = some x → mg x = none) (F__law_one : FF P w K mg base 4 ("_law_one" : Str) 2 g__law_one) (F__law_take : FF P w K mg base 3 ("_law_take" : Str) 2 g__law_take) : FF P w K mg base 5 ("_law_tt_more_brackets" : Str) 2 g__law_tt_more_brackets :=
  fn_d (N := ["jar", "text", "words_now", "heads", "some", "at", "many", "inner"]) (ps := ["jar", "text"]) F ⟨rfl, rfl, rfl, by decide +kernel, rfl, by decide +kernel, by decide +kernel⟩ hm (fun _ _ _ _ _ _ us hl => match us, hl with | [_, _], _ => rfl) (fun cdv A outer s H E C => b__law_tt_more_brackets hf F__law_one F__law_take C) (fun as ld h => .inr rfl)
/-! ### _law_sx_is_within -/
abbrev s__law_sx_is_within : Stmt := top 75
def fb__law_sx_is_within  : AS → Out :=
  (gSeq (gRet (inF (fAndV (fzF (fFn g__law_tq_is_whole 0 (lCons (fVar 0) lNil))) (fzF (fChain kLe kLe (fVar 1) (fVar 0) (fVar 2))))))
  gNx)
theorem b__law_sx_is_within {P : Program} {w : World} {K : PySem.W.Frag} {mg : Str → Option Value} {base : Heap}   (hf : ∀ (i : Nat) (x : Str), frees[i]? = some x → mg x = none) (F__law_tq_is_whole : FF P w K mg base 3 ("_law_tq_is_whole" : Str) 1 g__law_tq_is_whole) {cdv : Value} {A : Around} {outer : List Env} {s : Shared} {H : Hp} {E : XK} {f : Addr}
    (C : Ctx (cxOf (L2N.CX P w) P w K mg base ["thing", "low", "high"] "_law_sx_is_within" (defScope s__law_sx_is_within) f cdv A outer s H E) E 3) : DSs (cxOf (L2N.CX P w) P w K mg base ["thing", "low", "high"] "_law_sx_is_within" (defScope s__law_sx_is_within) f cdv A outer s H E) E (defBody s__law_sx_is_within) (fb__law_sx_is_within ) :=
  (ss_cons (s_ret ((v_and ((d_call C F__law_tq_is_whole (al_cons (d_var 0) (al_nil 0)) (alLen_cons alLen_nil).at_)).toD (v_one ((d_chain o_le o_le (d_var 1) (d_var 0) (d_var 2))).toD))).toE)
  ss_nil)
def g__law_sx_is_within : AL → List D → Fr := fun as ld => finF as (fb__law_sx_is_within (S0 3 as ld))
theorem ff__law_sx_is_within {P : Program} {w : World} {K : PySem.W.Frag} {mg : Str → Option Value} {base : Heap} {f : Addr} {fd : FuncData} (F : FunD K "_law_sx_is_within" "_law_sx_is_within" (defArgs s__law_sx_is_within) (defBody s__law_sx_is_within) (defScope s__law_sx_is_within) [] [] f fd) (hm : mg ("_law_sx_is_within" : Str) = some (.ref f)) (hf : ∀ (i : Nat) (x : Str), frees[i]? = some x → mg x = none) (F__law_tq_is_whole : FF P w K mg base 3 ("_law_tq_is_whole" : Str) 1 g__law_tq_is_whole) : FF P w K mg base 4 ("_law_sx_is_within" : Str) 3 g__law_sx_is_within :=
  fn_d (N := ["thing", "low", "high"]) (ps := ["thing", "low", "high"]) F ⟨rfl, rfl, rfl, by decide +kernel, rfl, by decide +kernel, by decide +kernel⟩ hm (fun _ _ _ _ _ _ us hl => match us, hl with | [_, _, _], _ => rfl) (fun cdv A outer s H E C => b__law_sx_is_within hf F__law_tq_is_whole C) (fun as ld h => .inr rfl)
/-! ### _law_sx_is_list -/
abbrev s__law_sx_is_list : Stmt := top 76
def fb__law_sx_is_list  : AS → Out :=
  (gSeq (gIf (fOr (fNot (fTru (fIsi "tuple" (fVar 0)))) (fNot (toBF (fChain kLe kLe (fC (.int 1)) (fzF (fCall kLen (fCons (fVar 0) fNil))) (fC (.int 13)))))) (gSeq (gRet (inF (fC (.bool false))))
  gNx) gNx)
  (gSeq (gIf (toBF (fOp kNe (fzF (fLc (fAnyI (fVar 0)) (bName 2) (fNot (fTru (fzF (fFn g__law_sx_is_within 0 (lCons (fVar 2) (lCons (fC (.int 0)) (lCons (fC (.int 12)) lNil))))))) (fVar 2) [2])) (fzF (fLst fNil)))) (gSeq (gRet (inF (fC (.bool false))))
  gNx) gNx)
  (gSeq (gRet (inF (fOrV (fNotV (fVar 1)) (fzF (fOp kEq (fzF (fLc (fRg2 (fC (.int 1)) (fzF (fCall kLen (fCons (fVar 0) fNil)))) (bName 3) (toBF (fOp kGe (fzF (fOp kItem (fVar 0) (fzF (fOp kSub (fVar 3) (fC (.int 1)))))) (fzF (fOp kItem (fVar 0) (fVar 3))))) (fVar 3) [3])) (fzF (fLst fNil)))))))
  gNx)))
theorem b__law_sx_is_list {P : Program} {w : World} {K : PySem.W.Frag} {mg : Str → Option Value} {base : Heap}   (hf : ∀ (i : Nat) (x : Str), frees[i]? = some x → mg x = none) (F__law_sx_is_within : FF P w K mg base 4 ("_law_sx_is_within" : Str) 3 g__law_sx_is_within) {cdv : Value} {A : Around} {outer : List Env} {s : Shared} {H : Hp} {E : XK} {f : Addr}
    (C : Ctx (cxOf (L2N.CX P w) P w K mg base ["thing", "is_rising", "one", "at"] "_law_sx_is_list" (defScope s__law_sx_is_list) f cdv A outer s H E) E 4) : DSs (cxOf (L2N.CX P w) P w K mg base ["thing", "is_rising", "one", "at"] "_law_sx_is_list" (defScope s__law_sx_is_list) f cdv A outer s H E) E (defBody s__law_sx_is_list) (fb__law_sx_is_list ) :=
  (ss_cons (s_if (DW.t (w_or (t_not (t_val (d_isi (T := "tuple") rfl (d_var 0) (hf 13 _ rfl) (hf 8 _ rfl) rfl))) (w_or1 (t_not (t_chain o_le o_le d_int ((d_callB c_len (hf 0 _ rfl) rfl (a_cons (d_var 0) a_nil))).toD d_int))))) (ss_cons (s_ret d_bl.toE)
  ss_nil) ss_nil)
  (ss_cons (s_if (t_cmp (o_ne C) ((d_comp C [("one", 2)] (i_any (d_var 0)) (by show blkC ["thing", "is_rising", "one", "at"] (defScope s__law_sx_is_list) _ _ = true; decide +kernel) (fun s H Cc cl fp => (gw_name [2] 2 C.nd (by simp))) (fun s H Cc cl fp => (ts_one (t_not (t_val ((d_call (C.blk s H Cc cl fp) F__law_sx_is_within (al_cons (d_var 2) (al_cons d_int (al_cons d_int (al_nil 0)))) (alLen_cons (alLen_cons (alLen_cons alLen_nil))).at_)).toD)))) (fun s H Cc cl fp => (d_var 2)))).toD ((d_lst a_nil)).toD) (ss_cons (s_ret d_bl.toE)
  ss_nil) ss_nil)
  (ss_cons (s_ret ((v_or (v_not (d_var 1)) (v_one ((d_cmp (o_eq C) ((d_comp C [("at", 3)] (i_rg2 d_int ((d_callB c_len (hf 0 _ rfl) rfl (a_cons (d_var 0) a_nil))).toD (hf 11 _ rfl)) (by show blkC ["thing", "is_rising", "one", "at"] (defScope s__law_sx_is_list) _ _ = true; decide +kernel) (fun s H Cc cl fp => (gw_name [3] 3 C.nd (by simp))) (fun s H Cc cl fp => (ts_one (t_cmp o_ge ((d_item (d_var 0) ((d_bin o_sub (d_var 3) d_int)).toD)).toD ((d_item (d_var 0) (d_var 3))).toD))) (fun s H Cc cl fp => (d_var 3)))).toD ((d_lst a_nil)).toD)).toD))).toE)
  ss_nil)))
def g__law_sx_is_list : AL → List D → Fr := fun as ld => finF as (fb__law_sx_is_list (S0 4 as ld))
theorem ff__law_sx_is_list {P : Program} {w : World} {K : PySem.W.Frag} {mg : Str → Option Value} {base : Heap} {f : Addr} {fd : FuncData} (F : FunD K "_law_sx_is_list" "_law_sx_is_list" (defArgs s__law_sx_is_list) (defBody s__law_sx_is_list) (defScope s__law_sx_is_list) [] [] f fd) (hm : mg ("_law_sx_is_list" : Str) = some (.ref f)) (hf : ∀ (i : Nat) (x : Str), frees[i]? = some x → mg x = none) (F__law_sx_is_within : FF P w K mg base 4 ("_law_sx_is_within" : Str) 3 g__law_sx_is_within) : FF P w K mg base 5 ("_law_sx_is_list" : Str) 2 g__law_sx_is_list :=
  fn_d (N := ["thing", "is_rising", "one", "at"]) (ps := ["thing", "is_rising"]) F ⟨rfl, rfl, rfl, by decide +kernel, rfl, by decide +kernel, by decide +kernel⟩ hm (fun _ _ _ _ _ _ us hl => match us, hl with | [_, _], _ => rfl) (fun cdv A outer s H E C => b__law_sx_is_list hf F__law_sx_is_within C) (fun as ld h => .inr rfl)
/-! ### _law_sx_is_part -/
abbrev s__law_sx_is_part : Stmt := top 77
def fb__law_sx_is_part (r__law_sx_is_part : AL → List D → Fr) : AS → Out :=
  (gSeq (gIf (fOr (fNot (fTru (fIsi "tuple" (fVar 0)))) (fOr (toBF (fOp kEq (fVar 0) (fTup fNil))) (fNot (fTru (fIsi "str" (fzF (fOp kItem (fVar 0) (fC (.int 0))))))))) (gSeq (gRet (inF (fC (.bool false))))
  gNx) gNx)
  (gSeq (gPar2 1 2 (fOp kItem (fVar 0) (fC (.int 0))) (fSlice (fVar 0) (fPart (fC (.int 1))) fNoPart))
  (gSeq (gIf (toBF (fOp kIn (fVar 1) (fzF (fLst (fCons (fC (.str ("order" : Str))) (fCons (fC (.str ("nest" : Str))) (fCons (fC (.str ("span" : Str))) fNil))))))) (gSeq (gRet (fOp kEq (fVar 2) (fTup fNil)))
  gNx) gNx)
  (gSeq (gIf (toBF (fOp kIn (fVar 1) (fzF (fLst (fCons (fC (.str ("far" : Str))) (fCons (fC (.str ("rank" : Str))) (fCons (fC (.str ("dial" : Str))) fNil))))))) (gSeq (gRet (inF (fAndV (fzF (fOp kEq (fzF (fCall kLen (fCons (fVar 2) fNil))) (fC (.int 1)))) (fzF (fFn g__law_sx_is_within 0 (lCons (fzF (fOp kItem (fVar 2) (fC (.int 0)))) (lCons (fC (.int 1)) (lCons (fzF (fIf (toBF (fOp kEq (fVar 1) (fC (.str ("dial" : Str))))) (inF (fC (.int 13))) (inF (fC (.int 12))))) lNil))))))))
  gNx) gNx)
  (gSeq (gIf (toBF (fOp kEq (fVar 1) (fC (.str ("twin" : Str))))) (gSeq (gRet (inF (fAndV (fzF (fOp kEq (fzF (fCall kLen (fCons (fVar 2) fNil))) (fC (.int 1)))) (fzF (fFn r__law_sx_is_part 0 (lCons (fzF (fOp kItem (fVar 2) (fC (.int 0)))) lNil))))))
  gNx) gNx)
  (gSeq (gIf (toBF (fOp kEq (fVar 1) (fC (.str ("product" : Str))))) (gSeq (gRet (inF (fAndV (fzF (fOp kEq (fzF (fCall kLen (fCons (fVar 2) fNil))) (fC (.int 2)))) (fAndV (fzF (fFn r__law_sx_is_part 0 (lCons (fzF (fOp kItem (fVar 2) (fC (.int 0)))) lNil))) (fzF (fFn r__law_sx_is_part 0 (lCons (fzF (fOp kItem (fVar 2) (fC (.int 1)))) lNil)))))))
  gNx) gNx)
  (gSeq (gIf (fOr (toBF (fOp kNotIn (fVar 1) (fzF (fLst (fCons (fC (.str ("part" : Str))) (fCons (fC (.str ("lump" : Str))) fNil)))))) (toBF (fOp kNe (fzF (fCall kLen (fCons (fVar 2) fNil))) (fC (.int 2))))) (gSeq (gRet (inF (fC (.bool false))))
  gNx) gNx)
  (gSeq (gRet (inF (fAndV (fzF (fFn g__law_sx_is_list 0 (lCons (fzF (fOp kItem (fVar 2) (fC (.int 1)))) (lCons (fzF (fOp kEq (fVar 1) (fC (.str ("part" : Str))))) lNil)))) (fzF (fFn r__law_sx_is_part 0 (lCons (fzF (fOp kItem (fVar 2) (fC (.int 0)))) lNil))))))
  gNx))))))))
theorem b__law_sx_is_part {P : Program} {w : World} {K : PySem.W.Frag} {mg : Str → Option Value} {base : Heap} {r__law_sx_is_part : AL → List D → Fr} {j : Nat} (hf : ∀ (i : Nat) (x : Str), frees[i]? = some x → mg x = none) (F__law_sx_is_within : FF P w K mg base 4 ("_law_sx_is_within" : Str) 3 g__law_sx_is_within) (F__law_sx_is_part : FF P w K mg base (5 + j) ("_law_sx_is_part" : Str) 1 r__law_sx_is_part) (F__law_sx_is_list : FF P w K mg base 5 ("_law_sx_is_list" : Str) 2 g__law_sx_is_list) {cdv : Value} {A : Around} {outer : List Env} {s : Shared} {H : Hp} {E : XK} {f : Addr}
    (C : Ctx (cxOf (L2N.CX P w) P w K mg base ["thing", "word", "rest"] "_law_sx_is_part" (defScope s__law_sx_is_part) f cdv A outer s H E) E (5 + j)) : DSs (cxOf (L2N.CX P w) P w K mg base ["thing", "word", "rest"] "_law_sx_is_part" (defScope s__law_sx_is_part) f cdv A outer s H E) E (defBody s__law_sx_is_part) (fb__law_sx_is_part r__law_sx_is_part) :=
  (ss_cons (s_if (DW.t (w_or (t_not (t_val (d_isi (T := "tuple") rfl (d_var 0) (hf 13 _ rfl) (hf 8 _ rfl) rfl))) (w_or (t_cmp (o_eq C) (d_var 0) (d_tup a_nil)) (w_or1 (t_not (t_val (d_isi (T := "str") rfl ((d_item (d_var 0) d_int)).toD (hf 13 _ rfl) (hf 7 _ rfl) rfl))))))) (ss_cons (s_ret d_bl.toE)
  ss_nil) ss_nil)
  (ss_cons (s_par2 1 2 C (d_item (d_var 0) d_int) (d_slice (d_var 0) (po_so d_int) po_no))
  (ss_cons (s_if (t_cmp o_in (d_var 1) ((d_lst (a_cons (d_str) (a_cons (d_str) (a_cons (d_str) a_nil))))).toD) (ss_cons (s_ret (d_cmp (o_eq C) (d_var 2) (d_tup a_nil)))
  ss_nil) ss_nil)
  (ss_cons (s_if (t_cmp o_in (d_var 1) ((d_lst (a_cons (d_str) (a_cons (d_str) (a_cons (d_str) a_nil))))).toD) (ss_cons (s_ret ((v_and ((d_cmp (o_eq C) ((d_callB c_len (hf 0 _ rfl) rfl (a_cons (d_var 2) a_nil))).toD d_int)).toD (v_one ((d_call C F__law_sx_is_within (al_cons ((d_item (d_var 2) d_int)).toD (al_cons d_int (al_cons ((d_if (t_cmp (o_eq C) (d_var 1) (d_str)) d_int.toE d_int.toE)).toD (al_nil 0)))) (alLen_cons (alLen_cons (alLen_cons alLen_nil))).at_)).toD))).toE)
  ss_nil) ss_nil)
  (ss_cons (s_if (t_cmp (o_eq C) (d_var 1) (d_str)) (ss_cons (s_ret ((v_and ((d_cmp (o_eq C) ((d_callB c_len (hf 0 _ rfl) rfl (a_cons (d_var 2) a_nil))).toD d_int)).toD (v_one ((d_call C F__law_sx_is_part (al_cons ((d_item (d_var 2) d_int)).toD (al_nil 0)) (alLen_cons alLen_nil).at_)).toD))).toE)
  ss_nil) ss_nil)
  (ss_cons (s_if (t_cmp (o_eq C) (d_var 1) (d_str)) (ss_cons (s_ret ((v_and ((d_cmp (o_eq C) ((d_callB c_len (hf 0 _ rfl) rfl (a_cons (d_var 2) a_nil))).toD d_int)).toD (v_and ((d_call C F__law_sx_is_part (al_cons ((d_item (d_var 2) d_int)).toD (al_nil 0)) (alLen_cons alLen_nil).at_)).toD (v_one ((d_call C F__law_sx_is_part (al_cons ((d_item (d_var 2) d_int)).toD (al_nil 0)) (alLen_cons alLen_nil).at_)).toD)))).toE)
  ss_nil) ss_nil)
  (ss_cons (s_if (DW.t (w_or (t_cmp o_notIn (d_var 1) ((d_lst (a_cons (d_str) (a_cons (d_str) a_nil)))).toD) (w_or1 (t_cmp (o_ne C) ((d_callB c_len (hf 0 _ rfl) rfl (a_cons (d_var 2) a_nil))).toD d_int)))) (ss_cons (s_ret d_bl.toE)
  ss_nil) ss_nil)
  (ss_cons (s_ret ((v_and ((d_call C F__law_sx_is_list (al_cons ((d_item (d_var 2) d_int)).toD (al_cons ((d_cmp (o_eq C) (d_var 1) (d_str))).toD (al_nil 0))) (alLen_cons (alLen_cons alLen_nil)).at_)).toD (v_one ((d_call C F__law_sx_is_part (al_cons ((d_item (d_var 2) d_int)).toD (al_nil 0)) (alLen_cons alLen_nil).at_)).toD))).toE)
  ss_nil))))))))
def q_ispart : Nat → (AL → List D → Fr)
  | 0 => (fun _ _ => .stuck)
  | n + 1 => ((fun as ld => finF as (fb__law_sx_is_part (q_ispart n) (S0 3 as ld))))
def g__law_sx_is_part (n : Nat) : AL → List D → Fr := (q_ispart n)
theorem ff_ispart {P : Program} {w : World} {K : PySem.W.Frag} {mg : Str → Option Value} {base : Heap} {f__law_sx_is_part : Addr} {fd__law_sx_is_part : FuncData} (F0__law_sx_is_part : FunD K "_law_sx_is_part" "_law_sx_is_part" (defArgs s__law_sx_is_part) (defBody s__law_sx_is_part) (defScope s__law_sx_is_part) [] [] f__law_sx_is_part fd__law_sx_is_part) (hm__law_sx_is_part : mg ("_law_sx_is_part" : Str) = some (.ref f__law_sx_is_part)) (hf : ∀ (i : Nat) (x : Str), frees[i]? = some x → mg x = none) (F__law_sx_is_within : FF P w K mg base 4 ("_law_sx_is_within" : Str) 3 g__law_sx_is_within) (F__law_sx_is_list : FF P w K mg base 5 ("_law_sx_is_list" : Str) 2 g__law_sx_is_list) : ∀ n : Nat, FF P w K mg base (5 + n) ("_law_sx_is_part" : Str) 1 (g__law_sx_is_part n)
  | 0 => ff_z (ps := ["thing"]) F0__law_sx_is_part hm__law_sx_is_part (fun _ _ _ _ _ _ us hl => match us, hl with | [_], _ => rfl) (fun as ld => rfl)
  | n + 1 => by
    have ih := ff_ispart (P := P) (w := w) (K := K) (mg := mg) (base := base) F0__law_sx_is_part hm__law_sx_is_part hf F__law_sx_is_within F__law_sx_is_list n
    have F__law_sx_is_part := ih
    exact fn_d (N := ["thing", "word", "rest"]) (ps := ["thing"]) F0__law_sx_is_part ⟨rfl, rfl, rfl, by decide +kernel, rfl, by decide +kernel, by decide +kernel⟩ hm__law_sx_is_part (fun _ _ _ _ _ _ us hl => match us, hl with | [_], _ => rfl) (fun cdv A outer s H E C => b__law_sx_is_part hf F__law_sx_is_within F__law_sx_is_part F__law_sx_is_list C) (fun as ld h => .inr rfl)
/-! ### _law_sx_is_own -/
abbrev s__law_sx_is_own : Stmt := top 78
def fb__law_sx_is_own  : AS → Out :=
  (gSeq (gIf (fNot (fTru (fzF (fFn (g__law_sx_is_part 30) 0 (lCons (fVar 0) lNil))))) (gSeq (gRet (inF (fC (.bool false))))
  gNx) gNx)
  (gSeq (gRet (inF (fAndV (fzF (fOp kLe (fzF (fFn (g__law_tt_deep 200) 0 (lCons (fVar 0) lNil))) (fC (.int 20)))) (fzF (fOp kLe (fzF (fFn (g__law_tt_leaves 200) 0 (lCons (fVar 0) lNil))) (fC (.int 100)))))))
  gNx))
theorem b__law_sx_is_own {P : Program} {w : World} {K : PySem.W.Frag} {mg : Str → Option Value} {base : Heap}   (hf : ∀ (i : Nat) (x : Str), frees[i]? = some x → mg x = none) (F__law_sx_is_part : FF P w K mg base 35 ("_law_sx_is_part" : Str) 1 (g__law_sx_is_part 30)) (F__law_tt_deep : FF P w K mg base 204 ("_law_tt_deep" : Str) 1 (g__law_tt_deep 200)) (F__law_tt_leaves : FF P w K mg base 204 ("_law_tt_leaves" : Str) 1 (g__law_tt_leaves 200)) {cdv : Value} {A : Around} {outer : List Env} {s : Shared} {H : Hp} {E : XK} {f : Addr}
    (C : Ctx (cxOf (L2N.CX P w) P w K mg base ["thing"] "_law_sx_is_own" (defScope s__law_sx_is_own) f cdv A outer s H E) E 204) : DSs (cxOf (L2N.CX P w) P w K mg base ["thing"] "_law_sx_is_own" (defScope s__law_sx_is_own) f cdv A outer s H E) E (defBody s__law_sx_is_own) (fb__law_sx_is_own ) :=
  (ss_cons (s_if (t_not (t_val ((d_call C F__law_sx_is_part (al_cons (d_var 0) (al_nil 0)) (alLen_cons alLen_nil).at_)).toD)) (ss_cons (s_ret d_bl.toE)
  ss_nil) ss_nil)
  (ss_cons (s_ret ((v_and ((d_cmp o_le ((d_call C F__law_tt_deep (al_cons (d_var 0) (al_nil 0)) (alLen_cons alLen_nil).at_)).toD d_int)).toD (v_one ((d_cmp o_le ((d_call C F__law_tt_leaves (al_cons (d_var 0) (al_nil 0)) (alLen_cons alLen_nil).at_)).toD d_int)).toD))).toE)
  ss_nil))
def g__law_sx_is_own : AL → List D → Fr := fun as ld => finF as (fb__law_sx_is_own (S0 1 as ld))
theorem ff__law_sx_is_own {P : Program} {w : World} {K : PySem.W.Frag} {mg : Str → Option Value} {base : Heap} {f : Addr} {fd : FuncData} (F : FunD K "_law_sx_is_own" "_law_sx_is_own" (defArgs s__law_sx_is_own) (defBody s__law_sx_is_own) (defScope s__law_sx_is_own) [] [] f fd) (hm : mg ("_law_sx_is_own" : Str) = some (.ref f)) (hf : ∀ (i : Nat) (x : Str), frees[i]? = some x → mg x = none) (F__law_sx_is_part : FF P w K mg base 35 ("_law_sx_is_part" : Str) 1 (g__law_sx_is_part 30)) (F__law_tt_deep : FF P w K mg base 204 ("_law_tt_deep" : Str) 1 (g__law_tt_deep 200)) (F__law_tt_leaves : FF P w K mg base 204 ("_law_tt_leaves" : Str) 1 (g__law_tt_leaves 200)) : FF P w K mg base 205 ("_law_sx_is_own" : Str) 1 g__law_sx_is_own :=
  fn_d (N := ["thing"]) (ps := ["thing"]) F ⟨rfl, rfl, rfl, by decide +kernel, rfl, by decide +kernel, by decide +kernel⟩ hm (fun _ _ _ _ _ _ us hl => match us, hl with | [_], _ => rfl) (fun cdv A outer s H E C => b__law_sx_is_own hf F__law_sx_is_part F__law_tt_deep F__law_tt_leaves C) (fun as ld h => .inr rfl)
/-! ### _law_sx_bent -/
abbrev s__law_sx_bent : Stmt := top 79
def fb__law_sx_bent (r__law_sx_bent : AL → List D → Fr) : AS → Out :=
  (gSeq (gIf (fTru (fIsi "str" (fVar 1))) (gSeq (gSet 2 (fzF (fLst (fCons (fC (.str ("order" : Str))) (fCons (fC (.str ("nest" : Str))) (fCons (fC (.str ("span" : Str))) (fCons (fC (.str ("far" : Str))) (fCons (fC (.str ("rank" : Str))) (fCons (fC (.str ("dial" : Str))) (fCons (fC (.str ("twin" : Str))) (fCons (fC (.str ("product" : Str))) (fCons (fC (.str ("part" : Str))) (fCons (fC (.str ("lump" : Str))) (fCons (fC (.str ("" : Str))) (fCons (fC .none) fNil)))))))))))))))
  (gSeq (gRet (fFn g__law_one 0 (lLoan 0 (lCons (fVar 2) lNil))))
  gNx)) gNx)
  (gSeq (gIf (fNot (fTru (fIsi "tuple" (fVar 1)))) (gSeq (gRet (fFn g__law_one 0 (lLoan 0 (lCons (fzF (fLst (fCons (fzF (fOp kAdd (fVar 1) (fC (.int 1)))) (fCons (fzF (fOp kSub (fVar 1) (fC (.int 1)))) (fCons (fC (.int 0)) (fCons (fC (.int 12)) (fCons (fC (.int 13)) (fCons (fNeg (fC (.int 1))) (fCons (fC (.bool true)) (fCons (fC .none) (fCons (fC (.str ("1" : Str))) (fCons (fTup (fCons (fVar 1) fNil)) fNil)))))))))))) lNil))))
  gNx) gNx)
  (gSeq (gIf (fOr (toBF (fOp kEq (fVar 1) (fTup fNil))) (toBF (fOp kEq (fzF (fFn g__law_take 0 (lLoan 0 (lCons (fC (.int 9)) lNil)))) (fC (.int 0))))) (gSeq (gRet (fFn g__law_one 0 (lLoan 0 (lCons (fzF (fLst (fCons (fC .none) (fCons (fTup fNil) (fCons (fC (.str ("order" : Str))) (fCons (fTup (fCons (fC (.str ("order" : Str))) fNil)) (fCons (fzF (fCall kList (fCons (fVar 1) fNil))) (fCons (fTup (fCons (fC (.str ("far" : Str))) fNil)) (fCons (fTup (fCons (fC (.str ("dial" : Str))) (fCons (fC (.int 13)) fNil))) (fCons (fTup (fCons (fC (.int 0)) (fCons (fC (.int 1)) fNil))) (fCons (fC (.int 5)) fNil))))))))))) lNil))))
  gNx) gNx)
  (gSeq (gPar2 3 4 (fFn g__law_take 0 (lLoan 0 (lCons (fzF (fCall kLen (fCons (fVar 1) fNil))) lNil))) (fFn g__law_take 0 (lLoan 0 (lCons (fC (.int 8)) lNil))))
  (gSeq (gIf (toBF (fOp kEq (fVar 4) (fC (.int 0)))) (gSeq (gRet (fOp kAdd (fzF (fSlice (fVar 1) fNoPart (fPart (fVar 3)))) (fzF (fSlice (fVar 1) (fPart (fzF (fOp kAdd (fVar 3) (fC (.int 1))))) fNoPart))))
  gNx) gNx)
  (gSeq (gIf (toBF (fOp kEq (fVar 4) (fC (.int 1)))) (gSeq (gRet (fOp kAdd (fVar 1) (fzF (fSlice (fVar 1) (fPart (fVar 3)) (fPart (fzF (fOp kAdd (fVar 3) (fC (.int 1)))))))))
  gNx) gNx)
  (gSeq (gRet (fOp kAdd (fzF (fOp kAdd (fzF (fSlice (fVar 1) fNoPart (fPart (fVar 3)))) (fTup (fCons (fzF (fFn r__law_sx_bent 0 (lLoan 0 (lCons (fzF (fOp kItem (fVar 1) (fVar 3))) lNil)))) fNil)))) (fzF (fSlice (fVar 1) (fPart (fzF (fOp kAdd (fVar 3) (fC (.int 1))))) fNoPart))))
  gNx)))))))
theorem b__law_sx_bent {P : Program} {w : World} {K : PySem.W.Frag} {mg : Str → Option Value} {base : Heap} {r__law_sx_bent : AL → List D → Fr} {j : Nat} (hf : ∀ (i : Nat) (x : Str), frees[i]? = some x → mg x = none) (F__law_one : FF P w K mg base 4 ("_law_one" : Str) 2 g__law_one) (F__law_take : FF P w K mg base 3 ("_law_take" : Str) 2 g__law_take) (F__law_sx_bent : FF P w K mg base (4 + j) ("_law_sx_bent" : Str) 2 r__law_sx_bent) {cdv : Value} {A : Around} {outer : List Env} {s : Shared} {H : Hp} {E : XK} {f : Addr}
    (C : Ctx (cxOf (L2N.CX P w) P w K mg base ["jar", "thing", "some", "at", "form"] "_law_sx_bent" (defScope s__law_sx_bent) f cdv A outer s H E) E (4 + j)) : DSs (cxOf (L2N.CX P w) P w K mg base ["jar", "thing", "some", "at", "form"] "_law_sx_bent" (defScope s__law_sx_bent) f cdv A outer s H E) E (defBody s__law_sx_bent) (fb__law_sx_bent r__law_sx_bent) :=
  (ss_cons (s_if (t_val (d_isi (T := "str") rfl (d_var 1) (hf 13 _ rfl) (hf 7 _ rfl) rfl)) (ss_cons (s_set 2 C ((d_lst (a_cons (d_str) (a_cons (d_str) (a_cons (d_str) (a_cons (d_str) (a_cons (d_str) (a_cons (d_str) (a_cons (d_str) (a_cons (d_str) (a_cons (d_str) (a_cons (d_str) (a_cons (d_str) (a_cons d_non a_nil)))))))))))))).toD)
  (ss_cons (s_ret (d_call C F__law_one (al_loan (al_cons (d_var 2) (al_nil 0))) (alLen_loan (alLen_cons alLen_nil)).at_))
  ss_nil)) ss_nil)
  (ss_cons (s_if (t_not (t_val (d_isi (T := "tuple") rfl (d_var 1) (hf 13 _ rfl) (hf 8 _ rfl) rfl))) (ss_cons (s_ret (d_call C F__law_one (al_loan (al_cons ((d_lst (a_cons ((d_bin o_add (d_var 1) d_int)).toD (a_cons ((d_bin o_sub (d_var 1) d_int)).toD (a_cons d_int (a_cons d_int (a_cons d_int (a_cons (d_neg d_int) (a_cons d_bl (a_cons d_non (a_cons (d_str) (a_cons (d_tup (a_cons (d_var 1) a_nil)) a_nil)))))))))))).toD (al_nil 0))) (alLen_loan (alLen_cons alLen_nil)).at_))
  ss_nil) ss_nil)
  (ss_cons (s_if (DW.t (w_or (t_cmp (o_eq C) (d_var 1) (d_tup a_nil)) (w_or1 (t_cmp (o_eq C) ((d_call C F__law_take (al_loan (al_cons d_int (al_nil 0))) (alLen_loan (alLen_cons alLen_nil)).at_)).toD d_int)))) (ss_cons (s_ret (d_call C F__law_one (al_loan (al_cons ((d_lst (a_cons d_non (a_cons (d_tup a_nil) (a_cons (d_str) (a_cons (d_tup (a_cons (d_str) a_nil)) (a_cons ((d_callTy c_list (hf 9 _ rfl) rfl (a_cons (d_var 1) a_nil))).toD (a_cons (d_tup (a_cons (d_str) a_nil)) (a_cons (d_tup (a_cons (d_str) (a_cons d_int a_nil))) (a_cons (d_tup (a_cons d_int (a_cons d_int a_nil))) (a_cons d_int a_nil))))))))))).toD (al_nil 0))) (alLen_loan (alLen_cons alLen_nil)).at_))
  ss_nil) ss_nil)
  (ss_cons (s_par2 3 4 C (d_call C F__law_take (al_loan (al_cons ((d_callB c_len (hf 0 _ rfl) rfl (a_cons (d_var 1) a_nil))).toD (al_nil 0))) (alLen_loan (alLen_cons alLen_nil)).at_) (d_call C F__law_take (al_loan (al_cons d_int (al_nil 0))) (alLen_loan (alLen_cons alLen_nil)).at_))
  (ss_cons (s_if (t_cmp (o_eq C) (d_var 4) d_int) (ss_cons (s_ret (d_bin o_add ((d_slice (d_var 1) po_no (po_so (d_var 3)))).toD ((d_slice (d_var 1) (po_so ((d_bin o_add (d_var 3) d_int)).toD) po_no)).toD))
  ss_nil) ss_nil)
  (ss_cons (s_if (t_cmp (o_eq C) (d_var 4) d_int) (ss_cons (s_ret (d_bin o_add (d_var 1) ((d_slice (d_var 1) (po_so (d_var 3)) (po_so ((d_bin o_add (d_var 3) d_int)).toD))).toD))
  ss_nil) ss_nil)
  (ss_cons (s_ret (d_bin o_add ((d_bin o_add ((d_slice (d_var 1) po_no (po_so (d_var 3)))).toD (d_tup (a_cons ((d_call C F__law_sx_bent (al_loan (al_cons ((d_item (d_var 1) (d_var 3))).toD (al_nil 0))) (alLen_loan (alLen_cons alLen_nil)).at_)).toD a_nil)))).toD ((d_slice (d_var 1) (po_so ((d_bin o_add (d_var 3) d_int)).toD) po_no)).toD))
  ss_nil)))))))
def q_bent : Nat → (AL → List D → Fr)
  | 0 => (fun _ _ => .stuck)
  | n + 1 => ((fun as ld => finF as (fb__law_sx_bent (q_bent n) (S0 5 as ld))))
def g__law_sx_bent (n : Nat) : AL → List D → Fr := (q_bent n)
theorem ff_bent {P : Program} {w : World} {K : PySem.W.Frag} {mg : Str → Option Value} {base : Heap} {f__law_sx_bent : Addr} {fd__law_sx_bent : FuncData} (F0__law_sx_bent : FunD K "_law_sx_bent" "_law_sx_bent" (defArgs s__law_sx_bent) (defBody s__law_sx_bent) (defScope s__law_sx_bent) [] [] f__law_sx_bent fd__law_sx_bent) (hm__law_sx_bent : mg ("_law_sx_bent" : Str) = some (.ref f__law_sx_bent)) (hf : ∀ (i : Nat) (x : Str), frees[i]? = some x → mg x = none) (F__law_one : FF P w K mg base 4 ("_law_one" : Str) 2 g__law_one) (F__law_take : FF P w K mg base 3 ("_law_take" : Str) 2 g__law_take) : ∀ n : Nat, FF P w K mg base (4 + n) ("_law_sx_bent" : Str) 2 (g__law_sx_bent n)
  | 0 => ff_z (ps := ["jar", "thing"]) F0__law_sx_bent hm__law_sx_bent (fun _ _ _ _ _ _ us hl => match us, hl with | [_, _], _ => rfl) (fun as ld => rfl)
  | n + 1 => by
    have ih := ff_bent (P := P) (w := w) (K := K) (mg := mg) (base := base) F0__law_sx_bent hm__law_sx_bent hf F__law_one F__law_take n
    have F__law_sx_bent := ih
    exact fn_d (N := ["jar", "thing", "some", "at", "form"]) (ps := ["jar", "thing"]) F0__law_sx_bent ⟨rfl, rfl, rfl, by decide +kernel, rfl, by decide +kernel, by decide +kernel⟩ hm__law_sx_bent (fun _ _ _ _ _ _ us hl => match us, hl with | [_, _], _ => rfl) (fun cdv A outer s H E C => b__law_sx_bent hf F__law_one F__law_take F__law_sx_bent C) (fun as ld h => .inr rfl)
/-! ### _law_sx_thing_right -/
abbrev s__law_sx_thing_right : Stmt := top 80
def fb__law_sx_thing_right  : AS → Out :=
  (gSeq (gSetO 1 (fLst (fCons (fHd (fzF (fFn g_is_sketch 0 (lCons (fVar 0) lNil)))) fNil)))
  (gSeq (gApp 1 (fHd (fzF (fFn g_sketch_text 0 (lCons (fVar 0) lNil)))))
  (gSeq (gIf (fNot (fTru (fzF (fFn g__law_sx_is_own 0 (lCons (fVar 0) lNil))))) (gSeq (gRet (fFn (g__law_tq_same 30) 0 (lCons (fVar 1) (lCons (fzF (fLst (fCons (fTup (fCons (fC (.str ("told" : Str))) (fCons (fC (.bool false)) fNil))) (fCons (fTup (fCons (fC (.str ("BadSketch" : Str))) (fCons (fC (.int 0)) fNil))) fNil)))) lNil))))
  gNx) gNx)
  (gSeq (gRet (fFn (g__law_tq_same 30) 0 (lCons (fVar 1) (lCons (fzF (fLst (fCons (fTup (fCons (fC (.str ("told" : Str))) (fCons (fC (.bool true)) fNil))) (fCons (fTup (fCons (fC (.str ("told" : Str))) (fCons (fzF (fFn (g__law_tt_sketch 24) 0 (lCons (fVar 0) lNil))) fNil))) fNil)))) lNil))))
  gNx))))
theorem b__law_sx_thing_right {P : Program} {w : World} {K : PySem.W.Frag} {mg : Str → Option Value} {base : Heap}   (hf : ∀ (i : Nat) (x : Str), frees[i]? = some x → mg x = none) (F_is_sketch : FF P w K mg base 8 ("is_sketch" : Str) 1 g_is_sketch) (F_sketch_text : FF P w K mg base 9 ("sketch_text" : Str) 1 g_sketch_text) (F__law_sx_is_own : FF P w K mg base 205 ("_law_sx_is_own" : Str) 1 g__law_sx_is_own) (F__law_tq_same : FF P w K mg base 33 ("_law_tq_same" : Str) 2 (g__law_tq_same 30)) (F__law_tt_sketch : FF P w K mg base 27 ("_law_tt_sketch" : Str) 1 (g__law_tt_sketch 24)) (H__law_sx_heard : HX P w K mg base ("_law_sx_heard" : Str) hnames) {cdv : Value} {A : Around} {outer : List Env} {s : Shared} {H : Hp} {E : XK} {f : Addr} (TB : TBC K mg base cdv (("_law_sx_thing_right" : Str) ++ ".<locals>."))
    (C : Ctx (cxOf (L2N.CX P w) P w K mg base ["thing", "heard"] "_law_sx_thing_right" (defScope s__law_sx_thing_right) f cdv A outer s H E) E 207) : DSs (cxOf (L2N.CX P w) P w K mg base ["thing", "heard"] "_law_sx_thing_right" (defScope s__law_sx_thing_right) f cdv A outer s H E) E (defBody s__law_sx_thing_right) (fb__law_sx_thing_right ) :=
  (ss_cons (s_setO 1 C (d_lst (a_cons (d_heard C H__law_sx_heard TB (fun A outer s H E fl c' CL => ((d_call CL F_is_sketch (al_cons (d_var 0) (al_nil 0)) (alLen_cons alLen_nil).at_)).toD)) a_nil)))
  (ss_cons (s_app 1 (d_heard C H__law_sx_heard TB (fun A outer s H E fl c' CL => ((d_call CL F_sketch_text (al_cons (d_var 0) (al_nil 0)) (alLen_cons alLen_nil).at_)).toD)))
  (ss_cons (s_if (t_not (t_val ((d_call C F__law_sx_is_own (al_cons (d_var 0) (al_nil 0)) (alLen_cons alLen_nil).at_)).toD)) (ss_cons (s_ret (d_call C F__law_tq_same (al_cons (d_var 1) (al_cons ((d_lst (a_cons (d_tup (a_cons (d_str) (a_cons d_bl a_nil))) (a_cons (d_tup (a_cons (d_str) (a_cons d_int a_nil))) a_nil)))).toD (al_nil 0))) (alLen_cons (alLen_cons alLen_nil)).at_))
  ss_nil) ss_nil)
  (ss_cons (s_ret (d_call C F__law_tq_same (al_cons (d_var 1) (al_cons ((d_lst (a_cons (d_tup (a_cons (d_str) (a_cons d_bl a_nil))) (a_cons (d_tup (a_cons (d_str) (a_cons ((d_call C F__law_tt_sketch (al_cons (d_var 0) (al_nil 0)) (alLen_cons alLen_nil).at_)).toD a_nil))) a_nil)))).toD (al_nil 0))) (alLen_cons (alLen_cons alLen_nil)).at_))
  ss_nil))))
def g__law_sx_thing_right : AL → List D → Fr := fun as ld => finF as (fb__law_sx_thing_right (S0 2 as ld))
theorem ff__law_sx_thing_right {P : Program} {w : World} {K : PySem.W.Frag} {mg : Str → Option Value} {base : Heap} {f : Addr} {fd : FuncData} (F : FunD K "_law_sx_thing_right" "_law_sx_thing_right" (defArgs s__law_sx_thing_right) (defBody s__law_sx_thing_right) (defScope s__law_sx_thing_right) [] [] f fd) (hm : mg ("_law_sx_thing_right" : Str) = some (.ref f)) (hf : ∀ (i : Nat) (x : Str), frees[i]? = some x → mg x = none) (F_is_sketch : FF P w K mg base 8 ("is_sketch" : Str) 1 g_is_sketch) (F_sketch_text : FF P w K mg base 9 ("sketch_text" : Str) 1 g_sketch_text) (F__law_sx_is_own : FF P w K mg base 205 ("_law_sx_is_own" : Str) 1 g__law_sx_is_own) (F__law_tq_same : FF P w K mg base 33 ("_law_tq_same" : Str) 2 (g__law_tq_same 30)) (F__law_tt_sketch : FF P w K mg base 27 ("_law_tt_sketch" : Str) 1 (g__law_tt_sketch 24)) (H__law_sx_heard : HX P w K mg base ("_law_sx_heard" : Str) hnames) (TB : ∀ cdv, CodeOfF K f cdv → TBC K mg base cdv (("_law_sx_thing_right" : Str) ++ ".<locals>.")) : FF P w K mg base 208 ("_law_sx_thing_right" : Str) 1 g__law_sx_thing_right :=
  fn_d2 (N := ["thing", "heard"]) (ps := ["thing"]) F ⟨rfl, rfl, rfl, by decide +kernel, rfl, by decide +kernel, by decide +kernel⟩ hm (fun _ _ _ _ _ _ us hl => match us, hl with | [_], _ => rfl) (fun cdv A outer s H E cd C => b__law_sx_thing_right hf F_is_sketch F_sketch_text F__law_sx_is_own F__law_tq_same F__law_tt_sketch H__law_sx_heard (TB cdv cd) C) (fun as ld h => .inr rfl)
/-! ### _law_sx_text_right -/
abbrev s__law_sx_text_right : Stmt := top 81
def fb__law_sx_text_right  : AS → Out :=
  (gSeq (gSet 1 (fzF (fFn g__law_tt_sketch_read 0 (lCons (fVar 0) lNil))))
  (gSeq (gIf (fNot (fTru (fzF (fFn (g__law_tq_same 30) 0 (lCons (fHd (fzF (fFn g_read_sketch 0 (lCons (fVar 0) lNil)))) (lCons (fVar 1) lNil)))))) (gSeq (gRet (inF (fC (.bool false))))
  gNx) gNx)
  (gSeq (gIf (toBF (fOp kNe (fzF (fOp kItem (fVar 1) (fC (.int 0)))) (fC (.str ("told" : Str))))) (gSeq (gRet (inF (fC (.bool true))))
  gNx) gNx)
  (gSeq (gRet (fFn (g__law_tq_same 30) 0 (lCons (fHd (fzF (fFn g_sketch_text 0 (lCons (fzF (fOp kItem (fVar 1) (fC (.int 1)))) lNil)))) (lCons (fTup (fCons (fC (.str ("told" : Str))) (fCons (fzF (fFn (g__law_tt_sketch 24) 0 (lCons (fzF (fOp kItem (fVar 1) (fC (.int 1)))) lNil))) fNil))) lNil))))
  gNx))))
theorem b__law_sx_text_right {P : Program} {w : World} {K : PySem.W.Frag} {mg : Str → Option Value} {base : Heap}   (hf : ∀ (i : Nat) (x : Str), frees[i]? = some x → mg x = none) (F__law_tt_sketch_read : FF P w K mg base 205 ("_law_tt_sketch_read" : Str) 1 g__law_tt_sketch_read) (F__law_tq_same : FF P w K mg base 33 ("_law_tq_same" : Str) 2 (g__law_tq_same 30)) (F_read_sketch : FF P w K mg base 10 ("read_sketch" : Str) 1 g_read_sketch) (F__law_tt_sketch : FF P w K mg base 27 ("_law_tt_sketch" : Str) 1 (g__law_tt_sketch 24)) (F_sketch_text : FF P w K mg base 9 ("sketch_text" : Str) 1 g_sketch_text) (H__law_sx_heard : HX P w K mg base ("_law_sx_heard" : Str) hnames) {cdv : Value} {A : Around} {outer : List Env} {s : Shared} {H : Hp} {E : XK} {f : Addr} (TB : TBC K mg base cdv (("_law_sx_text_right" : Str) ++ ".<locals>."))
    (C : Ctx (cxOf (L2N.CX P w) P w K mg base ["text", "due"] "_law_sx_text_right" (defScope s__law_sx_text_right) f cdv A outer s H E) E 207) : DSs (cxOf (L2N.CX P w) P w K mg base ["text", "due"] "_law_sx_text_right" (defScope s__law_sx_text_right) f cdv A outer s H E) E (defBody s__law_sx_text_right) (fb__law_sx_text_right ) :=
  (ss_cons (s_set 1 C ((d_call C F__law_tt_sketch_read (al_cons (d_var 0) (al_nil 0)) (alLen_cons alLen_nil).at_)).toD)
  (ss_cons (s_if (t_not (t_val ((d_call C F__law_tq_same (al_cons (d_heard C H__law_sx_heard TB (fun A outer s H E fl c' CL => ((d_call CL F_read_sketch (al_cons (d_var 0) (al_nil 0)) (alLen_cons alLen_nil).at_)).toD)) (al_cons (d_var 1) (al_nil 0))) (alLen_cons (alLen_cons alLen_nil)).at_)).toD)) (ss_cons (s_ret d_bl.toE)
  ss_nil) ss_nil)
  (ss_cons (s_if (t_cmp (o_ne C) ((d_item (d_var 1) d_int)).toD (d_str)) (ss_cons (s_ret d_bl.toE)
  ss_nil) ss_nil)
  (ss_cons (s_ret (d_call C F__law_tq_same (al_cons (d_heard C H__law_sx_heard TB (fun A outer s H E fl c' CL => ((d_call CL F_sketch_text (al_cons ((d_item (d_var 1) d_int)).toD (al_nil 0)) (alLen_cons alLen_nil).at_)).toD)) (al_cons (d_tup (a_cons (d_str) (a_cons ((d_call C F__law_tt_sketch (al_cons ((d_item (d_var 1) d_int)).toD (al_nil 0)) (alLen_cons alLen_nil).at_)).toD a_nil))) (al_nil 0))) (alLen_cons (alLen_cons alLen_nil)).at_))
  ss_nil))))
def g__law_sx_text_right : AL → List D → Fr := fun as ld => finF as (fb__law_sx_text_right (S0 2 as ld))
theorem ff__law_sx_text_right {P : Program} {w : World} {K : PySem.W.Frag} {mg : Str → Option Value} {base : Heap} {f : Addr} {fd : FuncData} (F : FunD K "_law_sx_text_right" "_law_sx_text_right" (defArgs s__law_sx_text_right) (defBody s__law_sx_text_right) (defScope s__law_sx_text_right) [] [] f fd) (hm : mg ("_law_sx_text_right" : Str) = some (.ref f)) (hf : ∀ (i : Nat) (x : Str), frees[i]? = some x → mg x = none) (F__law_tt_sketch_read : FF P w K mg base 205 ("_law_tt_sketch_read" : Str) 1 g__law_tt_sketch_read) (F__law_tq_same : FF P w K mg base 33 ("_law_tq_same" : Str) 2 (g__law_tq_same 30)) (F_read_sketch : FF P w K mg base 10 ("read_sketch" : Str) 1 g_read_sketch) (F__law_tt_sketch : FF P w K mg base 27 ("_law_tt_sketch" : Str) 1 (g__law_tt_sketch 24)) (F_sketch_text : FF P w K mg base 9 ("sketch_text" : Str) 1 g_sketch_text) (H__law_sx_heard : HX P w K mg base ("_law_sx_heard" : Str) hnames) (TB : ∀ cdv, CodeOfF K f cdv → TBC K mg base cdv (("_law_sx_text_right" : Str) ++ ".<locals>.")) : FF P w K mg base 208 ("_law_sx_text_right" : Str) 1 g__law_sx_text_right :=
  fn_d2 (N := ["text", "due"]) (ps := ["text"]) F ⟨rfl, rfl, rfl, by decide +kernel, rfl, by decide +kernel, by decide +kernel⟩ hm (fun _ _ _ _ _ _ us hl => match us, hl with | [_], _ => rfl) (fun cdv A outer s H E cd C => b__law_sx_text_right hf F__law_tt_sketch_read F__law_tq_same F_read_sketch F__law_tt_sketch F_sketch_text H__law_sx_heard (TB cdv cd) C) (fun as ld h => .inr rfl)
/-! ### _law_sx_deep -/
abbrev s__law_sx_deep : Stmt := top 82
def fb__law_sx_deep  : AS → Out :=
  (gSeq (gSet 2 (fzF (fFn g__law_tt_leaf_drawn 0 (lLoan 0 lNil))))
  (gSeq (gForI (fRg1 (fzF (fOp kSub (fVar 1) (fC (.int 1))))) (bName 3) (gSeq (gSet 4 (fzF (fFn g__law_tt_leaf_drawn 0 (lLoan 0 lNil))))
  (gSeq (gSet 5 (fzF (fLst (fCons (fTup (fCons (fC (.str ("twin" : Str))) (fCons (fVar 2) fNil))) (fCons (fTup (fCons (fC (.str ("part" : Str))) (fCons (fVar 2) (fCons (fTup (fCons (fC (.int 0)) fNil)) fNil)))) (fCons (fTup (fCons (fC (.str ("lump" : Str))) (fCons (fVar 2) (fCons (fTup (fCons (fC (.int 0)) (fCons (fC (.int 1)) (fCons (fC (.int 1)) fNil)))) fNil)))) (fCons (fTup (fCons (fC (.str ("product" : Str))) (fCons (fVar 4) (fCons (fVar 2) fNil)))) fNil)))))))
  (gSeq (gSet 2 (fzF (fFn g__law_one 0 (lLoan 0 (lCons (fzF (fOp kAdd (fVar 5) (fzF (fLst (fCons (fTup (fCons (fC (.str ("product" : Str))) (fCons (fVar 2) (fCons (fVar 4) fNil)))) fNil))))) lNil)))))
  gNx))) [3, 4, 5])
  (gSeq (gRet (inF (fVar 2)))
  gNx)))
theorem b__law_sx_deep {P : Program} {w : World} {K : PySem.W.Frag} {mg : Str → Option Value} {base : Heap}   (hf : ∀ (i : Nat) (x : Str), frees[i]? = some x → mg x = none) (F__law_tt_leaf_drawn : FF P w K mg base 5 ("_law_tt_leaf_drawn" : Str) 1 g__law_tt_leaf_drawn) (F__law_one : FF P w K mg base 4 ("_law_one" : Str) 2 g__law_one) {cdv : Value} {A : Around} {outer : List Env} {s : Shared} {H : Hp} {E : XK} {f : Addr}
    (C : Ctx (cxOf (L2N.CX P w) P w K mg base ["jar", "many", "made", "go", "leaf", "some"] "_law_sx_deep" (defScope s__law_sx_deep) f cdv A outer s H E) E 5) : DSs (cxOf (L2N.CX P w) P w K mg base ["jar", "many", "made", "go", "leaf", "some"] "_law_sx_deep" (defScope s__law_sx_deep) f cdv A outer s H E) E (defBody s__law_sx_deep) (fb__law_sx_deep ) :=
  (ss_cons (s_set 2 C ((d_call C F__law_tt_leaf_drawn (al_loan (al_nil 0)) (alLen_loan alLen_nil).at_)).toD)
  (ss_cons (s_for C [3, 4, 5] (i_rg1 ((d_bin o_sub (d_var 1) d_int)).toD (hf 11 _ rfl)) (g_name 3 C.nd) (ss_cons (s_set 4 C ((d_call C F__law_tt_leaf_drawn (al_loan (al_nil 0)) (alLen_loan alLen_nil).at_)).toD)
  (ss_cons (s_set 5 C ((d_lst (a_cons (d_tup (a_cons (d_str) (a_cons (d_var 2) a_nil))) (a_cons (d_tup (a_cons (d_str) (a_cons (d_var 2) (a_cons (d_tup (a_cons d_int a_nil)) a_nil)))) (a_cons (d_tup (a_cons (d_str) (a_cons (d_var 2) (a_cons (d_tup (a_cons d_int (a_cons d_int (a_cons d_int a_nil)))) a_nil)))) (a_cons (d_tup (a_cons (d_str) (a_cons (d_var 4) (a_cons (d_var 2) a_nil)))) a_nil)))))).toD)
  (ss_cons (s_set 2 C ((d_call C F__law_one (al_loan (al_cons ((d_bin o_add (d_var 5) ((d_lst (a_cons (d_tup (a_cons (d_str) (a_cons (d_var 2) (a_cons (d_var 4) a_nil)))) a_nil))).toD)).toD (al_nil 0))) (alLen_loan (alLen_cons alLen_nil)).at_)).toD)
  ss_nil))))
  (ss_cons (s_ret ((d_var 2)).toE)
  ss_nil)))
def g__law_sx_deep : AL → List D → Fr := fun as ld => finF as (fb__law_sx_deep (S0 6 as ld))
theorem ff__law_sx_deep {P : Program} {w : World} {K : PySem.W.Frag} {mg : Str → Option Value} {base : Heap} {f : Addr} {fd : FuncData} (F : FunD K "_law_sx_deep" "_law_sx_deep" (defArgs s__law_sx_deep) (defBody s__law_sx_deep) (defScope s__law_sx_deep) [] [] f fd) (hm : mg ("_law_sx_deep" : Str) = some (.ref f)) (hf : ∀ (i : Nat) (x : Str), frees[i]? = some x → mg x = none) (F__law_tt_leaf_drawn : FF P w K mg base 5 ("_law_tt_leaf_drawn" : Str) 1 g__law_tt_leaf_drawn) (F__law_one : FF P w K mg base 4 ("_law_one" : Str) 2 g__law_one) : FF P w K mg base 6 ("_law_sx_deep" : Str) 2 g__law_sx_deep :=
  fn_d (N := ["jar", "many", "made", "go", "leaf", "some"]) (ps := ["jar", "many"]) F ⟨rfl, rfl, rfl, by decide +kernel, rfl, by decide +kernel, by decide +kernel⟩ hm (fun _ _ _ _ _ _ us hl => match us, hl with | [_, _], _ => rfl) (fun cdv A outer s H E C => b__law_sx_deep hf F__law_tt_leaf_drawn F__law_one C) (fun as ld h => .inr rfl)
/-! ### _law_sx_wide -/
abbrev s__law_sx_wide : Stmt := top 83
def fb__law_sx_wide (r__law_sx_wide : AL → List D → Fr) : AS → Out :=
  (gSeq (gIf (toBF (fOp kEq (fVar 0) (fC (.int 1)))) (gSeq (gRet (inF (fTup (fCons (fC (.str ("dial" : Str))) (fCons (fC (.int 2)) fNil)))))
  gNx) gNx)
  (gSeq (gRet (inF (fTup (fCons (fC (.str ("product" : Str))) (fCons (fzF (fFn r__law_sx_wide 0 (lCons (fzF (fOp kSub (fVar 0) (fzF (fOp kDiv (fVar 0) (fC (.int 2)))))) lNil))) (fCons (fzF (fFn r__law_sx_wide 0 (lCons (fzF (fOp kDiv (fVar 0) (fC (.int 2)))) lNil))) fNil))))))
  gNx))
theorem b__law_sx_wide {P : Program} {w : World} {K : PySem.W.Frag} {mg : Str → Option Value} {base : Heap} {r__law_sx_wide : AL → List D → Fr} {j : Nat} (hf : ∀ (i : Nat) (x : Str), frees[i]? = some x → mg x = none) (F__law_sx_wide : FF P w K mg base (2 + j) ("_law_sx_wide" : Str) 1 r__law_sx_wide) {cdv : Value} {A : Around} {outer : List Env} {s : Shared} {H : Hp} {E : XK} {f : Addr}
    (C : Ctx (cxOf (L2N.CX P w) P w K mg base ["many"] "_law_sx_wide" (defScope s__law_sx_wide) f cdv A outer s H E) E (2 + j)) : DSs (cxOf (L2N.CX P w) P w K mg base ["many"] "_law_sx_wide" (defScope s__law_sx_wide) f cdv A outer s H E) E (defBody s__law_sx_wide) (fb__law_sx_wide r__law_sx_wide) :=
  (ss_cons (s_if (t_cmp (o_eq C) (d_var 0) d_int) (ss_cons (s_ret ((d_tup (a_cons (d_str) (a_cons d_int a_nil)))).toE)
  ss_nil) ss_nil)
  (ss_cons (s_ret ((d_tup (a_cons (d_str) (a_cons ((d_call C F__law_sx_wide (al_cons ((d_bin o_sub (d_var 0) ((d_bin o_div (d_var 0) d_int)).toD)).toD (al_nil 0)) (alLen_cons alLen_nil).at_)).toD (a_cons ((d_call C F__law_sx_wide (al_cons ((d_bin o_div (d_var 0) d_int)).toD (al_nil 0)) (alLen_cons alLen_nil).at_)).toD a_nil))))).toE)
  ss_nil))
def q_wide : Nat → (AL → List D → Fr)
  | 0 => (fun _ _ => .stuck)
  | n + 1 => ((fun as ld => finF as (fb__law_sx_wide (q_wide n) (S0 1 as ld))))
def g__law_sx_wide (n : Nat) : AL → List D → Fr := (q_wide n)
theorem ff_wide {P : Program} {w : World} {K : PySem.W.Frag} {mg : Str → Option Value} {base : Heap} {f__law_sx_wide : Addr} {fd__law_sx_wide : FuncData} (F0__law_sx_wide : FunD K "_law_sx_wide" "_law_sx_wide" (defArgs s__law_sx_wide) (defBody s__law_sx_wide) (defScope s__law_sx_wide) [] [] f__law_sx_wide fd__law_sx_wide) (hm__law_sx_wide : mg ("_law_sx_wide" : Str) = some (.ref f__law_sx_wide)) (hf : ∀ (i : Nat) (x : Str), frees[i]? = some x → mg x = none)  : ∀ n : Nat, FF P w K mg base (2 + n) ("_law_sx_wide" : Str) 1 (g__law_sx_wide n)
  | 0 => ff_z (ps := ["many"]) F0__law_sx_wide hm__law_sx_wide (fun _ _ _ _ _ _ us hl => match us, hl with | [_], _ => rfl) (fun as ld => rfl)
  | n + 1 => by
    have ih := ff_wide (P := P) (w := w) (K := K) (mg := mg) (base := base) F0__law_sx_wide hm__law_sx_wide hf  n
    have F__law_sx_wide := ih
    exact fn_d (N := ["many"]) (ps := ["many"]) F0__law_sx_wide ⟨rfl, rfl, rfl, by decide +kernel, rfl, by decide +kernel, by decide +kernel⟩ hm__law_sx_wide (fun _ _ _ _ _ _ us hl => match us, hl with | [_], _ => rfl) (fun cdv A outer s H E C => b__law_sx_wide hf F__law_sx_wide C) (fun as ld h => .inr rfl)
/-! ### _law_sx_planted_right -/
abbrev s__law_sx_planted_right : Stmt := top 84
def fb__law_sx_planted_right  : AS → Out :=
  (gSeq (gForI (fAnyI (fzF (fLst (fCons (fzF (fFn g__law_sx_deep 0 (lLoan 0 (lCons (fC (.int 20)) lNil)))) (fCons (fzF (fFn g__law_sx_deep 0 (lLoan 0 (lCons (fC (.int 21)) lNil)))) (fCons (fzF (fFn (g__law_sx_wide 12) 0 (lCons (fC (.int 100)) lNil))) (fCons (fzF (fFn (g__law_sx_wide 12) 0 (lCons (fC (.int 101)) lNil))) fNil))))))) (bName 1) (gSeq (gIf (fOr (fNot (fTru (fzF (fFn g__law_sx_thing_right 0 (lCons (fVar 1) lNil))))) (fNot (fTru (fzF (fFn g__law_sx_text_right 0 (lCons (fzF (fFn (g__law_tt_sketch 24) 0 (lCons (fVar 1) lNil))) lNil)))))) (gSeq (gRet (inF (fC (.bool false))))
  gNx) gNx)
  gNx) [1])
  (gSeq (gPar2 2 3 (fFn g__law_one 0 (lLoan 0 (lCons (fzF (fLst (fCons (fC (.int 20)) (fCons (fC (.int 21)) fNil)))) lNil))) (fFn (g__law_tt_sketch 24) 0 (lCons (fzF (fFn g__law_tt_leaf_drawn 0 (lLoan 0 lNil))) lNil)))
  (gSeq (gSetO 4 (fLst (fCons (fzF (fOp kAdd (fzF (fOp kAdd (fzF (fOp kMul (fC (.str ("( " : Str))) (fVar 2))) (fVar 3))) (fzF (fOp kMul (fC (.str (" )" : Str))) (fVar 2))))) (fCons (fzF (fOp kAdd (fVar 3) (fzF (fOp kMul (fC (.str (" twin" : Str))) (fzF (fOp kSub (fVar 2) (fC (.int 1)))))))) (fCons (fzF (fOp kAdd (fzF (fOp kMul (fC (.str ("( " : Str))) (fVar 2))) (fVar 3))) (fCons (fzF (fOp kAdd (fVar 3) (fC (.str (" )" : Str))))) fNil))))))
  (gSeq (gExt 4 (fLst (fCons (fzF (fOp kAdd (fVar 3) (fzF (fOp kMul (fC (.str (" part 0" : Str))) (fzF (fOp kSub (fVar 2) (fC (.int 1)))))))) (fCons (fzF (fOp kAdd (fzF (fOp kAdd (fVar 3) (fC (.str (" lump " : Str))))) (fzF (fJoin (fC (.str ("," : Str))) (fzF (fRepL (fLst (fCons (fC (.str ("7" : Str))) fNil)) (fzF (fOp kSub (fVar 2) (fC (.int 7)))))))))) (fCons (fC (.str ("" : Str))) (fCons (fC (.str ("\n" : Str))) fNil))))))
  (gSeq (gApp 4 (fzF (fOp kAdd (fVar 3) (fC (.str ("\n" : Str))))))
  (gSeq (gExt 4 (fLst (fCons (fzF (fOp kAdd (fzF (fOp kAdd (fVar 3) (fC (.str (" part " : Str))))) (fzF (fJoin (fC (.str ("," : Str))) (fzF (fLc (fRg1 (fzF (fOp kSub (fVar 2) (fC (.int 8))))) (bName 5) (fun S => .ok true S) (fzF (fCall kStr (fCons (fVar 5) fNil))) [5])))))) (fCons (fzF (fOp kAdd (fVar 3) (fC (.str (" " : Str))))) (fCons (fzF (fOp kAdd (fC (.str (" " : Str))) (fVar 3))) (fCons (fC (.str ("( )" : Str))) fNil))))))
  (gSeq (gApp 4 (fC (.str ("*" : Str))))
  (gSeq (gExt 4 (fLst (fCons (fzF (fOp kAdd (fzF (fOp kAdd (fzF (fOp kAdd (fzF (fOp kAdd (fVar 3) (fC (.str (" * ( " : Str))))) (fVar 3))) (fC (.str (" twin ) part 0 * " : Str))))) (fVar 3))) (fCons (fzF (fOp kAdd (fVar 3) (fC (.str (" part 1,0" : Str))))) (fCons (fzF (fOp kAdd (fVar 3) (fC (.str (" lump 0,1,1" : Str))))) fNil)))))
  (gSeq (gApp 4 (fC (.str ("twin" : Str))))
  (gSeq (gExt 4 (fLst (fCons (fzF (fOp kAdd (fVar 3) (fC (.str (" lump 0,13" : Str))))) (fCons (fzF (fOp kAdd (fVar 3) (fC (.str (" part 0,0" : Str))))) (fCons (fzF (fOp kAdd (fVar 3) (fC (.str (" part" : Str))))) (fCons (fzF (fOp kAdd (fVar 3) (fC (.str (" *" : Str))))) (fCons (fC (.str ("far 0" : Str))) (fCons (fC (.str ("far 13" : Str))) fNil))))))))
  (gSeq (gApp 4 (fC (.str ("dial 13" : Str))))
  (gSeq (gRet (fOp kEq (fzF (fLc (fAnyI (fVar 4)) (bName 6) (fNot (fTru (fzF (fFn g__law_sx_text_right 0 (lCons (fVar 6) lNil))))) (fVar 6) [6])) (fzF (fLst fNil))))
  gNx))))))))))))
theorem b__law_sx_planted_right {P : Program} {w : World} {K : PySem.W.Frag} {mg : Str → Option Value} {base : Heap}   (hf : ∀ (i : Nat) (x : Str), frees[i]? = some x → mg x = none) (F__law_sx_deep : FF P w K mg base 6 ("_law_sx_deep" : Str) 2 g__law_sx_deep) (F__law_sx_wide : FF P w K mg base 14 ("_law_sx_wide" : Str) 1 (g__law_sx_wide 12)) (F__law_sx_thing_right : FF P w K mg base 208 ("_law_sx_thing_right" : Str) 1 g__law_sx_thing_right) (F__law_sx_text_right : FF P w K mg base 208 ("_law_sx_text_right" : Str) 1 g__law_sx_text_right) (F__law_tt_sketch : FF P w K mg base 27 ("_law_tt_sketch" : Str) 1 (g__law_tt_sketch 24)) (F__law_one : FF P w K mg base 4 ("_law_one" : Str) 2 g__law_one) (F__law_tt_leaf_drawn : FF P w K mg base 5 ("_law_tt_leaf_drawn" : Str) 1 g__law_tt_leaf_drawn) {cdv : Value} {A : Around} {outer : List Env} {s : Shared} {H : Hp} {E : XK} {f : Addr}
    (C : Ctx (cxOf (L2N.CX P w) P w K mg base ["jar", "thing", "many", "leaf", "texts_now", "k", "text"] "_law_sx_planted_right" (defScope s__law_sx_planted_right) f cdv A outer s H E) E 208) : DSs (cxOf (L2N.CX P w) P w K mg base ["jar", "thing", "many", "leaf", "texts_now", "k", "text"] "_law_sx_planted_right" (defScope s__law_sx_planted_right) f cdv A outer s H E) E (defBody s__law_sx_planted_right) (fb__law_sx_planted_right ) :=
  (ss_cons (s_for C [1] (i_any ((d_lst (a_cons ((d_call C F__law_sx_deep (al_loan (al_cons d_int (al_nil 0))) (alLen_loan (alLen_cons alLen_nil)).at_)).toD (a_cons ((d_call C F__law_sx_deep (al_loan (al_cons d_int (al_nil 0))) (alLen_loan (alLen_cons alLen_nil)).at_)).toD (a_cons ((d_call C F__law_sx_wide (al_cons d_int (al_nil 0)) (alLen_cons alLen_nil).at_)).toD (a_cons ((d_call C F__law_sx_wide (al_cons d_int (al_nil 0)) (alLen_cons alLen_nil).at_)).toD a_nil)))))).toD) (g_name 1 C.nd) (ss_cons (s_if (DW.t (w_or (t_not (t_val ((d_call C F__law_sx_thing_right (al_cons (d_var 1) (al_nil 0)) (alLen_cons alLen_nil).at_)).toD)) (w_or1 (t_not (t_val ((d_call C F__law_sx_text_right (al_cons ((d_call C F__law_tt_sketch (al_cons (d_var 1) (al_nil 0)) (alLen_cons alLen_nil).at_)).toD (al_nil 0)) (alLen_cons alLen_nil).at_)).toD))))) (ss_cons (s_ret d_bl.toE)
  ss_nil) ss_nil)
  ss_nil))
  (ss_cons (s_par2 2 3 C (d_call C F__law_one (al_loan (al_cons ((d_lst (a_cons d_int (a_cons d_int a_nil)))).toD (al_nil 0))) (alLen_loan (alLen_cons alLen_nil)).at_) (d_call C F__law_tt_sketch (al_cons ((d_call C F__law_tt_leaf_drawn (al_loan (al_nil 0)) (alLen_loan alLen_nil).at_)).toD (al_nil 0)) (alLen_cons alLen_nil).at_))
  (ss_cons (s_setO 4 C (d_lst (a_cons ((d_bin o_add ((d_bin o_add ((d_bin o_mul (d_str) (d_var 2))).toD (d_var 3))).toD ((d_bin o_mul (d_str) (d_var 2))).toD)).toD (a_cons ((d_bin o_add (d_var 3) ((d_bin o_mul (d_str) ((d_bin o_sub (d_var 2) d_int)).toD)).toD)).toD (a_cons ((d_bin o_add ((d_bin o_mul (d_str) (d_var 2))).toD (d_var 3))).toD (a_cons ((d_bin o_add (d_var 3) (d_str))).toD a_nil))))))
  (ss_cons (s_ext 4 (d_lst (a_cons ((d_bin o_add (d_var 3) ((d_bin o_mul (d_str) ((d_bin o_sub (d_var 2) d_int)).toD)).toD)).toD (a_cons ((d_bin o_add ((d_bin o_add (d_var 3) (d_str))).toD ((d_join (d_str) ((d_repL (d_lst (a_cons (d_str) a_nil)) ((d_bin o_sub (d_var 2) d_int)).toD)).toD)).toD)).toD (a_cons (d_str) (a_cons (d_str) a_nil))))))
  (ss_cons (s_app 4 ((d_bin o_add (d_var 3) (d_str))).toD)
  (ss_cons (s_ext 4 (d_lst (a_cons ((d_bin o_add ((d_bin o_add (d_var 3) (d_str))).toD ((d_join (d_str) ((d_comp C [("k", 5)] (i_rg1 ((d_bin o_sub (d_var 2) d_int)).toD (hf 11 _ rfl)) (by show blkC ["jar", "thing", "many", "leaf", "texts_now", "k", "text"] (defScope s__law_sx_planted_right) _ _ = true; decide +kernel) (fun s H Cc cl fp => (gw_name [5] 5 C.nd (by simp))) (fun s H Cc cl fp => ts_nil) (fun s H Cc cl fp => ((d_callTy c_str (hf 7 _ rfl) rfl (a_cons (d_var 5) a_nil))).toD))).toD)).toD)).toD (a_cons ((d_bin o_add (d_var 3) (d_str))).toD (a_cons ((d_bin o_add (d_str) (d_var 3))).toD (a_cons (d_str) a_nil))))))
  (ss_cons (s_app 4 (d_str))
  (ss_cons (s_ext 4 (d_lst (a_cons ((d_bin o_add ((d_bin o_add ((d_bin o_add ((d_bin o_add (d_var 3) (d_str))).toD (d_var 3))).toD (d_str))).toD (d_var 3))).toD (a_cons ((d_bin o_add (d_var 3) (d_str))).toD (a_cons ((d_bin o_add (d_var 3) (d_str))).toD a_nil)))))
  (ss_cons (s_app 4 (d_str))
  (ss_cons (s_ext 4 (d_lst (a_cons ((d_bin o_add (d_var 3) (d_str))).toD (a_cons ((d_bin o_add (d_var 3) (d_str))).toD (a_cons ((d_bin o_add (d_var 3) (d_str))).toD (a_cons ((d_bin o_add (d_var 3) (d_str))).toD (a_cons (d_str) (a_cons (d_str) a_nil))))))))
  (ss_cons (s_app 4 (d_str))
  (ss_cons (s_ret (d_cmp (o_eq C) ((d_comp C [("text", 6)] (i_any (d_var 4)) (by show blkC ["jar", "thing", "many", "leaf", "texts_now", "k", "text"] (defScope s__law_sx_planted_right) _ _ = true; decide +kernel) (fun s H Cc cl fp => (gw_name [6] 6 C.nd (by simp))) (fun s H Cc cl fp => (ts_one (t_not (t_val ((d_call (C.blk s H Cc cl fp) F__law_sx_text_right (al_cons (d_var 6) (al_nil 0)) (alLen_cons alLen_nil).at_)).toD)))) (fun s H Cc cl fp => (d_var 6)))).toD ((d_lst a_nil)).toD))
  ss_nil))))))))))))
def g__law_sx_planted_right : AL → List D → Fr := fun as ld => finF as (fb__law_sx_planted_right (S0 7 as ld))
theorem ff__law_sx_planted_right {P : Program} {w : World} {K : PySem.W.Frag} {mg : Str → Option Value} {base : Heap} {f : Addr} {fd : FuncData} (F : FunD K "_law_sx_planted_right" "_law_sx_planted_right" (defArgs s__law_sx_planted_right) (defBody s__law_sx_planted_right) (defScope s__law_sx_planted_right) [] [] f fd) (hm : mg ("_law_sx_planted_right" : Str) = some (.ref f)) (hf : ∀ (i : Nat) (x : Str), frees[i]? = some x → mg x = none) (F__law_sx_deep : FF P w K mg base 6 ("_law_sx_deep" : Str) 2 g__law_sx_deep) (F__law_sx_wide : FF P w K mg base 14 ("_law_sx_wide" : Str) 1 (g__law_sx_wide 12)) (F__law_sx_thing_right : FF P w K mg base 208 ("_law_sx_thing_right" : Str) 1 g__law_sx_thing_right) (F__law_sx_text_right : FF P w K mg base 208 ("_law_sx_text_right" : Str) 1 g__law_sx_text_right) (F__law_tt_sketch : FF P w K mg base 27 ("_law_tt_sketch" : Str) 1 (g__law_tt_sketch 24)) (F__law_one : FF P w K mg base 4 ("_law_one" : Str) 2 g__law_one) (F__law_tt_leaf_drawn : FF P w K mg base 5 ("_law_tt_leaf_drawn" : Str) 1 g__law_tt_leaf_drawn) : FF P w K mg base 209 ("_law_sx_planted_right" : Str) 1 g__law_sx_planted_right :=
  fn_d (N := ["jar", "thing", "many", "leaf", "texts_now", "k", "text"]) (ps := ["jar"]) F ⟨rfl, rfl, rfl, by decide +kernel, rfl, by decide +kernel, by decide +kernel⟩ hm (fun _ _ _ _ _ _ us hl => match us, hl with | [_], _ => rfl) (fun cdv A outer s H E C => b__law_sx_planted_right hf F__law_sx_deep F__law_sx_wide F__law_sx_thing_right F__law_sx_text_right F__law_tt_sketch F__law_one F__law_tt_leaf_drawn C) (fun as ld h => .inr rfl)
/-! ### law -/
abbrev s_law : Stmt := top 85
def fb_law  : AS → Out :=
  (gSeq (gSetO 1 (fFn g__law_pool 0 (lCons (fVar 0) lNil)))
  (gSeq (gForI (fRg1 (fC (.int 10))) (bName 2) (gSeq (gSet 3 (fzF (fFn (g__law_tt_sketch_drawn 8) 1 (lLoan 1 (lCons (fzF (fFn g__law_one 1 (lLoan 1 (lCons (fzF (fLst (fCons (fC (.int 1)) (fCons (fC (.int 2)) (fCons (fC (.int 3)) (fCons (fC (.int 4)) (fCons (fC (.int 6)) fNil))))))) lNil)))) lNil)))))
  (gSeq (gSet 4 (fzF (fFn (g__law_tt_sketch 24) 0 (lCons (fVar 3) lNil))))
  (gSeq (gSet 5 (fzF (fFn g__law_tt_more_brackets 1 (lLoan 1 (lCons (fVar 4) lNil)))))
  (gSeq (gIf (fNot (fTru (fzF (fFn (g__law_tq_same 30) 0 (lCons (fHd (fzF (fFn g_read_sketch 0 (lCons (fVar 5) lNil)))) (lCons (fTup (fCons (fC (.str ("told" : Str))) (fCons (fVar 3) fNil))) lNil)))))) (gSeq (gRet (inF (fC (.bool false))))
  gNx) gNx)
  (gSeq (gForI (fRg1 (fC (.int 5))) (bName 6) (gSeq (gSet 7 (fzF (fFn g__law_tt_otherwise 1 (lLoan 1 (lCons (fzF (fIf (toBF (fOp kLt (fVar 6) (fC (.int 3)))) (inF (fVar 4)) (inF (fVar 5)))) lNil)))))
  (gSeq (gIf (fOr (fNot (fTru (fzF (fFn g__law_sx_text_right 0 (lCons (fVar 4) lNil))))) (fNot (fTru (fzF (fFn g__law_sx_text_right 0 (lCons (fVar 7) lNil)))))) (gSeq (gRet (inF (fC (.bool false))))
  gNx) gNx)
  (gSeq (gIf (fNot (fTru (fzF (fFn g__law_sx_thing_right 0 (lCons (fzF (fIf (toBF (fOp kEq (fVar 6) (fC (.int 0)))) (inF (fVar 3)) (fFn (g__law_sx_bent 30) 1 (lLoan 1 (lCons (fVar 3) lNil))))) lNil))))) (gSeq (gRet (inF (fC (.bool false))))
  gNx) gNx)
  gNx))) [6, 7])
  gNx))))) [2, 3, 4, 5, 6])
  (gSeq (gSet 8 (fzF (fFn g__law_one 1 (lLoan 1 (lCons (fzF (fLst (fCons (fC .none) (fCons (fC (.int 5)) (fCons (fzF (fLst (fCons (fC (.str ("order" : Str))) fNil))) (fCons (fTup (fCons (fC (.str ("order" : Str))) fNil)) (fCons (fC (.bool true)) fNil))))))) lNil)))))
  (gSeq (gSetO 9 (fLst (fCons (fHd (fzF (fFn g_read_sketch 0 (lCons (fVar 8) lNil)))) fNil)))
  (gSeq (gApp 9 (fHd (fzF (fFn g_read_sketch 0 (lCons (fzF (fOp kMul (fC (.str ("x" : Str))) (fC (.int 1000001)))) lNil)))))
  (gSeq (gRet (inF (fAndV (fzF (fFn g__law_sx_planted_right 1 (lLoan 1 lNil))) (fzF (fFn (g__law_tq_same 30) 0 (lCons (fVar 9) (lCons (fzF (fLst (fCons (fTup (fCons (fC (.str ("BadText" : Str))) (fCons (fNeg (fC (.int 1))) fNil))) (fCons (fTup (fCons (fC (.str ("TooMany" : Str))) (fCons (fC (.int 1000001)) fNil))) fNil)))) lNil)))))))
  gNx))))))
theorem b_law {P : Program} {w : World} {K : PySem.W.Frag} {mg : Str → Option Value} {base : Heap}   (hf : ∀ (i : Nat) (x : Str), frees[i]? = some x → mg x = none) (F__law_pool : FF P w K mg base 3 ("_law_pool" : Str) 1 g__law_pool) (F__law_tt_sketch_drawn : FF P w K mg base 13 ("_law_tt_sketch_drawn" : Str) 2 (g__law_tt_sketch_drawn 8)) (F__law_one : FF P w K mg base 4 ("_law_one" : Str) 2 g__law_one) (F__law_tt_sketch : FF P w K mg base 27 ("_law_tt_sketch" : Str) 1 (g__law_tt_sketch 24)) (F__law_tt_more_brackets : FF P w K mg base 5 ("_law_tt_more_brackets" : Str) 2 g__law_tt_more_brackets) (F__law_tq_same : FF P w K mg base 33 ("_law_tq_same" : Str) 2 (g__law_tq_same 30)) (F_read_sketch : FF P w K mg base 10 ("read_sketch" : Str) 1 g_read_sketch) (F__law_tt_otherwise : FF P w K mg base 6 ("_law_tt_otherwise" : Str) 2 g__law_tt_otherwise) (F__law_sx_text_right : FF P w K mg base 208 ("_law_sx_text_right" : Str) 1 g__law_sx_text_right) (F__law_sx_thing_right : FF P w K mg base 208 ("_law_sx_thing_right" : Str) 1 g__law_sx_thing_right) (F__law_sx_bent : FF P w K mg base 34 ("_law_sx_bent" : Str) 2 (g__law_sx_bent 30)) (F__law_sx_planted_right : FF P w K mg base 209 ("_law_sx_planted_right" : Str) 1 g__law_sx_planted_right) (H__law_sx_heard : HX P w K mg base ("_law_sx_heard" : Str) hnames) {cdv : Value} {A : Around} {outer : List Env} {s : Shared} {H : Hp} {E : XK} {f : Addr} (TB : TBC K mg base cdv (("law" : Str) ++ ".<locals>."))
    (C : Ctx (cxOf (L2N.CX P w) P w K mg base ["script", "jar", "go", "sketch", "text", "more", "turn", "bent", "odd", "heard"] "law" (defScope s_law) f cdv A outer s H E) E 211) : DSs (cxOf (L2N.CX P w) P w K mg base ["script", "jar", "go", "sketch", "text", "more", "turn", "bent", "odd", "heard"] "law" (defScope s_law) f cdv A outer s H E) E (defBody s_law) (fb_law ) :=
  (ss_cons (s_setO 1 C (d_call C F__law_pool (al_cons (d_var 0) (al_nil 0)) (alLen_cons alLen_nil).at_))
  (ss_cons (s_for C [2, 3, 4, 5, 6] (i_rg1 d_int (hf 11 _ rfl)) (g_name 2 C.nd) (ss_cons (s_set 3 C ((d_call C F__law_tt_sketch_drawn (al_loan (al_cons ((d_call C F__law_one (al_loan (al_cons ((d_lst (a_cons d_int (a_cons d_int (a_cons d_int (a_cons d_int (a_cons d_int a_nil))))))).toD (al_nil 1))) (alLen_loan (alLen_cons alLen_nil)).at_)).toD (al_nil 1))) (alLen_loan (alLen_cons alLen_nil)).at_)).toD)
  (ss_cons (s_set 4 C ((d_call C F__law_tt_sketch (al_cons (d_var 3) (al_nil 0)) (alLen_cons alLen_nil).at_)).toD)
  (ss_cons (s_set 5 C ((d_call C F__law_tt_more_brackets (al_loan (al_cons (d_var 4) (al_nil 1))) (alLen_loan (alLen_cons alLen_nil)).at_)).toD)
  (ss_cons (s_if (t_not (t_val ((d_call C F__law_tq_same (al_cons (d_heard C H__law_sx_heard TB (fun A outer s H E fl c' CL => ((d_call CL F_read_sketch (al_cons (d_var 5) (al_nil 0)) (alLen_cons alLen_nil).at_)).toD)) (al_cons (d_tup (a_cons (d_str) (a_cons (d_var 3) a_nil))) (al_nil 0))) (alLen_cons (alLen_cons alLen_nil)).at_)).toD)) (ss_cons (s_ret d_bl.toE)
  ss_nil) ss_nil)
  (ss_cons (s_for C [6, 7] (i_rg1 d_int (hf 11 _ rfl)) (g_name 6 C.nd) (ss_cons (s_set 7 C ((d_call C F__law_tt_otherwise (al_loan (al_cons ((d_if (t_cmp o_lt (d_var 6) d_int) ((d_var 4)).toE ((d_var 5)).toE)).toD (al_nil 1))) (alLen_loan (alLen_cons alLen_nil)).at_)).toD)
  (ss_cons (s_if (DW.t (w_or (t_not (t_val ((d_call C F__law_sx_text_right (al_cons (d_var 4) (al_nil 0)) (alLen_cons alLen_nil).at_)).toD)) (w_or1 (t_not (t_val ((d_call C F__law_sx_text_right (al_cons (d_var 7) (al_nil 0)) (alLen_cons alLen_nil).at_)).toD))))) (ss_cons (s_ret d_bl.toE)
  ss_nil) ss_nil)
  (ss_cons (s_if (t_not (t_val ((d_call C F__law_sx_thing_right (al_cons ((d_if (t_cmp (o_eq C) (d_var 6) d_int) ((d_var 3)).toE (d_call C F__law_sx_bent (al_loan (al_cons (d_var 3) (al_nil 1))) (alLen_loan (alLen_cons alLen_nil)).at_))).toD (al_nil 0)) (alLen_cons alLen_nil).at_)).toD)) (ss_cons (s_ret d_bl.toE)
  ss_nil) ss_nil)
  ss_nil))))
  ss_nil))))))
  (ss_cons (s_set 8 C ((d_call C F__law_one (al_loan (al_cons ((d_lst (a_cons d_non (a_cons d_int (a_cons ((d_lst (a_cons (d_str) a_nil))).toD (a_cons (d_tup (a_cons (d_str) a_nil)) (a_cons d_bl a_nil))))))).toD (al_nil 1))) (alLen_loan (alLen_cons alLen_nil)).at_)).toD)
  (ss_cons (s_setO 9 C (d_lst (a_cons (d_heard C H__law_sx_heard TB (fun A outer s H E fl c' CL => ((d_call CL F_read_sketch (al_cons (d_var 8) (al_nil 0)) (alLen_cons alLen_nil).at_)).toD)) a_nil)))
  (ss_cons (s_app 9 (d_heard C H__law_sx_heard TB (fun A outer s H E fl c' CL => ((d_call CL F_read_sketch (al_cons ((d_bin o_mul (d_str) d_int)).toD (al_nil 0)) (alLen_cons alLen_nil).at_)).toD)))
  (ss_cons (s_ret ((v_and ((d_call C F__law_sx_planted_right (al_loan (al_nil 1)) (alLen_loan alLen_nil).at_)).toD (v_one ((d_call C F__law_tq_same (al_cons (d_var 9) (al_cons ((d_lst (a_cons (d_tup (a_cons (d_str) (a_cons (d_neg d_int) a_nil))) (a_cons (d_tup (a_cons (d_str) (a_cons d_int a_nil))) a_nil)))).toD (al_nil 0))) (alLen_cons (alLen_cons alLen_nil)).at_)).toD))).toE)
  ss_nil))))))
def g_law : AL → List D → Fr := fun as ld => finF as (fb_law (S0 10 as ld))
theorem ff_law {P : Program} {w : World} {K : PySem.W.Frag} {mg : Str → Option Value} {base : Heap} {f : Addr} {fd : FuncData} (F : FunD K "law" "law" (defArgs s_law) (defBody s_law) (defScope s_law) [] [] f fd) (hm : mg ("law" : Str) = some (.ref f)) (hf : ∀ (i : Nat) (x : Str), frees[i]? = some x → mg x = none) (F__law_pool : FF P w K mg base 3 ("_law_pool" : Str) 1 g__law_pool) (F__law_tt_sketch_drawn : FF P w K mg base 13 ("_law_tt_sketch_drawn" : Str) 2 (g__law_tt_sketch_drawn 8)) (F__law_one : FF P w K mg base 4 ("_law_one" : Str) 2 g__law_one) (F__law_tt_sketch : FF P w K mg base 27 ("_law_tt_sketch" : Str) 1 (g__law_tt_sketch 24)) (F__law_tt_more_brackets : FF P w K mg base 5 ("_law_tt_more_brackets" : Str) 2 g__law_tt_more_brackets) (F__law_tq_same : FF P w K mg base 33 ("_law_tq_same" : Str) 2 (g__law_tq_same 30)) (F_read_sketch : FF P w K mg base 10 ("read_sketch" : Str) 1 g_read_sketch) (F__law_tt_otherwise : FF P w K mg base 6 ("_law_tt_otherwise" : Str) 2 g__law_tt_otherwise) (F__law_sx_text_right : FF P w K mg base 208 ("_law_sx_text_right" : Str) 1 g__law_sx_text_right) (F__law_sx_thing_right : FF P w K mg base 208 ("_law_sx_thing_right" : Str) 1 g__law_sx_thing_right) (F__law_sx_bent : FF P w K mg base 34 ("_law_sx_bent" : Str) 2 (g__law_sx_bent 30)) (F__law_sx_planted_right : FF P w K mg base 209 ("_law_sx_planted_right" : Str) 1 g__law_sx_planted_right) (H__law_sx_heard : HX P w K mg base ("_law_sx_heard" : Str) hnames) (TB : ∀ cdv, CodeOfF K f cdv → TBC K mg base cdv (("law" : Str) ++ ".<locals>.")) : FF P w K mg base 212 ("law" : Str) 1 g_law :=
  fn_d2 (N := ["script", "jar", "go", "sketch", "text", "more", "turn", "bent", "odd", "heard"]) (ps := ["script"]) F ⟨rfl, rfl, rfl, by decide +kernel, rfl, by decide +kernel, by decide +kernel⟩ hm (fun _ _ _ _ _ _ us hl => match us, hl with | [_], _ => rfl) (fun cdv A outer s H E cd C => b_law hf F__law_pool F__law_tt_sketch_drawn F__law_one F__law_tt_sketch F__law_tt_more_brackets F__law_tq_same F_read_sketch F__law_tt_otherwise F__law_sx_text_right F__law_sx_thing_right F__law_sx_bent F__law_sx_planted_right H__law_sx_heard (TB cdv cd) C) (fun as ld h => .inr rfl)
end K78

set_option maxRecDepth 100000
set_option maxHeartbeats 1000000
/-! PL1: the plain functions, step by step -/
namespace K78
open PySem PySem.Spec PyProof.Rows L2 LamX DL
section
variable {α β : Type} {S : AS}
@[simp] theorem p_then_nx {k : AS → Out} : (Out.nx S).then k = k S := rfl
@[simp] theorem p_then_rt {k : AS → Out} {r : SV} : (Out.rt r S).then k = .rt r S := rfl
@[simp] theorem p_then_exc {k : AS → Out} {c : Str} {w : D} : (Out.exc c w S).then k = .exc c w S := rfl
@[simp] theorem p_then_stuck {k : AS → Out} : (Out.stuck).then k = .stuck := rfl
@[simp] theorem p_out_ok {k : α → AS → Out} {a : α} : (Rs.ok a S).out k = k a S := rfl
@[simp] theorem p_out_exc {k : α → AS → Out} {c : Str} {w : D} : (Rs.exc c w S : Rs α).out k = .exc c w S := rfl
@[simp] theorem p_out_stuck {k : α → AS → Out} : (Rs.stuck : Rs α).out k = .stuck := rfl
@[simp] theorem p_loop_nx {wp : List Nat} {k : AS → Out} : (Out.nx S).loop wp k = k (wipeS S wp) := rfl
@[simp] theorem p_loop_ct {wp : List Nat} {k : AS → Out} : (Out.ct S).loop wp k = k (wipeS S wp) := rfl
@[simp] theorem p_loop_bk {wp : List Nat} {k : AS → Out} : (Out.bk S).loop wp k = .nx S := rfl
@[simp] theorem p_loop_rt {wp : List Nat} {k : AS → Out} {r : SV} : (Out.rt r S).loop wp k = .rt r S := rfl
@[simp] theorem p_loop_exc {wp : List Nat} {k : AS → Out} {c : Str} {w : D} : (Out.exc c w S).loop wp k = .exc c w S := rfl
@[simp] theorem p_wipe0 : wipeS S [] = S := rfl
@[simp] theorem p_wipe1 {v : Nat} {vs : List Nat} : wipeS S (v :: vs) = (wipeS S vs).set v none := rfl
@[simp] theorem p_gNx : gNx S = .nx S := rfl
@[simp] theorem p_gSeq {f g : AS → Out} : gSeq f g S = (f S).then g := rfl
@[simp] theorem p_gDrop {f : AS → Rs SV} : gDrop f S = (f S).out fun _ S1 => .nx S1 := rfl
@[simp] theorem p_gRet {f : AS → Rs SV} : gRet f S = (f S).out fun r S1 => .rt r S1 := rfl
@[simp] theorem p_gIf {t : AS → Rs Bool} {f g : AS → Out} : gIf t f g S = (t S).out fun b S1 => if b = true then f S1 else g S1 := rfl
@[simp] theorem p_gSet {i : Nat} {f : AS → Rs D} : gSet i f S = (f S).out fun d S1 => .nx (S1.set i (some (.dat d))) := rfl
@[simp] theorem p_gSetO {i : Nat} {f : AS → Rs SV} : gSetO i f S = (f S).out fun d S1 => .nx (S1.set i (some d)) := rfl
@[simp] theorem p_gRaise {x : Str} {f : AS → Rs D} : gRaise x f S = (f S).out fun d S1 => .exc x d S1 := rfl
@[simp] theorem p_gPar2 {i j : Nat} {f g : AS → Rs SV} : gPar2 i j f g S = (f S).out fun r S1 => (g S1).out fun r2 S2 => .nx ((S2.set i (some r)).set j (some r2)) := rfl
@[simp] theorem p_gPar3 {i j l : Nat} {f g h : AS → Rs SV} : gPar3 i j l f g h S = (f S).out fun r S1 => (g S1).out fun r2 S2 => (h S2).out fun r3 S3 => .nx (((S3.set i (some r)).set j (some r2)).set l (some r3)) := rfl
@[simp] theorem p_gPar4 {i j l m : Nat} {f1 f2 f4 : AS → Rs D} {f3 : AS → Rs SV} : gPar4 i j l m f1 f2 f3 f4 S = (f1 S).out fun d1 S1 => (f2 S1).out fun d2 S2 => (f3 S2).out fun r S3 => (f4 S3).out fun d4 S4 =>
  .nx ((((S4.set i (some (.dat d1))).set j (some (.dat d2))).set l (some r)).set m (some (.dat d4))) := rfl
@[simp] theorem p_gUnp {is : List Nat} {f : AS → Rs D} : gUnp is f S = (f S).out fun d S1 => match d with
  | .tuple ds => (match setAll is ds S1 with
    | some S2 => .nx S2
    | none => .stuck)
  | _ => .stuck := rfl
@[simp] theorem p_setAll0 : setAll [] [] S = some S := rfl
@[simp] theorem p_setAll1 {i : Nat} {is : List Nat} {d : D} {ds : List D} : setAll (i :: is) (d :: ds) S = setAll is ds (S.set i (some (.dat d))) := rfl
@[simp] theorem p_gForI {fi : AS → Rs (List D)} {bd : D → AS → Option AS} {b : AS → Out} {wp : List Nat} : gForI fi bd b wp S = (fi S).out (gFor bd b wp) := rfl
@[simp] theorem p_gApp {i : Nat} {f : AS → Rs D} : gApp i f S = if ownAt i S = true then (f S).out (fun d S1 => match chg i (appL d) S1 with
    | some (_, S2) => .nx S2
    | none => .stuck) else .stuck := rfl
@[simp] theorem p_gExt {i : Nat} {f : AS → Rs SV} : gExt i f S = if ownAt i S = true then (f S).out (fun r S1 => match r with
    | .own es => (match chg i (extL es) S1 with
      | some (_, S2) => .nx S2
      | none => .stuck)
    | _ => .stuck) else .stuck := rfl
@[simp] theorem p_gPut {i : Nat} {f g : AS → Rs D} : gPut i f g S = (f S).out fun d S1 => if ownAt i S1 = true then (g S1).out (fun j S2 => match j with
    | .int j => (match chg i (putL j d) S2 with
      | some (_, S3) => .nx S3
      | none => .stuck)
    | _ => .stuck) else .stuck := rfl
@[simp] theorem p_ownAt {i : Nat} : ownAt i S = match S[i]? with
  | some (some (.own _)) => true
  | some (some (.par _ _)) => true
  | _ => false := rfl
@[simp] theorem p_chg {i : Nat} {f : List D → Option (D × List D)} : chg i f S = match S[i]? with
  | some (some (.own ds)) => (f ds).map fun p => (p.1, S.set i (some (.own p.2)))
  | some (some (.par k ds)) => (f ds).map fun p => (p.1, S.set i (some (.par k p.2)))
  | _ => none := rfl
@[simp] theorem p_fVar {i : Nat} : fVar i S = match S[i]? with
  | some (some (.dat d)) => .ok d S
  | some (some (.own ds)) => .ok (.list ds) (S.set i (some (.dat (.list ds))))
  | _ => .stuck := rfl
@[simp] theorem p_peek {i : Nat} : peek i S = match S[i]? with
  | some (some (.dat d)) => some d
  | some (some (.own ds)) => some (.list ds)
  | some (some (.par _ ds)) => some (.list ds)
  | _ => none := rfl
@[simp] theorem p_fPop {i : Nat} : fPop i S = match chg i popL S with
  | some (d, S1) => .ok d S1
  | none => .stuck := rfl
@[simp] theorem p_fPeekItem {i : Nat} {g : AS → Rs D} : fPeekItem i g S = match S[i]? with
  | some (some _) => (g S).bind fun y S1 => match peek i S1 with
    | some x => kItem x y S1
    | none => .stuck
  | _ => .stuck := rfl
@[simp] theorem p_fPeekCmp {i : Nat} {kk : D → D → AS → Rs SV} {g : AS → Rs D} : fPeekCmp i kk g S = match S[i]? with
  | some (some _) => (g S).bind fun y S1 => match peek i S1 with
    | some x => kk x y S1
    | none => .stuck
  | _ => .stuck := rfl
@[simp] theorem p_fPeekLen {i : Nat} : fPeekLen i S = match peek i S with
  | some x => kLen [x] S
  | none => .stuck := rfl
@[simp] theorem p_fzR_ok {a : SV} : fzR (.ok a S) = .ok (frz a) S := rfl
@[simp] theorem p_fzR_exc {c : Str} {w : D} : fzR (.exc c w S) = .exc c w S := rfl
@[simp] theorem p_fzR_stuck : fzR .stuck = .stuck := rfl
@[simp] theorem p_inR_ok {a : D} : DL.inR (.ok a S) = .ok (.dat a) S := rfl
@[simp] theorem p_inR_exc {c : Str} {w : D} : DL.inR (.exc c w S) = .exc c w S := rfl
@[simp] theorem p_inR_stuck : DL.inR .stuck = .stuck := rfl
@[simp] theorem p_inF {f : AS → Rs D} : inF f S = DL.inR (f S) := rfl
@[simp] theorem p_fzF {f : AS → Rs SV} : fzF f S = fzR (f S) := rfl
@[simp] theorem p_toBF {f : AS → Rs SV} : toBF f S = toB (f S) := rfl
@[simp] theorem p_frz_dat {d : D} : frz (.dat d) = d := rfl
@[simp] theorem p_frz_own {d : List D} : frz (.own d) = .list d := rfl
@[simp] theorem p_fC {d : D} : fC d S = .ok d S := rfl
@[simp] theorem p_fNil : fNil S = .ok [] S := rfl
@[simp] theorem p_fCons {f : AS → Rs D} {g : AS → Rs (List D)} : fCons f g S = (f S).bind fun d S1 => (g S1).bind fun ds S2 => .ok (d :: ds) S2 := rfl
@[simp] theorem p_fTup {f : AS → Rs (List D)} : fTup f S = (f S).bind okTup := rfl
@[simp] theorem p_fLst {f : AS → Rs (List D)} : fLst f S = (f S).bind okLst := rfl
@[simp] theorem p_okTup {ds : List D} : okTup ds S = if small ds.length = true then .ok (.tuple ds) S else .stuck := rfl
@[simp] theorem p_okLst {ds : List D} : okLst ds S = if small ds.length = true then .ok (.own ds) S else .stuck := rfl
@[simp] theorem p_small {n : Nat} : small n = decide (n ≤ 16777216) := rfl
@[simp] theorem p_fOp {k : D → D → AS → Rs SV} {f g : AS → Rs D} : fOp k f g S = (f S).bind fun x S1 => (g S1).bind fun y S2 => k x y S2 := rfl
@[simp] theorem p_toB_ok {b : Bool} : toB (.ok (.dat (.bool b)) S) = .ok b S := rfl
@[simp] theorem p_okD {d : D} : okD d S = .ok (.dat d) S := rfl
@[simp] theorem p_okB {b : Bool} : okB b S = .ok (.dat (.bool b)) S := rfl
@[simp] theorem p_fTru {f : AS → Rs D} : fTru f S = (f S).bind fun d S1 => match truD d with
  | some b => .ok b S1
  | none => .stuck := rfl
@[simp] theorem p_truB {b : Bool} : truD (.bool b) = some b := rfl
@[simp] theorem p_fAnd {f g : AS → Rs Bool} : fAnd f g S = (f S).bind fun b S1 => if b = true then g S1 else .ok false S1 := rfl
@[simp] theorem p_fOr {f g : AS → Rs Bool} : fOr f g S = (f S).bind fun b S1 => if b = true then .ok true S1 else g S1 := rfl
@[simp] theorem p_fNot {f : AS → Rs Bool} : fNot f S = (f S).bind fun b S1 => .ok (!b) S1 := rfl
def andV (g : AS → Rs D) : D → AS → Rs D
  | .bool true, S1 => g S1
  | .bool false, S1 => .ok (.bool false) S1
  | _, _ => .stuck
def orV (g : AS → Rs D) : D → AS → Rs D
  | .bool true, S1 => .ok (.bool true) S1
  | .bool false, S1 => g S1
  | _, _ => .stuck
@[simp] theorem p_andV {g : AS → Rs D} {b : Bool} : andV g (.bool b) S = if b = true then g S else .ok (.bool false) S := by cases b <;> rfl
@[simp] theorem p_orV {g : AS → Rs D} {b : Bool} : orV g (.bool b) S = if b = true then .ok (.bool true) S else g S := by cases b <;> rfl
@[simp] theorem p_fAndV {f g : AS → Rs D} : fAndV f g S = (f S).bind (andV g) := by
  unfold fAndV; congr 1; funext b S1; cases b <;> try rfl
  rename_i b; cases b <;> rfl
@[simp] theorem p_fOrV {f g : AS → Rs D} : fOrV f g S = (f S).bind (orV g) := by
  unfold fOrV; congr 1; funext b S1; cases b <;> try rfl
  rename_i b; cases b <;> rfl
@[simp] theorem p_fNotV {f : AS → Rs D} : fNotV f S = (f S).bind fun b S1 => match b with
  | .bool b => .ok (.bool (!b)) S1
  | _ => .stuck := rfl
@[simp] theorem p_fIf {t : AS → Rs Bool} {f g : AS → Rs SV} : fIf t f g S = (t S).bind fun b S1 => if b = true then f S1 else g S1 := rfl
@[simp] theorem p_chTail {k2 : D → D → AS → Rs SV} {h : AS → Rs D} {y : D} {b : Bool} : chTail k2 h y (.dat (.bool b)) S = if b = true then (h S).bind fun w S4 => k2 y w S4 else .ok (.dat (.bool false)) S := by cases b <;> rfl
@[simp] theorem p_fChain {k1 k2 : D → D → AS → Rs SV} {f g h : AS → Rs D} : fChain k1 k2 f g h S = (f S).bind fun x S1 => (g S1).bind fun y S2 => (k1 x y S2).bind (chTail k2 h y) := rfl
@[simp] theorem p_fIsi {T : String} {f : AS → Rs D} : fIsi T f S = (f S).bind fun d S1 => .ok (.bool (isT T d)) S1 := rfl
@[simp] theorem p_fCall {k : List D → AS → Rs SV} {f : AS → Rs (List D)} : fCall k f S = (f S).bind k := rfl
@[simp] theorem p_fNoPart : fNoPart S = .ok none S := rfl
@[simp] theorem p_fPart {f : AS → Rs D} : fPart f S = (f S).bind fun d S1 => match d with
  | .int i => .ok (some i) S1
  | _ => .stuck := rfl
@[simp] theorem p_fSlice {f : AS → Rs D} {l h : AS → Rs (Option Int)} : fSlice f l h S = (f S).bind fun x S1 => (l S1).bind fun lo S2 => (h S2).bind fun hi S3 => kSlice x lo hi S3 := rfl
@[simp] theorem p_fRev {f : AS → Rs D} : fRev f S = (f S).bind fun x S1 => match x with
  | .list ds => .ok (.own ds.reverse) S1
  | _ => .stuck := rfl
@[simp] theorem p_fNeg {f : AS → Rs D} : fNeg f S = (f S).bind fun x S1 => match x with
  | .int i => .ok (.int (-i)) S1
  | _ => .stuck := rfl
@[simp] theorem p_fSplit {f g : AS → Rs D} : fSplit f g S = (f S).bind fun x S1 => match x with
  | .str a => (g S1).bind fun y S2 => kSplit (.str a) y S2
  | _ => .stuck := rfl
@[simp] theorem p_fJoin {f g : AS → Rs D} : fJoin f g S = (f S).bind fun x S1 => match x with
  | .str a => (g S1).bind fun y S2 => kJoin (.str a) y S2
  | _ => .stuck := rfl
@[simp] theorem p_lNil : lNil S = .ok [] S := rfl
@[simp] theorem p_lCons {f : AS → Rs D} {g : AS → Rs AL} : lCons f g S = (f S).bind fun d S1 => (g S1).bind fun ds S2 => .ok (some d :: ds) S2 := rfl
@[simp] theorem p_lLoan {i : Nat} {g : AS → Rs AL} : lLoan i g S = if ownAt i S = true then (g S).bind fun ds S2 => .ok (none :: ds) S2 else .stuck := rfl
@[simp] theorem p_fFn {g : AL → List D → Fr} {i : Nat} {fa : AS → Rs AL} : fFn g i fa S = (fa S).bind (kCall g i) := rfl
@[simp] theorem p_kCall {g : AL → List D → Fr} {i : Nat} {as : AL} : kCall g i as S = if as.all Option.isSome = true then out0 (g as []) S
  else if one as = true then (match S[i]? with
    | some (some (.own ds)) => outC (g as ds) S i (.own ds)
    | some (some (.par k ds)) => outC (g as ds) S i (.par k ds)
    | _ => .stuck) else .stuck := rfl
@[simp] theorem p_one0 : one [] = true := rfl
@[simp] theorem p_one1 {d : D} {r : AL} : one (some d :: r) = one r := rfl
@[simp] theorem p_one2 {r : AL} : one (none :: r) = r.all Option.isSome := rfl
@[simp] theorem p_out0 {r : SV} {o : List D} : out0 (.ok r o) S = .ok r S := rfl
@[simp] theorem p_out0x {c : Str} {w : D} {o : List D} : out0 (.exc c w o) S = .exc c w S := rfl
@[simp] theorem p_outC {r : SV} {o : List D} {i : Nat} {sv : SV} : outC (.ok r o) S i sv = .ok r (S.set i (some (ldSet sv o))) := rfl
@[simp] theorem p_ldSet1 {o ds : List D} : ldSet (.own ds) o = .own o := rfl
@[simp] theorem p_ldSet2 {o ds : List D} {k : Nat} : ldSet (.par k ds) o = .par k o := rfl
@[simp] theorem p_fAnyI {f : AS → Rs D} : fAnyI f S = (f S).bind fun d S1 => match itemsD d with
  | some ds => .ok ds S1
  | none => .stuck := rfl
@[simp] theorem p_fSeqI {f : AS → Rs D} : fSeq f S = (f S).bind fun d S1 => match d with
  | .list ds => .ok ds S1
  | _ => .stuck := rfl
def kRg1 : D → AS → Rs (List D)
  | .int j, S1 => if rgOk j = true then .ok (rangeD 0 j.toNat) S1 else .stuck
  | _, _ => .stuck
def kRg2 : D → D → AS → Rs (List D)
  | .int i, .int j, S1 => if (rgOk i && rgOk j) = true then .ok (rangeD i (j - i).toNat) S1 else .stuck
  | _, _, _ => .stuck
@[simp] theorem p_fRg1 {f : AS → Rs D} : fRg1 f S = (f S).bind kRg1 := by
  unfold fRg1; congr 1; funext d S1; cases d <;> rfl
@[simp] theorem p_fRg2 {f g : AS → Rs D} : fRg2 f g S = (f S).bind fun d S1 => (g S1).bind (kRg2 d) := by
  unfold fRg2; congr 1; funext d S1; congr 1; funext e S2; cases d <;> cases e <;> rfl
@[simp] theorem k_rg1 {j : Int} (h : rgOk j = true) : kRg1 (.int j) S = .ok (rangeD 0 j.toNat) S := by
  simp only [kRg1]; rw [if_pos h]
@[simp] theorem k_rg2 {i j : Int} (h : rgOk i = true) (h2 : rgOk j = true) : kRg2 (.int i) (.int j) S = .ok (rangeD i (j - i).toNat) S := by
  simp only [kRg2]; rw [h, h2]; rfl
@[simp] theorem rg_one : rgOk 1 = true := by decide +kernel
@[simp] theorem rg_ten : rgOk 10 = true := by decide +kernel
@[simp] theorem rg_five : rgOk 5 = true := by decide +kernel
theorem rg_int {i : Int} (h : 0 ≤ i) (h2 : i ≤ 1000000000) : rgOk i = true := Nat.ble_eq_true_of_le (by omega)
theorem rg_nat {n : Nat} (h : n ≤ 1000000000) : rgOk (n : Int) = true := rg_int (by omega) (by omega)
@[simp] theorem p_fZip {f : AS → Rs (List D)} : fZip f S = (f S).bind kZip := rfl
@[simp] theorem p_fK {k : D → AS → Rs SV} {f : AS → Rs D} : fK k f S = (f S).bind k := rfl
@[simp] theorem p_bName {i : Nat} {d : D} : bName i d S = some (S.set i (some (.dat d))) := rfl
@[simp] theorem p_bTup {is : List Nat} {ds : List D} : bTup is (.tuple ds) S = setAll is ds S := rfl
@[simp] theorem p_fLc {fi : AS → Rs (List D)} {bd : D → AS → Option AS} {t : AS → Rs Bool} {f : AS → Rs D} {vs : List Nat} : fLc fi bd t f vs S = (fi S).bind fun ds S1 => (fComp bd t f vs ds (wipeS S1 vs) []).bind fun acc S2 => .ok (.own acc) (wipeS S2 vs) := rfl
@[simp] theorem p_fHd {f : AS → Rs D} : fHd f S = kHeard hnames (f S) := rfl
@[simp] theorem p_kHeard {ns : List Str} {d : D} : kHeard ns (.ok d S) = .ok (.tuple [.str ("told" : Str), d]) S := rfl
@[simp] theorem p_kHeardx {ns : List Str} {c : Str} {w : D} : kHeard ns (.exc c w S) = if c ∈ ns then .ok (.tuple [.str c, w]) S else .stuck := rfl
@[simp] theorem p_fSortSet {f : AS → Rs D} : fSortSet f S = (f S).bind kSortSet := rfl
@[simp] theorem p_repTail {g : AS → Rs D} {ds : List D} : repTail g (.own ds) S = (g S).bind (kRepL ds) := rfl
@[simp] theorem p_fRepL {f : AS → Rs SV} {g : AS → Rs D} : fRepL f g S = (f S).bind (repTail g) := rfl
@[simp] theorem p_S0 {n : Nat} {as : AL} {ld : List D} : S0 n as ld = as.map (argS ld) ++ List.replicate (n - as.length) none := rfl
@[simp] theorem p_argS1 {d : D} {ld : List D} : argS ld (some d) = some (.dat d) := rfl
@[simp] theorem p_argS2 {ld : List D} : argS ld none = some (.par 0 ld) := rfl
@[simp] theorem p_finF_nx {as : AL} : finF as (.nx S) = if parOk as S = true then .ok (.dat .none) (lastP S) else .stuck := rfl
@[simp] theorem p_finF_rt {as : AL} {r : SV} : finF as (.rt r S) = if parOk as S = true then .ok r (lastP S) else .stuck := rfl
@[simp] theorem p_finF_exc {as : AL} {c : Str} {w : D} : finF as (.exc c w S) = if parOk as S = true then .exc c w (lastP S) else .stuck := rfl
@[simp] theorem p_parOk {as : AL} : parOk as S = (as.all Option.isSome || hasP S) := rfl
@[simp] theorem p_hasP0 : hasP [] = false := rfl
@[simp] theorem p_hasP1 : hasP (none :: S) = hasP S := rfl
@[simp] theorem p_hasP2 {d : D} : hasP (some (.dat d) :: S) = hasP S := rfl
@[simp] theorem p_hasP3 {d : List D} : hasP (some (.own d) :: S) = hasP S := rfl
@[simp] theorem p_hasP4 {d : List D} : hasP (some (.par 0 d) :: S) = true := rfl
@[simp] theorem p_lastP0 : lastP [] = [] := rfl
@[simp] theorem p_lastP1 : lastP (none :: S) = lastP S := rfl
@[simp] theorem p_lastP2 {d : D} : lastP (some (.dat d) :: S) = lastP S := rfl
@[simp] theorem p_lastP3 {d : List D} : lastP (some (.own d) :: S) = lastP S := rfl
@[simp] theorem p_lastP4 {d : List D} : lastP (some (.par 0 d) :: S) = d := rfl
/-! ### the operators -/
@[simp] theorem k_add1 {i j : Int} : kAdd (.int i) (.int j) S = .ok (.dat (.int (i + j))) S := rfl
@[simp] theorem k_add2 {a b : Str} : kAdd (.str a) (.str b) S = if a.length + b.length ≤ 16777216 then .ok (.dat (.str (a ++ b))) S else .stuck := by simp [kAdd]
@[simp] theorem k_add3 {a b : List D} : kAdd (.tuple a) (.tuple b) S = if a.length + b.length ≤ 16777216 then .ok (.dat (.tuple (a ++ b))) S else .stuck := by simp [kAdd]
@[simp] theorem k_add4 {a b : List D} : kAdd (.list a) (.list b) S = if a.length + b.length ≤ 16777216 then .ok (.own (a ++ b)) S else .stuck := by simp [kAdd]
@[simp] theorem k_sub {i j : Int} : kSub (.int i) (.int j) S = .ok (.dat (.int (i - j))) S := rfl
@[simp] theorem k_mul1 {i j : Int} : kMul (.int i) (.int j) S = if fitM i j = true then .ok (.dat (.int (i * j))) S else .stuck := rfl
@[simp] theorem k_mul2 {a : Str} {n : Int} : kMul (.str a) (.int n) S = if (decide (0 ≤ n) && decide (n < 2 ^ 60) && small (a.length * n.toNat)) = true then .ok (.dat (.str (repS a n.toNat))) S else .stuck := rfl
@[simp] theorem k_mod {i j : Int} : kMod (.int i) (.int j) S = if 0 < j then .ok (.dat (.int (i % j))) S else .stuck := rfl
@[simp] theorem k_div {i j : Int} : kDiv (.int i) (.int j) S = if 0 < j ∧ j.natAbs.log2 < 9000 then .ok (.dat (.int (i / j))) S else .stuck := rfl
@[simp] theorem k_pow {i j : Int} : kPow (.int i) (.int j) S = if 0 ≤ j ∧ j ≤ 1000000 ∧ i.natAbs < 2 ^ 64 then .ok (.dat (.int (i ^ j.toNat))) S else .stuck := rfl
@[simp] theorem k_eq {x y : D} : kEq x y S = if min x.depth y.depth ≤ 64 then .ok (.dat (.bool (PyData.eqv x y))) S else .stuck := rfl
@[simp] theorem k_ne {x y : D} : kNe x y S = if min x.depth y.depth ≤ 64 then .ok (.dat (.bool (!PyData.eqv x y))) S else .stuck := rfl
@[simp] theorem k_int2 {p : Int → Int → Bool} {i j : Int} : kInt2 p (.int i) (.int j) S = .ok (.dat (.bool (p i j))) S := rfl
@[simp] theorem k_inL {g : Bool → Bool} {x : D} {ys : List D} : kIn0 g x (.list ys) S = if (flatD x && ys.all flatD) = true then .ok (.dat (.bool (g (inD x ys)))) S else .stuck := by cases x <;> rfl
@[simp] theorem k_inT {g : Bool → Bool} {x : D} {ys : List D} : kIn0 g x (.tuple ys) S = if (flatD x && ys.all flatD) = true then .ok (.dat (.bool (g (inD x ys)))) S else .stuck := by cases x <;> rfl
@[simp] theorem k_is1 {g : Bool → Bool} {x : D} : kIs0 g x .none S = .ok (.dat (.bool (g (isNone x)))) S := by cases x <;> rfl
@[simp] theorem k_is2 {g : Bool → Bool} {a b : Bool} : kIs0 g (.bool a) (.bool b) S = .ok (.dat (.bool (g (decide (a = b))))) S := rfl
@[simp] theorem k_itL {ds : List D} {i : Int} : kItem (.list ds) (.int i) S = match atI ds i with
    | some d => .ok (.dat d) S
    | none => .stuck := rfl
@[simp] theorem k_itT {ds : List D} {i : Int} : kItem (.tuple ds) (.int i) S = match atI ds i with
    | some d => .ok (.dat d) S
    | none => .stuck := rfl
@[simp] theorem k_len1 {x : Str} : kLen [.str x] S = if x.length ≤ 16777216 then .ok (.dat (.int x.length)) S else .stuck := by simp [kLen]
@[simp] theorem k_len2 {ds : List D} : kLen [.list ds] S = .ok (.dat (.int ds.length)) S := rfl
@[simp] theorem k_len3 {ds : List D} : kLen [.tuple ds] S = .ok (.dat (.int ds.length)) S := rfl
@[simp] theorem k_int1 {i : Int} : kInt [.int i] S = .ok (.dat (.int i)) S := rfl
@[simp] theorem k_intb {b : Bool} : kInt [.bool b] S = .ok (.dat (.int (if b then 1 else 0))) S := rfl
@[simp] theorem k_str1 {i : Int} : kStr [.int i] S = if (decide (0 ≤ i) && decide (i.natAbs.log2 < 1920)) = true then .ok (.dat (.str (numS i))) S else .stuck := rfl
@[simp] theorem k_str2 {i : Str} : kStr [.str i] S = .ok (.dat (.str i)) S := rfl
@[simp] theorem k_tup1 {ds : List D} : kTuple [.list ds] S = .ok (.dat (.tuple ds)) S := rfl
@[simp] theorem k_tup2 {ds : List D} : kTuple [.tuple ds] S = .ok (.dat (.tuple ds)) S := rfl
@[simp] theorem k_lst2 {ds : List D} : kList [.tuple ds] S = .ok (.own ds) S := rfl
@[simp] theorem k_slL {ds : List D} {lo hi : Option Int} : kSlice (.list ds) lo hi S = .ok (.own (cutD ds lo hi)) S := rfl
@[simp] theorem k_slT {ds : List D} {lo hi : Option Int} : kSlice (.tuple ds) lo hi S = .ok (.dat (.tuple (cutD ds lo hi))) S := rfl
@[simp] theorem k_zip1 {xs ys : List D} : kZip [.list xs, .list ys] S = .ok (zipD xs ys) S := rfl
@[simp] theorem k_zip2 {xs ys : List D} : kZip [.tuple xs, .tuple ys] S = .ok (zipD xs ys) S := rfl
@[simp] theorem k_mm {f g : Int → Int → Int} {i j : Int} : kMm f g [.int i, .int j] S = .ok (.dat (.int (g i j))) S := rfl
@[simp] theorem it_l {ds : List D} : itemsD (.list ds) = some ds := rfl
@[simp] theorem it_t {ds : List D} : itemsD (.tuple ds) = some ds := rfl
@[simp] theorem it_s {x : Str} : itemsD (.str x) = some (DL.signs x) := rfl
theorem at_nat {α : Type} {xs : List α} (n : Nat) : atI xs (n : Int) = xs[n]? := by
  unfold atI ixN
  by_cases h : n < xs.length
  · rw [if_pos (by omega), if_pos (by omega)]; simp
  · rw [if_pos (by omega), if_neg (by omega)]; simp; omega
@[simp] theorem at_0 {α : Type} {xs : List α} : atI xs 0 = xs[0]? := at_nat 0
@[simp] theorem at_1 {α : Type} {xs : List α} : atI xs 1 = xs[1]? := at_nat 1
@[simp] theorem at_2 {α : Type} {xs : List α} : atI xs 2 = xs[2]? := at_nat 2
@[simp] theorem isT_int {d : D} : isT "int" d = match d with | .int _ => true | .bool _ => true | _ => false := by cases d <;> simp [isT]
@[simp] theorem isT_bool {d : D} : isT "bool" d = match d with | .bool _ => true | _ => false := by cases d <;> simp [isT]
@[simp] theorem isT_str {d : D} : isT "str" d = match d with | .str _ => true | _ => false := by cases d <;> simp [isT]
@[simp] theorem isT_tuple {d : D} : isT "tuple" d = match d with | .tuple _ => true | _ => false := by cases d <;> simp [isT]
@[simp] theorem isT_list {d : D} : isT "list" d = match d with | .list _ => true | _ => false := by cases d <;> simp [isT]
end
/-! ### the first functions -/
def wholeIn (d : D) (lo hi : Int) : Bool := match d with
  | .int i => decide (lo ≤ i) && decide (i ≤ hi)
  | _ => false
@[simp] theorem e_whole_in {d : D} {lo hi : Int} : g_whole_in [some d, some (.int lo), some (.int hi)] [] = .ok (.dat (.bool (wholeIn d lo hi))) [] := by
  cases d with
  | int i => by_cases h : lo ≤ i <;> simp [g_whole_in, fb_whole_in, wholeIn, h]
  | _ => simp [g_whole_in, fb_whole_in, wholeIn]
end K78

set_option maxRecDepth 100000
set_option maxHeartbeats 1000000
/-! PL2: comprehensions; numbers and lists in words -/
namespace K78
open PySem PySem.Spec PyProof.Rows L2 LamX DL
theorem fComp_map {bd : D → AS → Option AS} {t : AS → Rs Bool} {f : AS → Rs D} {vs : List Nat} (y : D → D) (p : D → Bool) : ∀ (ds : List D) (S : AS) (acc : List D),
    (∀ d ∈ ds, ∃ S1 S2, bd d S = some S1 ∧ t S1 = .ok (p d) S2 ∧ (p d = true → ∃ S3, f S2 = .ok (y d) S3 ∧ wipeS S3 vs = S) ∧ (p d = false → wipeS S2 vs = S)) →
    acc.length + ds.length + 2 ≤ 16777216 → fComp bd t f vs ds S acc = .ok (acc ++ (ds.filter p).map y) S
  | [], S, acc, _, _ => by simp [fComp]
  | d :: ds, S, acc, h, hs => by
    obtain ⟨S1, S2, h1, h2, h3, h4⟩ := h d (by simp)
    have ih := fComp_map (bd := bd) (t := t) (f := f) (vs := vs) y p ds
    simp only [List.length_cons] at hs
    cases hp : p d with
    | true =>
      obtain ⟨S3, h5, h6⟩ := h3 hp
      simp only [fComp, h1, h2, hp, h5, h6]
      rw [if_pos (by simp; omega), ih S _ (fun e he => h e (by simp [he])) (by simp; omega)]
      simp [List.filter_cons, hp]
    | false =>
      simp only [fComp, h1, h2, hp, h4 hp]
      rw [ih S _ (fun e he => h e (by simp [he])) (by omega)]
      simp [List.filter_cons, hp]
theorem fComp_all {bd : D → AS → Option AS} {t : AS → Rs Bool} {f : AS → Rs D} {vs : List Nat} (y : D → D) (ds : List D) (S : AS)
    (h : ∀ d ∈ ds, ∃ S1 S2, bd d S = some S1 ∧ t S1 = .ok true S2 ∧ ∃ S3, f S2 = .ok (y d) S3 ∧ wipeS S3 vs = S)
    (hs : ds.length ≤ 16777210) : fComp bd t f vs ds S [] = .ok (ds.map y) S := by
  have := fComp_map (bd := bd) (t := t) (f := f) (vs := vs) y (fun _ => true) ds S [] (fun d hd => by
    obtain ⟨S1, S2, h1, h2, h3⟩ := h d hd
    exact ⟨S1, S2, h1, h2, fun _ => h3, fun z => by cases z⟩) (by simp; omega)
  rw [this, List.nil_append, List.filter_eq_self.mpr (fun _ _ => rfl)]
theorem fComp_fil {bd : D → AS → Option AS} {t : AS → Rs Bool} {f : AS → Rs D} {vs : List Nat} (p : D → Bool) (ds : List D) (S : AS)
    (h : ∀ d ∈ ds, ∃ S1 S2, bd d S = some S1 ∧ t S1 = .ok (p d) S2 ∧ (p d = true → ∃ S3, f S2 = .ok d S3 ∧ wipeS S3 vs = S) ∧ (p d = false → wipeS S2 vs = S))
    (hs : ds.length ≤ 16777210) : fComp bd t f vs ds S [] = .ok (ds.filter p) S := by
  rw [fComp_map (bd := bd) (t := t) (f := f) (vs := vs) id p ds S [] h (by simp; omega), List.nil_append, List.map_id]
theorem fComp_mapM {α : Type} {bd : D → AS → Option AS} {t : AS → Rs Bool} {f : AS → Rs D} {vs : List Nat} (mk : α → D) (y : α → D) (p : α → Bool) : ∀ (ds : List α) (S : AS) (acc : List D),
    (∀ d ∈ ds, ∃ S1 S2, bd (mk d) S = some S1 ∧ t S1 = .ok (p d) S2 ∧ (p d = true → ∃ S3, f S2 = .ok (y d) S3 ∧ wipeS S3 vs = S) ∧ (p d = false → wipeS S2 vs = S)) →
    acc.length + ds.length + 2 ≤ 16777216 → fComp bd t f vs (ds.map mk) S acc = .ok (acc ++ (ds.filter p).map y) S
  | [], S, acc, _, _ => by simp [fComp]
  | d :: ds, S, acc, h, hs => by
    obtain ⟨S1, S2, h1, h2, h3, h4⟩ := h d (by simp)
    have ih := fComp_mapM (bd := bd) (t := t) (f := f) (vs := vs) mk y p ds
    simp only [List.length_cons] at hs
    cases hp : p d with
    | true =>
      obtain ⟨S3, h5, h6⟩ := h3 hp
      simp only [List.map_cons, fComp, h1, h2, hp, h5, h6]
      rw [if_pos (by simp; omega), ih S _ (fun e he => h e (by simp [he])) (by simp; omega)]
      simp [List.filter_cons, hp]
    | false =>
      simp only [List.map_cons, fComp, h1, h2, hp, h4 hp]
      rw [ih S _ (fun e he => h e (by simp [he])) (by omega)]
      simp [List.filter_cons, hp]
theorem fComp_allM {α : Type} {bd : D → AS → Option AS} {t : AS → Rs Bool} {f : AS → Rs D} {vs : List Nat} (mk : α → D) (y : α → D) (ds : List α) (S : AS)
    (h : ∀ d ∈ ds, ∃ S1 S2, bd (mk d) S = some S1 ∧ t S1 = .ok true S2 ∧ ∃ S3, f S2 = .ok (y d) S3 ∧ wipeS S3 vs = S)
    (hs : ds.length ≤ 16777210) : fComp bd t f vs (ds.map mk) S [] = .ok (ds.map y) S := by
  have := fComp_mapM (bd := bd) (t := t) (f := f) (vs := vs) mk y (fun _ => true) ds S [] (fun d hd => by
    obtain ⟨S1, S2, h1, h2, h3⟩ := h d hd
    exact ⟨S1, S2, h1, h2, fun _ => h3, fun z => by cases z⟩) (by simp; omega)
  rw [this, List.nil_append, List.filter_eq_self.mpr (fun _ _ => rfl)]
theorem fComp_filM {α : Type} {bd : D → AS → Option AS} {t : AS → Rs Bool} {f : AS → Rs D} {vs : List Nat} (mk : α → D) (p : α → Bool) (ds : List α) (S : AS)
    (h : ∀ d ∈ ds, ∃ S1 S2, bd (mk d) S = some S1 ∧ t S1 = .ok (p d) S2 ∧ (p d = true → ∃ S3, f S2 = .ok (mk d) S3 ∧ wipeS S3 vs = S) ∧ (p d = false → wipeS S2 vs = S))
    (hs : ds.length ≤ 16777210) : fComp bd t f vs (ds.map mk) S [] = .ok ((ds.filter p).map mk) S := by
  rw [fComp_mapM (bd := bd) (t := t) (f := f) (vs := vs) mk mk p ds S [] h (by simp; omega), List.nil_append]
@[simp] theorem eqv_str {a b : Str} : PyData.eqv (.str a) (.str b) = decide (a = b) := by
  simp only [PyData.eqv]; rw [Bool.eq_iff_iff]; simp
@[simp] theorem eqv_int {a b : Int} : PyData.eqv (.int a) (.int b) = decide (a = b) := by
  simp only [PyData.eqv]; rw [Bool.eq_iff_iff]; simp
@[simp] theorem eqv_bool {a b : Bool} : PyData.eqv (.bool a) (.bool b) = decide (a = b) := by
  simp only [PyData.eqv]; rw [Bool.eq_iff_iff]; simp
@[simp] theorem dep_str {a : Str} : PyData.depth (.str a) = 0 := by simp [PyData.depth]
@[simp] theorem dep_int {a : Int} : PyData.depth (.int a) = 0 := by simp [PyData.depth]
@[simp] theorem dep_bool {a : Bool} : PyData.depth (.bool a) = 0 := by simp [PyData.depth]
@[simp] theorem dep_none : PyData.depth .none = 0 := by simp [PyData.depth]
@[simp] theorem eqv_nilL {ds : List D} : PyData.eqv (.list ds) (.list []) = ds.isEmpty := by cases ds <;> simp [PyData.eqv, PyData.eqvAll]
@[simp] theorem eqv_nilT {ds : List D} : PyData.eqv (.tuple ds) (.tuple []) = ds.isEmpty := by cases ds <;> simp [PyData.eqv, PyData.eqvAll]
@[simp] theorem dep_nilL : PyData.depth (.list []) = 1 := by simp [PyData.depth, PyData.depthAll]
@[simp] theorem dep_nilT : PyData.depth (.tuple []) = 1 := by simp [PyData.depth, PyData.depthAll]
theorem asBls_q {α : Type} {q : α → Bool} : ∀ (ds : List α), asBls (ds.map fun d => PyData.bool (q d)) = some (ds.map q)
  | [] => rfl
  | d :: ds => by simp [asBls, asBls_q ds]
theorem kAll_q {α : Type} {q : α → Bool} {ds : List α} {S : AS} : kAll [.list (ds.map fun d => PyData.bool (q d))] S = .ok (.dat (.bool (ds.all q))) S := by
  simp only [kAll, asBls_q]
  simp [List.all_map, Function.comp_def]
/-! ### digits -/
def isDig (c : Nat) : Bool := decide (48 ≤ c) && decide (c ≤ 57)
theorem dig_list : ("0123456789" : Str).cps.toList = [48, 49, 50, 51, 52, 53, 54, 55, 56, 57] := by decide +kernel
theorem dig_eq {c : Nat} : decide (c ∈ ("0123456789" : Str).cps.toList) = isDig c := by
  rw [dig_list, isDig]
  simp only [List.mem_cons, List.not_mem_nil, or_false, ← Bool.decide_and]
  apply decide_eq_decide.mpr
  omega
@[simp] theorem k_inS {g : Bool → Bool} {c : Nat} {S : AS} : kIn0 g (.str ⟨#[c]⟩) (.str ("0123456789" : Str)) S = .ok (.dat (.bool (g (isDig c)))) S := by
  rw [← dig_eq]; rfl
def chD (c : Nat) : D := .str ⟨#[c]⟩
theorem signs_eq {w : Str} : DL.signs w = w.cps.toList.map chD := rfl
def allDig (w : Str) : Bool := w.cps.toList.all isDig
theorem kAll_dig {w : Str} {S : AS} : kAll [.list (w.cps.toList.map fun c => PyData.bool (isDig c))] S = .ok (.dat (.bool (allDig w))) S := kAll_q
def oI : Option Int → D
  | none => .none
  | some i => .int i
@[simp] theorem oI_none : oI none = .none := rfl
@[simp] theorem oI_some {i : Int} : oI (some i) = .int i := rfl
@[simp] theorem isNone_oI {o : Option Int} : DL.isNone (oI o) = o.isNone := by cases o <;> rfl
/-- the number that a word writes -/
def nmW (w : Str) : Option Int := if (w.length ≤ 20 ∧ w ≠ "" ∧ allDig w = true) ∧ (w = "0" ∨ w.cps.toList[0]? ≠ some 48) then some (NumText.digitsVal w.cps.toList) else none
theorem str0_eq {c : Nat} : ((⟨#[c]⟩ : Str) = "0") ↔ c = 48 := by
  rw [show ("0" : Str) = ⟨#[48]⟩ from rfl]; simp
theorem len_pos {w : Str} (h : w ≠ "") : ∃ c r, w.cps.toList = c :: r := by
  cases q : w.cps.toList with
  | nil => exact absurd (TL.ext_tl (show w.cps.toList = ("" : Str).cps.toList from q)) h
  | cons c r => exact ⟨c, r, rfl⟩
theorem len_tl {w : Str} : w.length = w.cps.toList.length := by simp [Str.length]
theorem len_1 {w : Str} : 1 ≤ w.length ↔ w ≠ "" := by
  constructor
  · intro h e; subst e; revert h; decide
  · intro h
    obtain ⟨c, r, e⟩ := len_pos h
    rw [len_tl, e]; simp
theorem kInt_dig {w : Str} {S : AS} (h : w.length ≤ 20) (h1 : w ≠ "") (h2 : allDig w = true) : kInt [.str w] S = .ok (.dat (.int (NumText.digitsVal w.cps.toList))) S := by
  obtain ⟨c, r, e⟩ := len_pos h1
  have := intText_digits (x := w) (fun c hc => by
    have := List.all_eq_true.mp h2 c hc
    simpa [isDig] using this) (by rw [e]; simp) (by omega)
  simp only [kInt, this]
  rw [if_pos (by simp; omega)]; rfl
theorem kItS0 {w : Str} {S : AS} {c : Nat} {r : List Nat} (h : w.length ≤ 20) (e : w.cps.toList = c :: r) : kItem (.str w) (.int 0) S = .ok (.dat (.str ⟨#[c]⟩)) S := by
  simp only [kItem, at_0, e]
  rw [if_pos (by simp; omega)]; rfl
theorem e_number_of {w : Str} (h : w.length ≤ 16777210) : g_number_of [some (.str w)] [] = .ok (.dat (oI (nmW w))) [] := by
  by_cases h1 : w = ""
  · subst h1; simp [g_number_of, fb_number_of, nmW, show ("" : Str).length = 0 from rfl]
  have h1' := len_1.mpr h1
  by_cases h2 : w.length ≤ 20
  · have k1 : (1 : Int) ≤ w.length := by omega
    have k2 : (w.length : Int) ≤ 20 := by omega
    simp [g_number_of, fb_number_of, k1, k2, show w.length ≤ 16777216 by omega]
    rw [signs_eq, fComp_allM chD (fun c => .bool (isDig c))]
    rotate_left
    · intro c hc
      refine ⟨_, _, rfl, rfl, ?_⟩
      simp [chD]
    · rw [← len_tl]; omega
    simp [kAll_dig]
    cases h3 : allDig w with
    | false => simp [nmW, h3]
    | true =>
      obtain ⟨c, r, e⟩ := len_pos h1
      by_cases h4 : w = "0"
      · rw [show nmW w = some (NumText.digitsVal w.cps.toList : Int) by simp only [nmW]; rw [if_pos ⟨⟨h2, h1, h3⟩, .inl h4⟩]]; simp [h4.symm, kInt_dig h2 h1 h3]
      · simp [h4, kItS0 h2 e, str0_eq]
        by_cases h5 : c = 48
        · simp [h5, nmW, h4, e]
        · simp [h5, kInt_dig h2 h1 h3, nmW, h2, h1, h3, e]
  · simp [g_number_of, fb_number_of, show (1 : Int) ≤ w.length by omega, show ¬ ((w.length : Int) ≤ 20) by omega, show w.length ≤ 16777216 by omega, nmW, h2]
end K78

set_option maxRecDepth 100000
set_option maxHeartbeats 1000000
/-! PL3: numbers and lists in words, read -/
namespace K78
open PySem PySem.Spec PyProof.Rows L2 LamX DL
@[simp] theorem min1_64 {a : Nat} : (min a 1 ≤ 64) = True := eq_true (by omega)
@[simp] theorem min0_64 {a : Nat} : (min a 0 ≤ 64) = True := eq_true (by omega)
theorem fil_emp {α : Type} {p : α → Bool} {l : List α} {β : Type} {mk : α → β} : ((l.filter p).map mk).isEmpty = l.all fun x => !p x := by
  induction l with
  | nil => rfl
  | cons x l ih => cases h : p x <;> simp_all [List.filter_cons]
theorem e_figures {w : Str} (h : w.length ≤ 16777210) : g__law_tt_figures [some (.str w)] [] = .ok (.dat (oI (nmW w))) [] := by
  by_cases h1 : w = ""
  · subst h1; simp [g__law_tt_figures, fb__law_tt_figures, nmW]
  by_cases h2 : w.length ≤ 20
  · have k2 : ¬ ((20 : Int) < w.length) := by omega
    simp [g__law_tt_figures, fb__law_tt_figures, h1, k2, show w.length ≤ 16777216 by omega]
    rw [signs_eq, fComp_filM chD (fun c => !isDig c)]
    rotate_left
    · intro c hc
      refine ⟨_, _, rfl, (by simp [chD]; exact rfl), fun _ => ?_, ?_⟩
      · simp [chD]
      · simp
    · rw [← len_tl]; omega
    have e1 : ((List.filter (fun c => !isDig c) w.cps.toList).map chD).isEmpty = allDig w := by rw [fil_emp]; simp [allDig]
    simp only [Rs.bind_ok, p_wipe1, p_wipe0, p_fzR_ok, p_frz_own, p_fLst, p_fNil, p_okLst, List.length_nil, k_ne, dep_nilL, min1_64, eqv_nilL, e1]
    cases h3 : allDig w with
    | false => simp [nmW, h3]
    | true =>
      obtain ⟨c, r, e⟩ := len_pos h1
      by_cases h4 : w = "0"
      · rw [show nmW w = some (NumText.digitsVal w.cps.toList : Int) by simp only [nmW]; rw [if_pos ⟨⟨h2, h1, h3⟩, .inl h4⟩]]; simp [h4.symm, kInt_dig h2 h1 h3]
      · simp [h4, kItS0 h2 e, str0_eq]
        by_cases h5 : c = 48
        · simp [h5, nmW, h4, e]
        · simp [h5, kInt_dig h2 h1 h3, nmW, h2, h1, h3, e]
  · simp [g__law_tt_figures, fb__law_tt_figures, h1, show ((20 : Int) < w.length) by omega, show w.length ≤ 16777216 by omega, nmW, h2]
/-! ### lists -/
def pcs (w : Str) : List Str := Txt.split w ","
def allI : List Str → Option (List Int)
  | [] => some []
  | p :: ps => match nmW p, allI ps with
    | some i, some is => some (i :: is)
    | _, _ => none
def ppD (p : Str) : D := oI (nmW p)
theorem allI_none : ∀ ps : List Str, inD .none (ps.map ppD) = (allI ps).isNone
  | [] => rfl
  | p :: ps => by
    have ih := allI_none ps
    unfold inD at ih ⊢
    rw [List.map_cons, List.any_cons, ih]
    simp only [allI, ppD]
    cases nmW p <;> cases allI ps <;> simp [PyData.eqv]
theorem allI_some : ∀ {ps : List Str} {is : List Int}, allI ps = some is → ps.map ppD = is.map PyData.int
  | [], is, h => by simp [allI] at h; subst h; rfl
  | p :: ps, is, h => by
    simp only [allI] at h
    cases hp : nmW p with
    | none => simp [hp] at h
    | some i =>
      cases hq : allI ps with
      | none => simp [hp, hq] at h
      | some js =>
        simp [hp, hq] at h; subst h
        simp [ppD, hp, allI_some hq]
theorem allI_len : ∀ {ps : List Str} {is : List Int}, allI ps = some is → is.length = ps.length := fun h => by
  have := congrArg List.length (allI_some h); simpa using this.symm
theorem flat_pp (ps : List Str) : (ps.map ppD).all flatD = true := by
  rw [List.all_map, List.all_eq_true]
  intro p _
  simp only [Function.comp, ppD]
  cases nmW p <;> rfl
@[simp] theorem flat_none : flatD .none = true := rfl
@[simp] theorem flat_str {x : Str} : flatD (.str x) = true := rfl
@[simp] theorem flat_int {x : Int} : flatD (.int x) = true := rfl
/-- what split gives is no longer -/
theorem spl_len {c : Nat} : ∀ (l acc : List Nat), ∀ p ∈ TL.spl [c] 0 acc l, p.length ≤ acc.length + l.length
  | [], acc, p, h => by rw [TL.spl_nil] at h; simp at h; subst h; simp
  | x :: l, acc, p, h => by
    cases hx : TL.pre [c] (x :: l) with
    | true =>
      rw [TL.spl_hit hx] at h
      simp only [List.mem_cons] at h
      rcases h with rfl | h
      · omega
      · have := spl_len l [] p h
        simp at this ⊢; omega
    | false =>
      rw [TL.spl_miss hx] at h
      have := spl_len l (acc ++ [x]) p h
      simp at this ⊢; omega
theorem spl_num {c : Nat} : ∀ (l acc : List Nat), (TL.spl [c] 0 acc l).length ≤ l.length + 1
  | [], acc => by rw [TL.spl_nil]; simp
  | x :: l, acc => by
    cases hx : TL.pre [c] (x :: l) with
    | true => rw [TL.spl_hit hx]; have := spl_num (c := c) l []; simp at this ⊢; omega
    | false => rw [TL.spl_miss hx]; have := spl_num (c := c) l (acc ++ [x]); simp at this ⊢; omega
theorem spl_ne {c : Nat} : ∀ (l acc : List Nat), TL.spl [c] 0 acc l ≠ []
  | [], acc => by rw [TL.spl_nil]; simp
  | x :: l, acc => by
    cases hx : TL.pre [c] (x :: l) with
    | true => rw [TL.spl_hit hx]; simp
    | false => rw [TL.spl_miss hx]; exact spl_ne l _
theorem split_eq {w : Str} {c : Nat} (hc : c < 256) : Txt.split w ⟨#[c]⟩ = (TL.spl [c] 0 [] w.cps.toList).map SX.S := by
  have := SX.split_S (a := w.cps.toList) (b := [c]) (by simp) (by simpa using hc)
  rwa [SX.S_tl] at this
theorem split_len {w : Str} {c : Nat} (hc : c < 256) {p : Str} (h : p ∈ Txt.split w ⟨#[c]⟩) : p.length ≤ w.length := by
  rw [split_eq hc] at h
  obtain ⟨q, hq, rfl⟩ := List.mem_map.mp h
  have := spl_len _ _ q hq
  rw [SX.S_len, len_tl]; simpa using this
theorem split_num {w : Str} {c : Nat} (hc : c < 256) : (Txt.split w ⟨#[c]⟩).length ≤ w.length + 1 := by
  rw [split_eq hc, List.length_map, len_tl]; exact spl_num _ _
theorem split_ne {w : Str} {c : Nat} (hc : c < 256) : Txt.split w ⟨#[c]⟩ ≠ [] := by
  rw [split_eq hc]; simp [spl_ne]
@[simp] theorem k_split {a : Str} {c : Nat} {S : AS} : kSplit (.str a) (.str ⟨#[c]⟩) S = if c < 256 ∧ a.length + 2 ≤ 16777216 then .ok (.own ((Txt.split a ⟨#[c]⟩).map PyData.str)) S else .stuck := by
  simp only [kSplit, splitB]
  simp [Str.length]
theorem lit_comma : ("," : Str) = ⟨#[44]⟩ := rfl
theorem lit_sp : (" " : Str) = ⟨#[32]⟩ := rfl
theorem lit_nl : ("\n" : Str) = ⟨#[10]⟩ := rfl
@[simp] theorem k_split_c {a : Str} {S : AS} : kSplit (.str a) (.str ("," : Str)) S = if a.length ≤ 16777214 then .ok (.own ((pcs a).map PyData.str)) S else .stuck := by
  rw [lit_comma, k_split]; simp [pcs, lit_comma]
theorem pcs_len {w p : Str} (h : p ∈ pcs w) : p.length ≤ w.length := split_len (c := 44) (by decide) h
theorem pcs_num {w : Str} : (pcs w).length ≤ w.length + 1 := split_num (c := 44) (by decide)
theorem pcs_ne {w : Str} : pcs w ≠ [] := split_ne (c := 44) (by decide)
def oL : Option (List Int) → D
  | none => .none
  | some is => .tuple (is.map .int)
@[simp] theorem oL_none : oL none = .none := rfl
@[simp] theorem oL_some {is : List Int} : oL (some is) = .tuple (is.map .int) := rfl
@[simp] theorem isNone_oL {o : Option (List Int)} : DL.isNone (oL o) = o.isNone := by cases o <;> rfl
@[simp high] theorem k_in_pp {g : Bool → Bool} {ps : List Str} {S : AS} : kIn0 g .none (.list (ps.map ppD)) S = .ok (.dat (.bool (g (allI ps).isNone))) S := by
  show (if (flatD .none && (ps.map ppD).all flatD) = true then okB (g (inD .none (ps.map ppD))) S else .stuck) = _
  rw [flat_pp, allI_none]; rfl
theorem e_list_word {w : Str} (h : w.length ≤ 16777200) : g_list_word [some (.str w)] [] = .ok (.dat (oL (allI (pcs w)))) [] := by
  simp [g_list_word, fb_list_word, show w.length ≤ 16777214 by omega]
  rw [fComp_allM PyData.str ppD]
  rotate_left
  · intro p hp
    refine ⟨_, _, rfl, rfl, ?_⟩
    simp [e_number_of (w := p) (by have := pcs_len hp; omega), ppD]
  · have := pcs_num (w := w); omega
  simp
  cases q : allI (pcs w) with
  | none => simp
  | some is => simp [allI_some q]
/-- rising -/
def risB : List Int → Bool
  | a :: b :: r => decide (a < b) && risB (b :: r)
  | _ => true
theorem zip_ris : ∀ is : List Int, ((is.zip is.tail).all fun p => decide (p.1 < p.2)) = risB is
  | [] => rfl
  | [a] => rfl
  | a :: b :: r => by
    have := zip_ris (b :: r)
    simp only [List.tail_cons] at this ⊢
    rw [List.zip_cons_cons, List.all_cons, this]
    rfl
@[simp] theorem cut_from {α : Type} {xs : List α} {k : Nat} : cutD xs (some (k : Int)) none = xs.drop k := by
  unfold DL.cutD
  rw [HT.sIx_none, HT.sIx_nat]
  rcases Nat.le_total k xs.length with h | h
  · rw [Nat.min_eq_left h, List.take_of_length_le (by simp)]
  · rw [Nat.min_eq_right h, List.drop_eq_nil_of_le (Nat.le_refl _), List.drop_eq_nil_of_le h]; simp
@[simp] theorem cut_from1 {α : Type} {xs : List α} : cutD xs (some 1) none = xs.tail := by rw [← List.drop_one]; exact cut_from (k := 1)
@[simp] theorem cut_to {α : Type} {xs : List α} {k : Nat} : cutD xs none (some (k : Int)) = xs.take k := by
  unfold DL.cutD
  rw [HT.sIx_none, HT.sIx_nat, List.drop_zero, Nat.sub_zero]
  rcases Nat.le_total k xs.length with h | h
  · rw [Nat.min_eq_left h]
  · rw [Nat.min_eq_right h, List.take_of_length_le (Nat.le_refl _), List.take_of_length_le h]
theorem cut_mid {α : Type} {xs : List α} {i j : Nat} : cutD xs (some (i : Int)) (some (j : Int)) = (xs.drop i).take (j - i) := by
  unfold DL.cutD
  rw [HT.sIx_nat, HT.sIx_nat]
  rcases Nat.le_total i xs.length with h | h
  · rw [Nat.min_eq_left h]
    rcases Nat.le_total j xs.length with h2 | h2
    · rw [Nat.min_eq_left h2]
    · rw [Nat.min_eq_right h2, List.take_of_length_le (by simp), List.take_of_length_le (by simp; omega)]
  · rw [Nat.min_eq_right h, List.drop_eq_nil_of_le (Nat.le_refl _), List.drop_eq_nil_of_le h]; simp
def prD (p : Int × Int) : D := .tuple [.int p.1, .int p.2]
theorem zipD_int (is js : List Int) : zipD (is.map PyData.int) (js.map PyData.int) = (is.zip js).map prD := by
  unfold zipD
  rw [List.zip_map, List.map_map]; rfl
theorem kAll_ris {is : List Int} {S : AS} : kAll [.list ((is.zip is.tail).map fun p => PyData.bool (decide (p.1 < p.2)))] S = .ok (.dat (.bool (risB is))) S := by
  rw [kAll_q, zip_ris]
def lotW (w : Str) : Option (List Int) := (allI (pcs w)).bind fun is => if risB is = true then some is else none
theorem e_lot_word {w : Str} (h : w.length ≤ 16777200) : g_lot_word [some (.str w)] [] = .ok (.dat (oL (lotW w))) [] := by
  simp [g_lot_word, fb_lot_word, e_list_word h]
  cases q : allI (pcs w) with
  | none => simp [lotW, q]
  | some is =>
    simp
    rw [← List.map_tail, zipD_int, fComp_allM prD (fun p => .bool (decide (p.1 < p.2)))]
    rotate_left
    · intro p hp
      refine ⟨_, _, rfl, rfl, ?_⟩
      simp
    · have h1 := allI_len q
      have := pcs_num (w := w)
      simp [List.length_zip]; omega
    simp [kAll_ris]
    cases r : risB is <;> simp [lotW, q, r]
end K78

set_option maxRecDepth 100000
set_option maxHeartbeats 1000000
/-! PL4: sketches, their words, the reading of words -/
namespace K78
open PySem PySem.Spec PyProof.Rows L2 LamX DL
inductive Sk where
  | lf (w : Str)
  | nm (w : Str) (n : Int)
  | tw (x : Sk)
  | pr (x y : Sk)
  | pt (w : Str) (x : Sk) (ks : List Int)
abbrev wO : Str := "order"
abbrev wN : Str := "nest"
abbrev wS : Str := "span"
abbrev wF : Str := "far"
abbrev wR : Str := "rank"
abbrev wD : Str := "dial"
abbrev wT : Str := "twin"
abbrev wP : Str := "part"
abbrev wL : Str := "lump"
abbrev wM : Str := "*"
abbrev wA : Str := "("
abbrev wZ : Str := ")"
def isLf (w : Str) : Bool := decide (w = wO) || decide (w = wN) || decide (w = wS)
def isNm (w : Str) : Bool := decide (w = wF) || decide (w = wR) || decide (w = wD)
def topOf (w : Str) : Int := if w = wD then 13 else 12
namespace Sk
def toD : Sk → D
  | lf w => .tuple [.str w]
  | nm w n => .tuple [.str w, .int n]
  | tw x => .tuple [.str wT, x.toD]
  | pr x y => .tuple [.str ("product" : Str), x.toD, y.toD]
  | pt w x ks => .tuple [.str w, x.toD, .tuple (ks.map .int)]
def deep : Sk → Nat
  | lf _ => 1
  | nm _ _ => 1
  | tw x => x.deep + 1
  | pr x y => max x.deep y.deep + 1
  | pt _ x _ => x.deep + 1
def leaves : Sk → Nat
  | lf _ => 1
  | nm _ _ => 1
  | tw x => x.leaves
  | pr x y => x.leaves + y.leaves
  | pt _ x _ => x.leaves
def isLeaf : Sk → Bool
  | lf _ => true
  | nm _ _ => true
  | _ => false
end Sk
def lsIn (ks : List Int) : Bool := ks.all fun k => decide (0 ≤ k) && decide (k ≤ 12)
/-- what stands behind part or lump -/
def lsOk (w : Str) (ks : List Int) : Prop := ks ≠ [] ∧ ks.length ≤ 13 ∧ lsIn ks = true ∧ (w = wP ∧ risB ks = true ∨ w = wL)
namespace Sk
def ok : Sk → Prop
  | lf w => isLf w = true
  | nm w n => isNm w = true ∧ 1 ≤ n ∧ n ≤ topOf w
  | tw x => x.ok
  | pr x y => x.ok ∧ y.ok
  | pt w x ks => x.ok ∧ lsOk w ks
end Sk
/-! ### the reading -/
inductive Rd where
  | told (s : Sk) (r : List Str)
  | wrong (r : List Str)
def maxI : List Int → Int
  | [] => 0
  | n :: ns => ns.foldl max n
def lstW (w v : Str) : Option (List Int) := (allI (pcs v)).bind fun is => if maxI is < 13 ∧ is.length ≤ 13 ∧ (w = wP → risB is = true) then some is else none
def unL (w : Str) (r : List Str) : Rd := if isLf w = true then .told (.lf w) r else
    match r with
    | [] => .wrong r
    | v :: r' => match nmW v with
      | some n => if 1 ≤ n ∧ n ≤ topOf w then .told (.nm w n) r' else .wrong r
      | none => .wrong r
def slW (pu : List Str → Rd) : Nat → Sk → List Str → Rd
  | 0, s, r => .told s r
  | _ + 1, s, [] => .told s []
  | k + 1, s, w :: r =>
    if w = wT then slW pu k (.tw s) r
    else if w = wM then (match pu r with
      | .told y r' => slW pu k (.pr s y) r'
      | .wrong e => .wrong e)
    else if w = wP ∨ w = wL then (match r with
      | [] => .wrong []
      | v :: r' => match lstW w v with
        | some ks => slW pu k (.pt w s ks) r'
        | none => .wrong r)
    else .told s (w :: r)
/-- N: how often the loop may go; n: how many brackets may still be opened -/
def puW (N : Nat) : Nat → List Str → Rd
  | _, [] => .wrong []
  | n, w :: r =>
    if isLf w = true ∨ isNm w = true then unL w r
    else if w = wA then (match n with
      | 0 => .wrong (w :: r)
      | n + 1 => match puW N n r with
        | .wrong e => .wrong e
        | .told s r1 => match slW (puW N n) N s r1 with
          | .wrong e => .wrong e
          | .told s r2 => match r2 with
            | [] => .wrong []
            | v :: r3 => if v = wZ then .told s r3 else .wrong r2)
    else .wrong (w :: r)
def psW (N n : Nat) (r : List Str) : Rd := match puW N n r with
  | .wrong e => .wrong e
  | .told s r1 => slW (puW N n) N s r1
end K78

set_option maxRecDepth 100000
set_option maxHeartbeats 2000000
/-! PL5: the law's own reading of words is psW -/
namespace K78
open PySem PySem.Spec PyProof.Rows L2 LamX DL
/-! ### loops -/
def runL {σ : Type} (step : σ → D → Sum σ SV) : List D → σ → Sum σ SV
  | [], st => .inl st
  | d :: ds, st => match step st d with
    | .inl st' => runL step ds st'
    | .inr v => .inr v
def ForR {σ : Type} (fr : σ → AS) (Inv : σ → Prop) (o : Out) : Sum σ SV → Prop
  | .inl st' => o = .nx (fr st') ∧ Inv st'
  | .inr v => ∃ S2, o = .rt v S2 ∧ lastP S2 = []
def StepR {σ : Type} (fr : σ → AS) (Inv : σ → Prop) (wp : List Nat) (o : Out) : Sum σ SV → Prop
  | .inl st' => Inv st' ∧ ∃ S2, o = .nx S2 ∧ wipeS S2 wp = fr st'
  | .inr v => ∃ S2, o = .rt v S2 ∧ lastP S2 = []
theorem gFor_step {σ : Type} (fr : σ → AS) (Inv : σ → Prop) (step : σ → D → Sum σ SV) {bd : D → AS → Option AS} {b : AS → Out} {wp : List Nat} : ∀ (ds : List D) (st : σ), Inv st →
    (∀ st d, d ∈ ds → Inv st → ∃ S1, bd d (fr st) = some S1 ∧ StepR fr Inv wp (b S1) (step st d)) →
    ForR fr Inv (gFor bd b wp ds (fr st)) (runL step ds st)
  | [], st, hi, _ => ⟨rfl, hi⟩
  | d :: ds, st, hi, h => by
    obtain ⟨S1, h1, h2⟩ := h st d (by simp) hi
    have ih := fun st' hi' => gFor_step fr Inv step (bd := bd) (b := b) (wp := wp) ds st' hi' (fun st d hd => h st d (by simp [hd]))
    simp only [gFor, h1, runL]
    cases hs : step st d with
    | inl st' =>
      rw [hs] at h2
      obtain ⟨hi', S2, h3, h4⟩ := h2
      rw [h3, p_loop_nx, h4]
      exact ih st' hi'
    | inr v =>
      rw [hs] at h2
      obtain ⟨S2, h3, h4⟩ := h2
      exact ⟨S2, by rw [h3]; rfl, h4⟩
@[simp] theorem min64 {a b : Nat} (h : b ≤ 64) : (min a b ≤ 64) = True := eq_true (by omega)
abbrev wsD (ws : List Str) : D := .list (ws.map .str)
def wAt (ws : List Str) (k : Nat) : Option Str := ws[k]?
theorem at_ws {ws : List Str} {k : Nat} : atI (ws.map PyData.str) (k : Int) = (wAt ws k).map .str := by rw [at_nat, wAt]; simp
theorem wAt_some {ws : List Str} {k : Nat} {w : Str} (h : wAt ws k = some w) : k < ws.length ∧ w ∈ ws := by
  obtain ⟨h1, h2⟩ := List.getElem?_eq_some_iff.mp h
  exact ⟨h1, by rw [← h2]; exact List.getElem_mem _⟩
theorem wAt_none {ws : List Str} {k : Nat} (h : wAt ws k = none) : ws.length ≤ k := by simpa [wAt] using h
def nmIn (lo hi : Int) (o : Option Int) : Option Int := o.bind fun n => if lo ≤ n ∧ n ≤ hi then some n else none
theorem e_within {ws : List Str} {at_ : Nat} {lo hi : Int} (hw : ∀ w ∈ ws, w.length ≤ 16777210) : g__law_tt_within [some (wsD ws), some (.int at_), some (.int lo), some (.int hi)] [] = .ok (.dat (oI (nmIn lo hi ((wAt ws at_).bind nmW)))) [] := by
  cases h : wAt ws at_ with
  | none =>
    have h1 : ¬ (at_ < ws.length) := Nat.not_lt.mpr (wAt_none h)
    simp [g__law_tt_within, fb__law_tt_within, h1, nmIn, DL.isNone]
  | some w =>
    obtain ⟨h1, h3⟩ := wAt_some h
    simp [g__law_tt_within, fb__law_tt_within, h1, at_ws, h, e_figures (hw w h3)]
    cases q : nmW w with
    | none => simp [nmIn, DL.isNone]
    | some n => by_cases a1 : lo ≤ n <;> by_cases a2 : n ≤ hi <;> simp [nmIn, a1, a2, DL.isNone]
theorem asInts_i {is : List Int} : asInts (is.map PyData.int) = some is := by
  induction is with
  | nil => rfl
  | cons i r ih => simp [asInts, ih]
theorem kMax_i {is : List Int} {S : AS} (h : is ≠ []) : kMax [.list (is.map PyData.int)] S = .ok (.dat (.int (maxI is))) S := by
  cases is with
  | nil => exact absurd rfl h
  | cons n ns => simp only [kMax, kMm, asInts_i]; rfl
theorem kMax_t {is : List Int} {S : AS} (h : is ≠ []) : kMax [.tuple (is.map PyData.int)] S = .ok (.dat (.int (maxI is))) S := by
  cases is with
  | nil => exact absurd rfl h
  | cons n ns => simp only [kMax, kMm, asInts_i]; rfl
theorem allI_ne {ps : List Str} {is : List Int} (h : allI ps = some is) (hn : ps ≠ []) : is ≠ [] := fun e => by
  have := allI_len h
  subst e
  exact hn (List.length_eq_zero_iff.mp this.symm)
def rgD (i : Nat) : D := .int (1 + i)
theorem range1 {n : Nat} : rangeD 1 n = (List.range n).map rgD := rfl
/-- the law's way to ask for rising -/
theorem ris_fil : ∀ is : List Int, ((List.range (is.length - 1)).all fun i => !decide (is.getD (i + 1) 0 ≤ is.getD i 0)) = risB is
  | [] => rfl
  | [a] => rfl
  | a :: b :: r => by
    have := ris_fil (b :: r)
    simp only [List.length_cons, Nat.add_sub_cancel] at this ⊢
    rw [List.range_succ_eq_map, List.all_cons, List.all_map, risB, ← this]
    congr 1
    simp only [List.getD_cons_succ, List.getD_cons_zero]
    by_cases q : b ≤ a <;> simp [q] <;> omega
theorem getD_of {is : List Int} {i : Nat} (h : i < is.length) : (is.map PyData.int)[i]? = some (.int (is.getD i 0)) := by
  rw [List.getElem?_map, List.getElem?_eq_getElem h, List.getD_eq_getElem?_getD, List.getElem?_eq_getElem h]; rfl
def lisO (b : Bool) (v : Str) : Option (List Int) := (allI (pcs v)).bind fun is => if maxI is < 13 ∧ (b = true → risB is = true) then some is else none
theorem e_listed {ws : List Str} {at_ : Nat} {b : Bool} (hw : ∀ w ∈ ws, w.length ≤ 16777200) : g__law_tt_listed [some (wsD ws), some (.int at_), some (.bool b), some (.int 13)] [] = .ok (.dat (oL ((wAt ws at_).bind (lisO b)))) [] := by
  cases h : wAt ws at_ with
  | none =>
    have h1 : (ws.length ≤ at_) := wAt_none h
    simp [g__law_tt_listed, fb__law_tt_listed, h1]
  | some w =>
    obtain ⟨h1, h3⟩ := wAt_some h
    have h4 := hw w h3
    simp [g__law_tt_listed, fb__law_tt_listed, show ¬ (ws.length ≤ at_) by omega, at_ws, h, show w.length ≤ 16777214 by omega]
    rw [fComp_allM PyData.str ppD]
    rotate_left
    · intro p hp
      refine ⟨_, _, rfl, rfl, ?_⟩
      simp [e_figures (w := p) (by have := pcs_len hp; omega), ppD]
    · have := pcs_num (w := w); omega
    simp
    cases q : allI (pcs w) with
    | none => simp [lisO, q]
    | some is =>
      have hne := allI_ne q pcs_ne
      have hle := allI_len q
      have hp := pcs_num (w := w)
      have hpos : 0 < is.length := List.length_pos_iff.mpr hne
      simp [DL.isNone, allI_some q, kMax_i hne]
      by_cases a1 : 13 ≤ maxI is
      · simp [a1, lisO, q, Int.not_lt.mpr a1]
      · have a2 : maxI is < 13 := Int.not_le.mp a1
        cases b with
        | false => simp [a1, lisO, q, a2]
        | true =>
          simp [a1, rg_nat (show is.length ≤ 1000000000 by omega)]
          rw [range1, fComp_filM rgD (fun i => decide (is.getD (i + 1) 0 ≤ is.getD i 0))]
          rotate_left
          · intro i hi
            have hi' := List.mem_range.mp hi
            have e1 : atI (is.map PyData.int) (1 + (i : Int) - 1) = some (.int (is.getD i 0)) := by
              rw [show (1 + (i : Int) - 1) = ((i : Nat) : Int) by omega, at_nat, getD_of (by omega)]
            have e2 : atI (is.map PyData.int) (1 + (i : Int)) = some (.int (is.getD (i + 1) 0)) := by
              rw [show (1 + (i : Int)) = ((i + 1 : Nat) : Int) by omega, at_nat, getD_of (by omega)]
            refine ⟨_, _, rfl, (by simp [rgD, e1, e2]; exact rfl), fun _ => ?_, ?_⟩
            · simp [rgD]
            · simp
          · simp; omega
          have e3 : (((List.range (is.length - 1)).filter (fun i => decide (is.getD (i + 1) 0 ≤ is.getD i 0))).map rgD).isEmpty = risB is := by rw [fil_emp, ris_fil]
          simp only [Rs.bind_ok, p_wipe1, p_wipe0, p_fzR_ok, p_frz_own, p_fLst, p_fNil, p_okLst, List.length_nil, k_ne, dep_nilL, min1_64, eqv_nilL, e3]
          cases hr : risB is <;> simp [lisO, q, a2, hr]
end K78

/-! PLW: words that differ -/
namespace K78
open PySem
@[simp] theorem wn_order_nest : (("order" : Str) = ("nest" : Str)) = False := eq_false (by decide +kernel)
@[simp] theorem wn_order_span : (("order" : Str) = ("span" : Str)) = False := eq_false (by decide +kernel)
@[simp] theorem wn_order_far : (("order" : Str) = ("far" : Str)) = False := eq_false (by decide +kernel)
@[simp] theorem wn_order_rank : (("order" : Str) = ("rank" : Str)) = False := eq_false (by decide +kernel)
@[simp] theorem wn_order_dial : (("order" : Str) = ("dial" : Str)) = False := eq_false (by decide +kernel)
@[simp] theorem wn_order_twin : (("order" : Str) = ("twin" : Str)) = False := eq_false (by decide +kernel)
@[simp] theorem wn_order_part : (("order" : Str) = ("part" : Str)) = False := eq_false (by decide +kernel)
@[simp] theorem wn_order_lump : (("order" : Str) = ("lump" : Str)) = False := eq_false (by decide +kernel)
@[simp] theorem wn_order_product : (("order" : Str) = ("product" : Str)) = False := eq_false (by decide +kernel)
@[simp] theorem wn_order_st : (("order" : Str) = ("*" : Str)) = False := eq_false (by decide +kernel)
@[simp] theorem wn_order_op : (("order" : Str) = ("(" : Str)) = False := eq_false (by decide +kernel)
@[simp] theorem wn_order_cl : (("order" : Str) = (")" : Str)) = False := eq_false (by decide +kernel)
@[simp] theorem wn_order_told : (("order" : Str) = ("told" : Str)) = False := eq_false (by decide +kernel)
@[simp] theorem wn_order_wrong : (("order" : Str) = ("wrong" : Str)) = False := eq_false (by decide +kernel)
@[simp] theorem wn_order_no : (("order" : Str) = ("" : Str)) = False := eq_false (by decide +kernel)
@[simp] theorem wn_nest_order : (("nest" : Str) = ("order" : Str)) = False := eq_false (by decide +kernel)
@[simp] theorem wn_nest_span : (("nest" : Str) = ("span" : Str)) = False := eq_false (by decide +kernel)
@[simp] theorem wn_nest_far : (("nest" : Str) = ("far" : Str)) = False := eq_false (by decide +kernel)
@[simp] theorem wn_nest_rank : (("nest" : Str) = ("rank" : Str)) = False := eq_false (by decide +kernel)
@[simp] theorem wn_nest_dial : (("nest" : Str) = ("dial" : Str)) = False := eq_false (by decide +kernel)
@[simp] theorem wn_nest_twin : (("nest" : Str) = ("twin" : Str)) = False := eq_false (by decide +kernel)
@[simp] theorem wn_nest_part : (("nest" : Str) = ("part" : Str)) = False := eq_false (by decide +kernel)
@[simp] theorem wn_nest_lump : (("nest" : Str) = ("lump" : Str)) = False := eq_false (by decide +kernel)
@[simp] theorem wn_nest_product : (("nest" : Str) = ("product" : Str)) = False := eq_false (by decide +kernel)
@[simp] theorem wn_nest_st : (("nest" : Str) = ("*" : Str)) = False := eq_false (by decide +kernel)
@[simp] theorem wn_nest_op : (("nest" : Str) = ("(" : Str)) = False := eq_false (by decide +kernel)
@[simp] theorem wn_nest_cl : (("nest" : Str) = (")" : Str)) = False := eq_false (by decide +kernel)
@[simp] theorem wn_nest_told : (("nest" : Str) = ("told" : Str)) = False := eq_false (by decide +kernel)
@[simp] theorem wn_nest_wrong : (("nest" : Str) = ("wrong" : Str)) = False := eq_false (by decide +kernel)
@[simp] theorem wn_nest_no : (("nest" : Str) = ("" : Str)) = False := eq_false (by decide +kernel)
@[simp] theorem wn_span_order : (("span" : Str) = ("order" : Str)) = False := eq_false (by decide +kernel)
@[simp] theorem wn_span_nest : (("span" : Str) = ("nest" : Str)) = False := eq_false (by decide +kernel)
@[simp] theorem wn_span_far : (("span" : Str) = ("far" : Str)) = False := eq_false (by decide +kernel)
@[simp] theorem wn_span_rank : (("span" : Str) = ("rank" : Str)) = False := eq_false (by decide +kernel)
@[simp] theorem wn_span_dial : (("span" : Str) = ("dial" : Str)) = False := eq_false (by decide +kernel)
@[simp] theorem wn_span_twin : (("span" : Str) = ("twin" : Str)) = False := eq_false (by decide +kernel)
@[simp] theorem wn_span_part : (("span" : Str) = ("part" : Str)) = False := eq_false (by decide +kernel)
@[simp] theorem wn_span_lump : (("span" : Str) = ("lump" : Str)) = False := eq_false (by decide +kernel)
@[simp] theorem wn_span_product : (("span" : Str) = ("product" : Str)) = False := eq_false (by decide +kernel)
@[simp] theorem wn_span_st : (("span" : Str) = ("*" : Str)) = False := eq_false (by decide +kernel)
@[simp] theorem wn_span_op : (("span" : Str) = ("(" : Str)) = False := eq_false (by decide +kernel)
@[simp] theorem wn_span_cl : (("span" : Str) = (")" : Str)) = False := eq_false (by decide +kernel)
@[simp] theorem wn_span_told : (("span" : Str) = ("told" : Str)) = False := eq_false (by decide +kernel)
@[simp] theorem wn_span_wrong : (("span" : Str) = ("wrong" : Str)) = False := eq_false (by decide +kernel)
@[simp] theorem wn_span_no : (("span" : Str) = ("" : Str)) = False := eq_false (by decide +kernel)
@[simp] theorem wn_far_order : (("far" : Str) = ("order" : Str)) = False := eq_false (by decide +kernel)
@[simp] theorem wn_far_nest : (("far" : Str) = ("nest" : Str)) = False := eq_false (by decide +kernel)
@[simp] theorem wn_far_span : (("far" : Str) = ("span" : Str)) = False := eq_false (by decide +kernel)
@[simp] theorem wn_far_rank : (("far" : Str) = ("rank" : Str)) = False := eq_false (by decide +kernel)
@[simp] theorem wn_far_dial : (("far" : Str) = ("dial" : Str)) = False := eq_false (by decide +kernel)
@[simp] theorem wn_far_twin : (("far" : Str) = ("twin" : Str)) = False := eq_false (by decide +kernel)
@[simp] theorem wn_far_part : (("far" : Str) = ("part" : Str)) = False := eq_false (by decide +kernel)
@[simp] theorem wn_far_lump : (("far" : Str) = ("lump" : Str)) = False := eq_false (by decide +kernel)
@[simp] theorem wn_far_product : (("far" : Str) = ("product" : Str)) = False := eq_false (by decide +kernel)
@[simp] theorem wn_far_st : (("far" : Str) = ("*" : Str)) = False := eq_false (by decide +kernel)
@[simp] theorem wn_far_op : (("far" : Str) = ("(" : Str)) = False := eq_false (by decide +kernel)
@[simp] theorem wn_far_cl : (("far" : Str) = (")" : Str)) = False := eq_false (by decide +kernel)
@[simp] theorem wn_far_told : (("far" : Str) = ("told" : Str)) = False := eq_false (by decide +kernel)
@[simp] theorem wn_far_wrong : (("far" : Str) = ("wrong" : Str)) = False := eq_false (by decide +kernel)
@[simp] theorem wn_far_no : (("far" : Str) = ("" : Str)) = False := eq_false (by decide +kernel)
@[simp] theorem wn_rank_order : (("rank" : Str) = ("order" : Str)) = False := eq_false (by decide +kernel)
@[simp] theorem wn_rank_nest : (("rank" : Str) = ("nest" : Str)) = False := eq_false (by decide +kernel)
@[simp] theorem wn_rank_span : (("rank" : Str) = ("span" : Str)) = False := eq_false (by decide +kernel)
@[simp] theorem wn_rank_far : (("rank" : Str) = ("far" : Str)) = False := eq_false (by decide +kernel)
@[simp] theorem wn_rank_dial : (("rank" : Str) = ("dial" : Str)) = False := eq_false (by decide +kernel)
@[simp] theorem wn_rank_twin : (("rank" : Str) = ("twin" : Str)) = False := eq_false (by decide +kernel)
@[simp] theorem wn_rank_part : (("rank" : Str) = ("part" : Str)) = False := eq_false (by decide +kernel)
@[simp] theorem wn_rank_lump : (("rank" : Str) = ("lump" : Str)) = False := eq_false (by decide +kernel)
@[simp] theorem wn_rank_product : (("rank" : Str) = ("product" : Str)) = False := eq_false (by decide +kernel)
@[simp] theorem wn_rank_st : (("rank" : Str) = ("*" : Str)) = False := eq_false (by decide +kernel)
@[simp] theorem wn_rank_op : (("rank" : Str) = ("(" : Str)) = False := eq_false (by decide +kernel)
@[simp] theorem wn_rank_cl : (("rank" : Str) = (")" : Str)) = False := eq_false (by decide +kernel)
@[simp] theorem wn_rank_told : (("rank" : Str) = ("told" : Str)) = False := eq_false (by decide +kernel)
@[simp] theorem wn_rank_wrong : (("rank" : Str) = ("wrong" : Str)) = False := eq_false (by decide +kernel)
@[simp] theorem wn_rank_no : (("rank" : Str) = ("" : Str)) = False := eq_false (by decide +kernel)
@[simp] theorem wn_dial_order : (("dial" : Str) = ("order" : Str)) = False := eq_false (by decide +kernel)
@[simp] theorem wn_dial_nest : (("dial" : Str) = ("nest" : Str)) = False := eq_false (by decide +kernel)
@[simp] theorem wn_dial_span : (("dial" : Str) = ("span" : Str)) = False := eq_false (by decide +kernel)
@[simp] theorem wn_dial_far : (("dial" : Str) = ("far" : Str)) = False := eq_false (by decide +kernel)
@[simp] theorem wn_dial_rank : (("dial" : Str) = ("rank" : Str)) = False := eq_false (by decide +kernel)
@[simp] theorem wn_dial_twin : (("dial" : Str) = ("twin" : Str)) = False := eq_false (by decide +kernel)
@[simp] theorem wn_dial_part : (("dial" : Str) = ("part" : Str)) = False := eq_false (by decide +kernel)
@[simp] theorem wn_dial_lump : (("dial" : Str) = ("lump" : Str)) = False := eq_false (by decide +kernel)
@[simp] theorem wn_dial_product : (("dial" : Str) = ("product" : Str)) = False := eq_false (by decide +kernel)
@[simp] theorem wn_dial_st : (("dial" : Str) = ("*" : Str)) = False := eq_false (by decide +kernel)
@[simp] theorem wn_dial_op : (("dial" : Str) = ("(" : Str)) = False := eq_false (by decide +kernel)
@[simp] theorem wn_dial_cl : (("dial" : Str) = (")" : Str)) = False := eq_false (by decide +kernel)
@[simp] theorem wn_dial_told : (("dial" : Str) = ("told" : Str)) = False := eq_false (by decide +kernel)
@[simp] theorem wn_dial_wrong : (("dial" : Str) = ("wrong" : Str)) = False := eq_false (by decide +kernel)
@[simp] theorem wn_dial_no : (("dial" : Str) = ("" : Str)) = False := eq_false (by decide +kernel)
@[simp] theorem wn_twin_order : (("twin" : Str) = ("order" : Str)) = False := eq_false (by decide +kernel)
@[simp] theorem wn_twin_nest : (("twin" : Str) = ("nest" : Str)) = False := eq_false (by decide +kernel)
@[simp] theorem wn_twin_span : (("twin" : Str) = ("span" : Str)) = False := eq_false (by decide +kernel)
@[simp] theorem wn_twin_far : (("twin" : Str) = ("far" : Str)) = False := eq_false (by decide +kernel)
@[simp] theorem wn_twin_rank : (("twin" : Str) = ("rank" : Str)) = False := eq_false (by decide +kernel)
@[simp] theorem wn_twin_dial : (("twin" : Str) = ("dial" : Str)) = False := eq_false (by decide +kernel)
@[simp] theorem wn_twin_part : (("twin" : Str) = ("part" : Str)) = False := eq_false (by decide +kernel)
@[simp] theorem wn_twin_lump : (("twin" : Str) = ("lump" : Str)) = False := eq_false (by decide +kernel)
@[simp] theorem wn_twin_product : (("twin" : Str) = ("product" : Str)) = False := eq_false (by decide +kernel)
@[simp] theorem wn_twin_st : (("twin" : Str) = ("*" : Str)) = False := eq_false (by decide +kernel)
@[simp] theorem wn_twin_op : (("twin" : Str) = ("(" : Str)) = False := eq_false (by decide +kernel)
@[simp] theorem wn_twin_cl : (("twin" : Str) = (")" : Str)) = False := eq_false (by decide +kernel)
@[simp] theorem wn_twin_told : (("twin" : Str) = ("told" : Str)) = False := eq_false (by decide +kernel)
@[simp] theorem wn_twin_wrong : (("twin" : Str) = ("wrong" : Str)) = False := eq_false (by decide +kernel)
@[simp] theorem wn_twin_no : (("twin" : Str) = ("" : Str)) = False := eq_false (by decide +kernel)
@[simp] theorem wn_part_order : (("part" : Str) = ("order" : Str)) = False := eq_false (by decide +kernel)
@[simp] theorem wn_part_nest : (("part" : Str) = ("nest" : Str)) = False := eq_false (by decide +kernel)
@[simp] theorem wn_part_span : (("part" : Str) = ("span" : Str)) = False := eq_false (by decide +kernel)
@[simp] theorem wn_part_far : (("part" : Str) = ("far" : Str)) = False := eq_false (by decide +kernel)
@[simp] theorem wn_part_rank : (("part" : Str) = ("rank" : Str)) = False := eq_false (by decide +kernel)
@[simp] theorem wn_part_dial : (("part" : Str) = ("dial" : Str)) = False := eq_false (by decide +kernel)
@[simp] theorem wn_part_twin : (("part" : Str) = ("twin" : Str)) = False := eq_false (by decide +kernel)
@[simp] theorem wn_part_lump : (("part" : Str) = ("lump" : Str)) = False := eq_false (by decide +kernel)
@[simp] theorem wn_part_product : (("part" : Str) = ("product" : Str)) = False := eq_false (by decide +kernel)
@[simp] theorem wn_part_st : (("part" : Str) = ("*" : Str)) = False := eq_false (by decide +kernel)
@[simp] theorem wn_part_op : (("part" : Str) = ("(" : Str)) = False := eq_false (by decide +kernel)
@[simp] theorem wn_part_cl : (("part" : Str) = (")" : Str)) = False := eq_false (by decide +kernel)
@[simp] theorem wn_part_told : (("part" : Str) = ("told" : Str)) = False := eq_false (by decide +kernel)
@[simp] theorem wn_part_wrong : (("part" : Str) = ("wrong" : Str)) = False := eq_false (by decide +kernel)
@[simp] theorem wn_part_no : (("part" : Str) = ("" : Str)) = False := eq_false (by decide +kernel)
@[simp] theorem wn_lump_order : (("lump" : Str) = ("order" : Str)) = False := eq_false (by decide +kernel)
@[simp] theorem wn_lump_nest : (("lump" : Str) = ("nest" : Str)) = False := eq_false (by decide +kernel)
@[simp] theorem wn_lump_span : (("lump" : Str) = ("span" : Str)) = False := eq_false (by decide +kernel)
@[simp] theorem wn_lump_far : (("lump" : Str) = ("far" : Str)) = False := eq_false (by decide +kernel)
@[simp] theorem wn_lump_rank : (("lump" : Str) = ("rank" : Str)) = False := eq_false (by decide +kernel)
@[simp] theorem wn_lump_dial : (("lump" : Str) = ("dial" : Str)) = False := eq_false (by decide +kernel)
@[simp] theorem wn_lump_twin : (("lump" : Str) = ("twin" : Str)) = False := eq_false (by decide +kernel)
@[simp] theorem wn_lump_part : (("lump" : Str) = ("part" : Str)) = False := eq_false (by decide +kernel)
@[simp] theorem wn_lump_product : (("lump" : Str) = ("product" : Str)) = False := eq_false (by decide +kernel)
@[simp] theorem wn_lump_st : (("lump" : Str) = ("*" : Str)) = False := eq_false (by decide +kernel)
@[simp] theorem wn_lump_op : (("lump" : Str) = ("(" : Str)) = False := eq_false (by decide +kernel)
@[simp] theorem wn_lump_cl : (("lump" : Str) = (")" : Str)) = False := eq_false (by decide +kernel)
@[simp] theorem wn_lump_told : (("lump" : Str) = ("told" : Str)) = False := eq_false (by decide +kernel)
@[simp] theorem wn_lump_wrong : (("lump" : Str) = ("wrong" : Str)) = False := eq_false (by decide +kernel)
@[simp] theorem wn_lump_no : (("lump" : Str) = ("" : Str)) = False := eq_false (by decide +kernel)
@[simp] theorem wn_product_order : (("product" : Str) = ("order" : Str)) = False := eq_false (by decide +kernel)
@[simp] theorem wn_product_nest : (("product" : Str) = ("nest" : Str)) = False := eq_false (by decide +kernel)
@[simp] theorem wn_product_span : (("product" : Str) = ("span" : Str)) = False := eq_false (by decide +kernel)
@[simp] theorem wn_product_far : (("product" : Str) = ("far" : Str)) = False := eq_false (by decide +kernel)
@[simp] theorem wn_product_rank : (("product" : Str) = ("rank" : Str)) = False := eq_false (by decide +kernel)
@[simp] theorem wn_product_dial : (("product" : Str) = ("dial" : Str)) = False := eq_false (by decide +kernel)
@[simp] theorem wn_product_twin : (("product" : Str) = ("twin" : Str)) = False := eq_false (by decide +kernel)
@[simp] theorem wn_product_part : (("product" : Str) = ("part" : Str)) = False := eq_false (by decide +kernel)
@[simp] theorem wn_product_lump : (("product" : Str) = ("lump" : Str)) = False := eq_false (by decide +kernel)
@[simp] theorem wn_product_st : (("product" : Str) = ("*" : Str)) = False := eq_false (by decide +kernel)
@[simp] theorem wn_product_op : (("product" : Str) = ("(" : Str)) = False := eq_false (by decide +kernel)
@[simp] theorem wn_product_cl : (("product" : Str) = (")" : Str)) = False := eq_false (by decide +kernel)
@[simp] theorem wn_product_told : (("product" : Str) = ("told" : Str)) = False := eq_false (by decide +kernel)
@[simp] theorem wn_product_wrong : (("product" : Str) = ("wrong" : Str)) = False := eq_false (by decide +kernel)
@[simp] theorem wn_product_no : (("product" : Str) = ("" : Str)) = False := eq_false (by decide +kernel)
@[simp] theorem wn_st_order : (("*" : Str) = ("order" : Str)) = False := eq_false (by decide +kernel)
@[simp] theorem wn_st_nest : (("*" : Str) = ("nest" : Str)) = False := eq_false (by decide +kernel)
@[simp] theorem wn_st_span : (("*" : Str) = ("span" : Str)) = False := eq_false (by decide +kernel)
@[simp] theorem wn_st_far : (("*" : Str) = ("far" : Str)) = False := eq_false (by decide +kernel)
@[simp] theorem wn_st_rank : (("*" : Str) = ("rank" : Str)) = False := eq_false (by decide +kernel)
@[simp] theorem wn_st_dial : (("*" : Str) = ("dial" : Str)) = False := eq_false (by decide +kernel)
@[simp] theorem wn_st_twin : (("*" : Str) = ("twin" : Str)) = False := eq_false (by decide +kernel)
@[simp] theorem wn_st_part : (("*" : Str) = ("part" : Str)) = False := eq_false (by decide +kernel)
@[simp] theorem wn_st_lump : (("*" : Str) = ("lump" : Str)) = False := eq_false (by decide +kernel)
@[simp] theorem wn_st_product : (("*" : Str) = ("product" : Str)) = False := eq_false (by decide +kernel)
@[simp] theorem wn_st_op : (("*" : Str) = ("(" : Str)) = False := eq_false (by decide +kernel)
@[simp] theorem wn_st_cl : (("*" : Str) = (")" : Str)) = False := eq_false (by decide +kernel)
@[simp] theorem wn_st_told : (("*" : Str) = ("told" : Str)) = False := eq_false (by decide +kernel)
@[simp] theorem wn_st_wrong : (("*" : Str) = ("wrong" : Str)) = False := eq_false (by decide +kernel)
@[simp] theorem wn_st_no : (("*" : Str) = ("" : Str)) = False := eq_false (by decide +kernel)
@[simp] theorem wn_op_order : (("(" : Str) = ("order" : Str)) = False := eq_false (by decide +kernel)
@[simp] theorem wn_op_nest : (("(" : Str) = ("nest" : Str)) = False := eq_false (by decide +kernel)
@[simp] theorem wn_op_span : (("(" : Str) = ("span" : Str)) = False := eq_false (by decide +kernel)
@[simp] theorem wn_op_far : (("(" : Str) = ("far" : Str)) = False := eq_false (by decide +kernel)
@[simp] theorem wn_op_rank : (("(" : Str) = ("rank" : Str)) = False := eq_false (by decide +kernel)
@[simp] theorem wn_op_dial : (("(" : Str) = ("dial" : Str)) = False := eq_false (by decide +kernel)
@[simp] theorem wn_op_twin : (("(" : Str) = ("twin" : Str)) = False := eq_false (by decide +kernel)
@[simp] theorem wn_op_part : (("(" : Str) = ("part" : Str)) = False := eq_false (by decide +kernel)
@[simp] theorem wn_op_lump : (("(" : Str) = ("lump" : Str)) = False := eq_false (by decide +kernel)
@[simp] theorem wn_op_product : (("(" : Str) = ("product" : Str)) = False := eq_false (by decide +kernel)
@[simp] theorem wn_op_st : (("(" : Str) = ("*" : Str)) = False := eq_false (by decide +kernel)
@[simp] theorem wn_op_cl : (("(" : Str) = (")" : Str)) = False := eq_false (by decide +kernel)
@[simp] theorem wn_op_told : (("(" : Str) = ("told" : Str)) = False := eq_false (by decide +kernel)
@[simp] theorem wn_op_wrong : (("(" : Str) = ("wrong" : Str)) = False := eq_false (by decide +kernel)
@[simp] theorem wn_op_no : (("(" : Str) = ("" : Str)) = False := eq_false (by decide +kernel)
@[simp] theorem wn_cl_order : ((")" : Str) = ("order" : Str)) = False := eq_false (by decide +kernel)
@[simp] theorem wn_cl_nest : ((")" : Str) = ("nest" : Str)) = False := eq_false (by decide +kernel)
@[simp] theorem wn_cl_span : ((")" : Str) = ("span" : Str)) = False := eq_false (by decide +kernel)
@[simp] theorem wn_cl_far : ((")" : Str) = ("far" : Str)) = False := eq_false (by decide +kernel)
@[simp] theorem wn_cl_rank : ((")" : Str) = ("rank" : Str)) = False := eq_false (by decide +kernel)
@[simp] theorem wn_cl_dial : ((")" : Str) = ("dial" : Str)) = False := eq_false (by decide +kernel)
@[simp] theorem wn_cl_twin : ((")" : Str) = ("twin" : Str)) = False := eq_false (by decide +kernel)
@[simp] theorem wn_cl_part : ((")" : Str) = ("part" : Str)) = False := eq_false (by decide +kernel)
@[simp] theorem wn_cl_lump : ((")" : Str) = ("lump" : Str)) = False := eq_false (by decide +kernel)
@[simp] theorem wn_cl_product : ((")" : Str) = ("product" : Str)) = False := eq_false (by decide +kernel)
@[simp] theorem wn_cl_st : ((")" : Str) = ("*" : Str)) = False := eq_false (by decide +kernel)
@[simp] theorem wn_cl_op : ((")" : Str) = ("(" : Str)) = False := eq_false (by decide +kernel)
@[simp] theorem wn_cl_told : ((")" : Str) = ("told" : Str)) = False := eq_false (by decide +kernel)
@[simp] theorem wn_cl_wrong : ((")" : Str) = ("wrong" : Str)) = False := eq_false (by decide +kernel)
@[simp] theorem wn_cl_no : ((")" : Str) = ("" : Str)) = False := eq_false (by decide +kernel)
@[simp] theorem wn_told_order : (("told" : Str) = ("order" : Str)) = False := eq_false (by decide +kernel)
@[simp] theorem wn_told_nest : (("told" : Str) = ("nest" : Str)) = False := eq_false (by decide +kernel)
@[simp] theorem wn_told_span : (("told" : Str) = ("span" : Str)) = False := eq_false (by decide +kernel)
@[simp] theorem wn_told_far : (("told" : Str) = ("far" : Str)) = False := eq_false (by decide +kernel)
@[simp] theorem wn_told_rank : (("told" : Str) = ("rank" : Str)) = False := eq_false (by decide +kernel)
@[simp] theorem wn_told_dial : (("told" : Str) = ("dial" : Str)) = False := eq_false (by decide +kernel)
@[simp] theorem wn_told_twin : (("told" : Str) = ("twin" : Str)) = False := eq_false (by decide +kernel)
@[simp] theorem wn_told_part : (("told" : Str) = ("part" : Str)) = False := eq_false (by decide +kernel)
@[simp] theorem wn_told_lump : (("told" : Str) = ("lump" : Str)) = False := eq_false (by decide +kernel)
@[simp] theorem wn_told_product : (("told" : Str) = ("product" : Str)) = False := eq_false (by decide +kernel)
@[simp] theorem wn_told_st : (("told" : Str) = ("*" : Str)) = False := eq_false (by decide +kernel)
@[simp] theorem wn_told_op : (("told" : Str) = ("(" : Str)) = False := eq_false (by decide +kernel)
@[simp] theorem wn_told_cl : (("told" : Str) = (")" : Str)) = False := eq_false (by decide +kernel)
@[simp] theorem wn_told_wrong : (("told" : Str) = ("wrong" : Str)) = False := eq_false (by decide +kernel)
@[simp] theorem wn_told_no : (("told" : Str) = ("" : Str)) = False := eq_false (by decide +kernel)
@[simp] theorem wn_wrong_order : (("wrong" : Str) = ("order" : Str)) = False := eq_false (by decide +kernel)
@[simp] theorem wn_wrong_nest : (("wrong" : Str) = ("nest" : Str)) = False := eq_false (by decide +kernel)
@[simp] theorem wn_wrong_span : (("wrong" : Str) = ("span" : Str)) = False := eq_false (by decide +kernel)
@[simp] theorem wn_wrong_far : (("wrong" : Str) = ("far" : Str)) = False := eq_false (by decide +kernel)
@[simp] theorem wn_wrong_rank : (("wrong" : Str) = ("rank" : Str)) = False := eq_false (by decide +kernel)
@[simp] theorem wn_wrong_dial : (("wrong" : Str) = ("dial" : Str)) = False := eq_false (by decide +kernel)
@[simp] theorem wn_wrong_twin : (("wrong" : Str) = ("twin" : Str)) = False := eq_false (by decide +kernel)
@[simp] theorem wn_wrong_part : (("wrong" : Str) = ("part" : Str)) = False := eq_false (by decide +kernel)
@[simp] theorem wn_wrong_lump : (("wrong" : Str) = ("lump" : Str)) = False := eq_false (by decide +kernel)
@[simp] theorem wn_wrong_product : (("wrong" : Str) = ("product" : Str)) = False := eq_false (by decide +kernel)
@[simp] theorem wn_wrong_st : (("wrong" : Str) = ("*" : Str)) = False := eq_false (by decide +kernel)
@[simp] theorem wn_wrong_op : (("wrong" : Str) = ("(" : Str)) = False := eq_false (by decide +kernel)
@[simp] theorem wn_wrong_cl : (("wrong" : Str) = (")" : Str)) = False := eq_false (by decide +kernel)
@[simp] theorem wn_wrong_told : (("wrong" : Str) = ("told" : Str)) = False := eq_false (by decide +kernel)
@[simp] theorem wn_wrong_no : (("wrong" : Str) = ("" : Str)) = False := eq_false (by decide +kernel)
@[simp] theorem wn_no_order : (("" : Str) = ("order" : Str)) = False := eq_false (by decide +kernel)
@[simp] theorem wn_no_nest : (("" : Str) = ("nest" : Str)) = False := eq_false (by decide +kernel)
@[simp] theorem wn_no_span : (("" : Str) = ("span" : Str)) = False := eq_false (by decide +kernel)
@[simp] theorem wn_no_far : (("" : Str) = ("far" : Str)) = False := eq_false (by decide +kernel)
@[simp] theorem wn_no_rank : (("" : Str) = ("rank" : Str)) = False := eq_false (by decide +kernel)
@[simp] theorem wn_no_dial : (("" : Str) = ("dial" : Str)) = False := eq_false (by decide +kernel)
@[simp] theorem wn_no_twin : (("" : Str) = ("twin" : Str)) = False := eq_false (by decide +kernel)
@[simp] theorem wn_no_part : (("" : Str) = ("part" : Str)) = False := eq_false (by decide +kernel)
@[simp] theorem wn_no_lump : (("" : Str) = ("lump" : Str)) = False := eq_false (by decide +kernel)
@[simp] theorem wn_no_product : (("" : Str) = ("product" : Str)) = False := eq_false (by decide +kernel)
@[simp] theorem wn_no_st : (("" : Str) = ("*" : Str)) = False := eq_false (by decide +kernel)
@[simp] theorem wn_no_op : (("" : Str) = ("(" : Str)) = False := eq_false (by decide +kernel)
@[simp] theorem wn_no_cl : (("" : Str) = (")" : Str)) = False := eq_false (by decide +kernel)
@[simp] theorem wn_no_told : (("" : Str) = ("told" : Str)) = False := eq_false (by decide +kernel)
@[simp] theorem wn_no_wrong : (("" : Str) = ("wrong" : Str)) = False := eq_false (by decide +kernel)
end K78

set_option maxRecDepth 100000
set_option maxHeartbeats 4000000
/-! PL6: the law's own reading of words is psW -/
namespace K78
open PySem PySem.Spec PyProof.Rows L2 LamX DL
namespace Rd
def rest : Rd → List Str
  | told _ r => r
  | wrong r => r
end Rd
theorem suf_at {ws r : List Str} (h : r <:+ ws) : ws.drop (ws.length - r.length) = r := by
  obtain ⟨t, rfl⟩ := h
  simp
theorem suf_wAt {ws r : List Str} (h : r <:+ ws) (h0 : r.length ≤ ws.length := h.length_le) : wAt ws (ws.length - r.length) = r.head? := by
  unfold wAt
  obtain ⟨t, rfl⟩ := h
  simp [List.getElem?_append_right, List.head?_eq_getElem?]
theorem slW_suf {pu : List Str → Rd} (hp : ∀ r, (pu r).rest <:+ r) : ∀ (k : Nat) (s : Sk) (r : List Str), (slW pu k s r).rest <:+ r
  | 0, s, r => List.suffix_refl r
  | k + 1, s, [] => List.suffix_refl _
  | k + 1, s, w :: r => by
    have ih := slW_suf hp k
    simp only [slW]
    split
    · exact (ih _ r).trans (List.suffix_cons w r)
    split
    · have h := hp r
      cases q : pu r with
      | told y r' => rw [q] at h; exact ((ih _ r').trans h).trans (List.suffix_cons w r)
      | wrong e => rw [q] at h; exact h.trans (List.suffix_cons w r)
    split
    · cases r with
      | nil => exact List.nil_suffix
      | cons v r' =>
        simp only
        cases lstW w v with
        | some ks => exact ((ih _ r').trans (List.suffix_cons v r')).trans (List.suffix_cons w _)
        | none => exact List.suffix_cons w _
    · exact List.suffix_refl _
theorem unL_suf (w : Str) (r : List Str) : (unL w r).rest <:+ r := by
  unfold unL
  split
  · exact List.suffix_refl _
  · cases r with
    | nil => exact List.suffix_refl _
    | cons v r' =>
      simp only
      split
      · split
        · exact List.suffix_cons v r'
        · exact List.suffix_refl _
      · exact List.suffix_refl _
theorem puW_suf (N : Nat) : ∀ (n : Nat) (r : List Str), (puW N n r).rest <:+ r
  | n, [] => by cases n <;> exact List.nil_suffix
  | 0, w :: r => by
    simp only [puW]
    split
    · exact (unL_suf w r).trans (List.suffix_cons w r)
    split <;> exact List.suffix_refl _
  | n + 1, w :: r => by
    have ih := puW_suf N n
    simp only [puW]
    split
    · exact (unL_suf w r).trans (List.suffix_cons w r)
    split
    · have h := ih r
      cases q : puW N n r with
      | wrong e => rw [q] at h; exact h.trans (List.suffix_cons w r)
      | told s r1 =>
        rw [q] at h
        simp only
        have h2 := slW_suf ih N s r1
        cases q2 : slW (puW N n) N s r1 with
        | wrong e => rw [q2] at h2; exact (h2.trans h).trans (List.suffix_cons w r)
        | told s r2 =>
          rw [q2] at h2
          cases r2 with
          | nil => exact List.nil_suffix
          | cons v r3 =>
            simp only
            split
            · exact ((List.suffix_cons v r3).trans (h2.trans h)).trans (List.suffix_cons w r)
            · exact (h2.trans h).trans (List.suffix_cons w r)
    · exact List.suffix_refl _
theorem psW_suf (N n : Nat) (r : List Str) : (psW N n r).rest <:+ r := by
  unfold psW
  have h := puW_suf N n r
  cases q : puW N n r with
  | wrong e => rw [q] at h; exact h
  | told s r1 => rw [q] at h; exact (slW_suf (puW_suf N n) N s r1).trans h
/-! ### in data -/
def rdD (n : Nat) : Rd → D
  | .told s r => .tuple [.str ("told" : Str), s.toD, .int ((n - r.length : Nat) : Int)]
  | .wrong r => .tuple [.str ("wrong" : Str), .int ((n - r.length : Nat) : Int)]
def lpStep (n : Nat) (pu : List Str → Rd) (sh : Rd) : Sum Rd SV := match sh with
  | .wrong e => .inr (.dat (rdD n (.wrong e)))
  | .told s [] => .inr (.dat (rdD n (.told s [])))
  | .told s (w :: r) => if w = wT then .inl (.told (.tw s) r)
    else if w = wM then .inl (match pu r with
      | .told y r' => .told (.pr s y) r'
      | .wrong e => .wrong e)
    else if w = wP ∨ w = wL then .inl (match r with
      | [] => .wrong []
      | v :: r' => match lstW w v with
        | some ks => .told (.pt w s ks) r'
        | none => .wrong r)
    else .inr (.dat (rdD n (.told s (w :: r))))
theorem run_wrong {n : Nat} {pu : List Str → Rd} {e : List Str} : ∀ ds : List D, runL (fun s _ => lpStep n pu s) ds (.wrong e) = .inl (.wrong e) ∨ runL (fun s _ => lpStep n pu s) ds (.wrong e) = .inr (.dat (rdD n (.wrong e)))
  | [] => .inl rfl
  | d :: ds => .inr rfl
theorem run_told {n : Nat} {pu : List Str → Rd} : ∀ (ds : List D) (s : Sk) (r : List Str),
    runL (fun s _ => lpStep n pu s) ds (.told s r) = .inl (slW pu ds.length s r) ∨ runL (fun s _ => lpStep n pu s) ds (.told s r) = .inr (.dat (rdD n (slW pu ds.length s r)))
  | [], s, r => .inl rfl
  | d :: ds, s, [] => .inr rfl
  | d :: ds, s, w :: r => by
    have ih := run_told (n := n) (pu := pu) ds
    simp only [List.length_cons, runL, slW, lpStep]
    by_cases h1 : w = wT
    · simp only [h1, if_true]; exact ih _ r
    · simp only [h1, if_false]
      by_cases h2 : w = wM
      · simp only [h2, if_true]
        cases pu r with
        | told y r' => exact ih _ r'
        | wrong e => exact run_wrong ds
      · simp only [h2, if_false]
        by_cases h3 : w = wP ∨ w = wL
        · simp only [h3, if_true]
          cases r with
          | nil => exact run_wrong ds
          | cons v r' =>
            simp only
            cases lstW w v with
            | some ks => exact ih _ r'
            | none => exact run_wrong ds
        · simp only [h3, if_false]
          simp

@[simp] theorem cut_one {α : Type} {xs : List α} {k : Nat} : DL.cutD xs (some (k : Int)) (some ((k : Int) + 1)) = (xs.drop k).take 1 := by
  rw [show ((k : Int) + 1) = ((k + 1 : Nat) : Int) by omega, cut_mid]; simp
@[simp] theorem dep_L1s {x : Str} : PyData.depth (.list [.str x]) = 1 := by simp [PyData.depth, PyData.depthAll]
@[simp] theorem eqv_L1 {x y : Str} : PyData.eqv (.list [.str x]) (.list [.str y]) = decide (x = y) := by rw [Bool.eq_iff_iff]; simp [PyData.eqv, PyData.eqvAll]
@[simp] theorem eqv_L0 {y : Str} : PyData.eqv (.list []) (.list [.str y]) = false := by simp [PyData.eqv, PyData.eqvAll]
theorem inD_3 {w a b c : Str} : inD (.str w) [.str a, .str b, .str c] = (decide (w = a) || (decide (w = b) || decide (w = c))) := by
  simp [inD, eq_comm]
theorem inD_4 {w a b c d : Str} : inD (.str w) [.str a, .str b, .str c, .str d] = (decide (w = a) || (decide (w = b) || (decide (w = c) || decide (w = d)))) := by
  simp [inD, eq_comm]
abbrev unitOk (ws : List Str) (m n : Nat) (r : List Str) : Prop := (q_rd m).1 [some (wsD ws), some (.int ((ws.length - r.length : Nat) : Int)), some (.int ((20 - n : Nat) : Int))] [] = .ok (.dat (rdD ws.length (puW ws.length n r))) []
abbrev skOk (ws : List Str) (m n : Nat) (r : List Str) : Prop := (q_rd m).2 [some (wsD ws), some (.int ((ws.length - r.length : Nat) : Int)), some (.int ((20 - n : Nat) : Int))] [] = .ok (.dat (rdD ws.length (psW ws.length n r))) []
theorem unL_top {w : Str} {r : List Str} (h : isLf w = false) : unL w r = match nmIn 1 (topOf w) (r.head?.bind nmW) with
    | some n => .told (.nm w n) r.tail
    | none => .wrong r := by
  unfold unL
  rw [if_neg (by rw [h]; exact Bool.false_ne_true)]
  cases r with
  | nil => rfl
  | cons v r' =>
    simp only [List.head?_cons, Option.bind_some, List.tail_cons]
    cases nmW v with
    | none => rfl
    | some n => by_cases c : 1 ≤ n ∧ n ≤ topOf w <;> simp [nmIn, c]
section
variable {ws : List Str}
theorem unit_leaf {m n : Nat} {w : Str} {r : List Str} (hr : w :: r <:+ ws) (h : isLf w = true) : unitOk ws (m + 1) n (w :: r) := by
  have ha := suf_wAt hr
  have hl := hr.length_le
  generalize he : ws.length - (w :: r).length = a at ha
  have h1 : a < ws.length := (wAt_some ha).1
  have e1 : ((a : Int) + 1) = ((ws.length - r.length : Nat) : Int) := by simp at he hl; omega
  have h2 : (decide (w = "order") || (decide (w = "nest") || decide (w = "span"))) = true := by rw [← h]; simp [isLf, Bool.or_assoc]
  have h3 : puW ws.length n (w :: r) = .told (.lf w) r := by
    cases n <;> simp [puW, h, unL]
  unfold unitOk
  rw [he, h3]
  simp [q_rd, fb__law_tt_unit_in, h1, at_ws, ha, inD_3, h2, e1, rdD, Sk.toD]
theorem unit_num (hw : ∀ w ∈ ws, w.length ≤ 16777200) {m n : Nat} {w : Str} {r : List Str} (hr : w :: r <:+ ws) (h0 : isLf w = false) (h : isNm w = true) : unitOk ws (m + 1) n (w :: r) := by
  have ha := suf_wAt hr
  have hl := hr.length_le
  have hr2 : r <:+ ws := (List.suffix_cons w r).trans hr
  have ha2 := suf_wAt hr2
  generalize he : ws.length - (w :: r).length = a at ha
  have h1 : a < ws.length := (wAt_some ha).1
  have e1 : ((a : Int) + 1) = ((ws.length - r.length : Nat) : Int) := by simp at he hl; omega
  have e2 : (decide (w = "order") || (decide (w = "nest") || decide (w = "span"))) = false := by rw [← h0]; simp [isLf, Bool.or_assoc]
  have e3 : (decide (w = "far") || (decide (w = "rank") || decide (w = "dial"))) = true := by rw [← h]; simp [isNm, Bool.or_assoc]
  have h3 : puW ws.length n (w :: r) = unL w r := by
    cases n <;> simp [puW, h]
  unfold unitOk
  rw [he, h3, unL_top h0]
  have e4 := e_within (ws := ws) (at_ := ws.length - r.length) (lo := 1) (hi := 13) (fun w h => by have := hw w h; omega)
  have e5 := e_within (ws := ws) (at_ := ws.length - r.length) (lo := 1) (hi := 12) (fun w h => by have := hw w h; omega)
  rw [ha2] at e4 e5
  have e6 : ws.length - r.length ≤ ws.length := by omega
  obtain ⟨b, hb⟩ : ∃ b, b = ws.length - r.length := ⟨_, rfl⟩
  rw [← hb] at e1 e4 e5 e6
  by_cases hd : w = "dial"
  · subst hd
    simp [q_rd, fb__law_tt_unit_in, h1, at_ws, ha, inD_3, e1, e4, topOf, e6]
    cases hq : nmIn 1 13 (r.head?.bind nmW) with
    | none => simp [DL.isNone, rdD, hb]; intro hh; omega
    | some k =>
      have : r ≠ [] := fun e => by subst e; simp [nmIn] at hq
      have : 0 < r.length := List.length_pos_iff.mpr this
      simp [DL.isNone, rdD, Sk.toD]
      simp at he hl; omega
  · have e7 : w = "far" ∨ w = "rank" := by simpa [isNm, hd] using h
    simp [q_rd, fb__law_tt_unit_in, h1, at_ws, ha, inD_3, e1, e2, e7, e5, topOf, hd, e6]
    cases hq : nmIn 1 12 (r.head?.bind nmW) with
    | none => simp [DL.isNone, rdD, hb]; intro hh; omega
    | some k =>
      have : r ≠ [] := fun e => by subst e; simp [nmIn] at hq
      have : 0 < r.length := List.length_pos_iff.mpr this
      simp [DL.isNone, rdD, Sk.toD]
      simp at he hl; omega
theorem unit_else {m n : Nat} {w : Str} {r : List Str} (hr : w :: r <:+ ws) (h0 : isLf w = false) (h : isNm w = false) (hb : w ≠ wA ∨ n = 0) (hn : n ≤ 20) : unitOk ws (m + 1) n (w :: r) := by
  have ha := suf_wAt hr
  have hl := hr.length_le
  generalize he : ws.length - (w :: r).length = a at ha
  have h1 : a < ws.length := (wAt_some ha).1
  have e2 : (decide (w = "order") || (decide (w = "nest") || decide (w = "span"))) = false := by rw [← h0]; simp [isLf, Bool.or_assoc]
  have e3 : (decide (w = "far") || (decide (w = "rank") || decide (w = "dial"))) = false := by rw [← h]; simp [isNm, Bool.or_assoc]
  have h3 : puW ws.length n (w :: r) = .wrong (w :: r) := by
    rcases hb with hb | hb
    · cases n <;> simp [puW, h0, h, hb]
    · subst hb; simp [puW, h0, h]
  unfold unitOk
  rw [he, h3]
  by_cases hA : w = "("
  · have hn0 : n = 0 := by rcases hb with hb | hb; exact absurd hA hb; exact hb
    subst hn0
    simp [q_rd, fb__law_tt_unit_in, h1, at_ws, ha, inD_3, e2, e3, hA, rdD]
    simp at he; omega
  · simp [q_rd, fb__law_tt_unit_in, h1, at_ws, ha, inD_3, e2, e3, hA, rdD]
    simp at he; omega
theorem unit_nil {m n : Nat} : unitOk ws (m + 1) n [] := by
  have h3 : puW ws.length n [] = .wrong [] := by cases n <;> rfl
  unfold unitOk
  rw [h3]
  simp [q_rd, fb__law_tt_unit_in, inD_3, rdD]
theorem unit_br {m n : Nat} {r : List Str} (hr : wA :: r <:+ ws) (hn : n + 1 ≤ 20) (ih : skOk ws m n r) : unitOk ws (m + 1) (n + 1) (wA :: r) := by
  have ha := suf_wAt hr
  have hl := hr.length_le
  have hr2 : r <:+ ws := (List.suffix_cons _ r).trans hr
  generalize he : ws.length - (wA :: r).length = a at ha
  have h1 : a < ws.length := (wAt_some ha).1
  have e1 : ((a : Int) + 1) = ((ws.length - r.length : Nat) : Int) := by simp at he hl; omega
  have e2 : (((20 - (n + 1) : Nat) : Int) + 1) = ((20 - n : Nat) : Int) := by omega
  have e3 : ¬ (((20 - (n + 1) : Nat) : Int) = 20) := by omega
  have h3 : puW ws.length (n + 1) (wA :: r) = match psW ws.length n r with
    | .wrong e => .wrong e
    | .told s r2 => match r2 with
      | [] => .wrong []
      | v :: r3 => if v = wZ then .told s r3 else .wrong r2 := by
    simp only [puW, psW]
    rw [if_neg (by decide +kernel), if_pos trivial]
    cases puW ws.length n r with
    | wrong e => rfl
    | told s r1 => rfl
  unfold unitOk
  rw [he, h3]
  unfold skOk at ih
  obtain ⟨b, hb⟩ : ∃ b, b = ws.length - r.length := ⟨_, rfl⟩
  obtain ⟨d1, hd1⟩ : ∃ d, d = 20 - (n + 1) := ⟨_, rfl⟩
  obtain ⟨d2, hd2⟩ : ∃ d, d = 20 - n := ⟨_, rfl⟩
  rw [← hb] at e1 ih
  rw [← hd1, ← hd2] at e2
  rw [← hd1] at e3 ⊢
  rw [← hd2] at ih
  have hsuf := (psW_suf ws.length n r).trans hr2
  simp [q_rd, fb__law_tt_unit_in, h1, at_ws, ha, inD_3, e1, e2, e3, ih]
  cases q : psW ws.length n r with
  | wrong e => simp [rdD]
  | told s r2 =>
    rw [q] at hsuf
    have hsl := hsuf.length_le
    simp only [Rd.rest] at hsuf hsl
    have hd : ws.drop (ws.length - r2.length) = r2 := suf_at hsuf
    generalize hc : ws.length - r2.length = c at hd
    have hd2 : (List.map PyData.str ws).drop c = r2.map PyData.str := by rw [← List.map_drop, hd]
    simp [rdD, hc, hd2]
    cases r2 with
    | nil => simp [rdD]; simp at hc; omega
    | cons v r3 =>
      simp
      by_cases hv : v = ")"
      · simp [hv, rdD, Sk.toD]; simp at hc hsl; omega
      · simp [hv, rdD]; simp at hc hsl; omega
end
end K78

set_option maxRecDepth 100000
set_option maxHeartbeats 4000000
/-! PL7: the law's own reading of words is psW: the loop, the whole -/
namespace K78
open PySem PySem.Spec PyProof.Rows L2 LamX DL
theorem for_fin {σ : Type} (fr : σ → AS) (Inv : σ → Prop) (step : σ → D → Sum σ SV) {bd : D → AS → Option AS} {b : AS → Out} {wp : List Nat} {ds : List D} {st : σ} {as : AL} {k : AS → Out} {v : Fr} (h0 : Inv st)
    (h : ∀ st d, d ∈ ds → Inv st → ∃ S1, bd d (fr st) = some S1 ∧ StepR fr Inv wp (b S1) (step st d))
    (hk : ∀ o, ForR fr Inv o (runL step ds st) → finF as (o.then k) = v) : finF as ((gFor bd b wp ds (fr st)).then k) = v :=
  hk _ (gFor_step fr Inv step ds st h0 h)
theorem lst_eq {w v : Str} : lstW w v = (lisO (decide (w = wP)) v).bind fun is => if is.length ≤ 13 then some is else none := by
  unfold lstW lisO
  cases allI (pcs v) with
  | none => rfl
  | some is =>
    simp only [Option.bind_some, decide_eq_true_eq]
    by_cases h1 : maxI is < 13 ∧ (w = wP → risB is = true)
    · rw [if_pos h1]
      by_cases h2 : is.length ≤ 13
      · rw [if_pos ⟨h1.1, h2, h1.2⟩]; simp [h2]
      · rw [if_neg (fun z => h2 z.2.1)]; simp [h2]
    · rw [if_neg h1, if_neg (fun z => h1 ⟨z.1, z.2.2⟩)]; rfl
theorem rangeD_len {lo : Int} {n : Nat} : (rangeD lo n).length = n := by simp [rangeD]
section
variable {ws : List Str}
theorem sk_of (hw : ∀ w ∈ ws, w.length ≤ 16777200) (hN : ws.length ≤ 1000000000) {m n : Nat} (ihu : ∀ r, r <:+ ws → unitOk ws m n r) {r : List Str} (hr : r <:+ ws) : skOk ws (m + 1) n r := by
  have hu := ihu r hr
  unfold unitOk at hu
  unfold skOk
  obtain ⟨a, ha⟩ : ∃ a, a = ws.length - r.length := ⟨_, rfl⟩
  obtain ⟨d, hd⟩ : ∃ d, d = 20 - n := ⟨_, rfl⟩
  rw [← ha, ← hd] at hu
  rw [← ha, ← hd]
  simp [q_rd, fb__law_tt_sketch_in, hu, rg_nat hN]
  refine for_fin (fun sh => [some (SV.dat (wsD ws)), some (SV.dat (.int a)), some (SV.dat (.int d)), some (SV.dat (rdD ws.length sh)), none, none, none, none, none, none, none]) (fun sh => sh.rest <:+ ws) (fun sh _ => lpStep ws.length (puW ws.length n) sh) (st := puW ws.length n r) ((puW_suf _ _ _).trans hr) ?_ ?_
  · intro sh x hx hi
    refine ⟨_, rfl, ?_⟩
    cases sh with
    | wrong e => simp [rdD, lpStep, StepR, inD_4]
    | told s r1 =>
      simp only [Rd.rest] at hi
      cases r1 with
      | nil => simp [rdD, lpStep, StepR, inD_4]
      | cons w r1 =>
        have hc := suf_wAt hi
        have hl := hi.length_le
        have hi2 : r1 <:+ ws := (List.suffix_cons w r1).trans hi
        have hc2 := suf_wAt hi2
        have hl2 := hi2.length_le
        generalize he : ws.length - (w :: r1).length = c at hc
        have h1 : c < ws.length := (wAt_some hc).1
        have hrd : rdD ws.length (.told s (w :: r1)) = .tuple [.str ("told" : Str), s.toD, .int c] := by simp only [rdD, he]
        have e1 : ((c : Int) + 1) = ((ws.length - r1.length : Nat) : Int) := by simp at he hl; omega
        have hle : ws.length - r1.length ≤ ws.length := by omega
        have hlt : ¬ ((ws.length : Int) < ((ws.length - r1.length : Nat) : Int)) := by omega
        obtain ⟨c2, hc2'⟩ : ∃ c, c = ws.length - r1.length := ⟨_, rfl⟩
        rw [← hc2'] at e1 hc2 hle hlt
        simp only [hrd, lpStep]
        by_cases q1 : w = "twin"
        · subst q1
          simp [rdD, StepR, h1, at_ws, hc, inD_4, e1, hi2, Rd.rest, Sk.toD, hc2']
        by_cases q2 : w = "*"
        · subst q2
          have hu2 := ihu r1 hi2
          unfold unitOk at hu2
          rw [← hd, ← hc2'] at hu2
          have hs2 := (puW_suf ws.length n r1).trans hi2
          simp [StepR, h1, at_ws, hc, inD_4, e1, hu2]
          cases q : puW ws.length n r1 with
          | wrong e => rw [q] at hs2; simp [rdD, Rd.rest, Sk.toD]; exact hs2
          | told y r2 => rw [q] at hs2; simp [rdD, Rd.rest, Sk.toD]; exact hs2
        by_cases q3 : w = "part" ∨ w = "lump"
        · have hli := e_listed (ws := ws) (at_ := c2) (b := decide (w = "part")) hw
          rw [hc2] at hli
          have q6 : (¬ w = "part" ∧ ¬ w = "lump") = False := eq_false fun z => by
            rcases q3 with q | q
            · exact z.1 q
            · exact z.2 q
          simp only [q1, q2, q3, if_false, if_true]
          simp [StepR, h1, at_ws, hc, inD_4, q1, q2, q6, e1, hli]
          cases r1 with
          | nil => simp [DL.isNone, Rd.rest, rdD, hlt, hc2']
          | cons v r2 =>
            cases q7 : lisO (decide (w = "part")) v with
            | none => simp [lst_eq, q7, DL.isNone, Rd.rest, rdD, hlt, hi2]; rw [hc2']; rfl
            | some is =>
              have hr2 : r2 <:+ ws := (List.suffix_cons v r2).trans hi2
              by_cases hl3 : is.length ≤ 13
              · simp [lst_eq, q7, DL.isNone, hl3, Rd.rest, rdD, Sk.toD, hr2, show ((is.length : Int) < 14) by omega]
                simp at hl2 hc2'; omega
              · simp [lst_eq, q7, DL.isNone, hl3, Rd.rest, rdD, hi2, hlt, show ¬ ((is.length : Int) < 14) by omega]
                rw [hc2']; rfl
        · have q4 : ¬ (w = "part") := fun e => q3 (.inl e)
          have q5 : ¬ (w = "lump") := fun e => q3 (.inr e)
          simp [StepR, h1, at_ws, hc, inD_4, q1, q2, q4, q5]
  · intro o ho
    have hres : psW ws.length n r = match puW ws.length n r with
      | .told s r1 => slW (puW ws.length n) ws.length s r1
      | .wrong e => .wrong e := by unfold psW; cases puW ws.length n r <;> rfl
    rw [hres]
    have hrun : runL (fun sh _ => lpStep ws.length (puW ws.length n) sh) (rangeD 0 ws.length) (puW ws.length n r) = .inl (psW ws.length n r) ∨ runL (fun sh _ => lpStep ws.length (puW ws.length n) sh) (rangeD 0 ws.length) (puW ws.length n r) = .inr (.dat (rdD ws.length (psW ws.length n r))) := by
      rw [hres]
      cases puW ws.length n r with
      | wrong e => exact run_wrong _
      | told s r1 => have := run_told (n := ws.length) (pu := puW ws.length n) (rangeD 0 ws.length) s r1; rwa [rangeD_len] at this
    rw [← hres]
    rcases hrun with hh | hh
    · rw [hh] at ho
      obtain ⟨ho, _⟩ := ho
      rw [ho]
      simp
    · rw [hh] at ho
      obtain ⟨S2, ho, h2⟩ := ho
      rw [ho]
      simp [h2]
theorem rd_ok (hw : ∀ w ∈ ws, w.length ≤ 16777200) (hN : ws.length ≤ 1000000000) : ∀ m n, n ≤ 20 → ∀ r, r <:+ ws → (2 * n + 1 ≤ m → unitOk ws m n r) ∧ (2 * n + 2 ≤ m → skOk ws m n r)
  | 0, n, hn, r, hr => ⟨fun h => by omega, fun h => by omega⟩
  | m + 1, n, hn, r, hr => by
    have ih := rd_ok hw hN m
    constructor
    · intro hm
      cases r with
      | nil => exact unit_nil
      | cons w r =>
        have hr2 : r <:+ ws := (List.suffix_cons w r).trans hr
        cases h0 : isLf w with
        | true => exact unit_leaf hr h0
        | false =>
          cases h1 : isNm w with
          | true => exact unit_num hw hr h0 h1
          | false =>
            by_cases hA : w = wA
            · cases n with
              | zero => exact unit_else hr h0 h1 (.inr rfl) hn
              | succ n =>
                subst hA
                exact unit_br hr hn ((ih n (by omega) r hr2).2 (by omega))
            · exact unit_else hr h0 h1 (.inl hA) hn
    · intro hm
      exact sk_of hw hN (fun r hr => (ih n hn r hr).1 (by omega)) hr
end
end K78

set_option maxRecDepth 100000
set_option maxHeartbeats 4000000
/-! PL8: depth, leaves, texts of sketches, the law's own reading of a text -/
namespace K78
open PySem PySem.Spec PyProof.Rows L2 LamX DL
theorem str_app_assoc (a b c : Str) : a ++ b ++ c = a ++ (b ++ c) := TL.ext_tl (by
  rw [TL.tl_append, TL.tl_append, TL.tl_append, TL.tl_append, List.append_assoc])
@[simp] theorem str_len_app (a b : Str) : (a ++ b).length = a.length + b.length := by
  rw [len_tl, len_tl, len_tl, show (a ++ b).cps.toList = a.cps.toList ++ b.cps.toList from TL.tl_append a b, List.length_append]
theorem join_one {sep x : Str} : Txt.join sep [x] = x := by rw [TL.join_eq]; rfl
theorem join_cons {sep x : Str} {b : List Str} (hb : b ≠ []) : Txt.join sep (x :: b) = x ++ sep ++ Txt.join sep b := by
  rw [TL.join_eq, TL.join_eq]
  cases b with
  | nil => exact absurd rfl hb
  | cons y b => rfl
theorem join_app {sep : Str} : ∀ {a b : List Str}, a ≠ [] → b ≠ [] → Txt.join sep (a ++ b) = Txt.join sep a ++ (sep ++ Txt.join sep b)
  | [], _, ha, _ => absurd rfl ha
  | [x], b, _, hb => by rw [List.singleton_append, join_cons hb, join_one, str_app_assoc]
  | x :: y :: a, b, _, hb => by
    rw [List.cons_append, join_cons (x := x) (b := y :: a ++ b) (by simp), join_app (a := y :: a) (by simp) hb, join_cons (x := x) (b := y :: a) (by simp)]
    simp only [str_app_assoc]
def lsT (ks : List Int) : Str := Txt.join "," (ks.map numS)
namespace Sk
def sz : Sk → Nat
  | lf _ => 1
  | nm _ _ => 1
  | tw x => x.sz + 1
  | pr x y => x.sz + y.sz + 1
  | pt _ x _ => x.sz + 1
def wds : Sk → List Str
  | lf w => [w]
  | nm w n => [w, numS n]
  | tw x => x.wds ++ [wT]
  | pr x y => x.wds ++ (wM :: (if y.isLeaf = true then y.wds else (wA :: y.wds) ++ [wZ]))
  | pt w x ks => x.wds ++ [w, lsT ks]
def txt (s : Sk) : Str := Txt.join " " s.wds
theorem wds_ne : ∀ s : Sk, s.wds ≠ []
  | lf _ => by simp [wds]
  | nm _ _ => by simp [wds]
  | tw x => by simp [wds]
  | pr x y => by simp [wds]
  | pt _ x _ => by simp [wds]
end Sk
theorem txt_tw {x : Sk} : (Sk.tw x).txt = x.txt ++ (" twin" : Str) := by
  unfold Sk.txt
  rw [show (Sk.tw x).wds = x.wds ++ [wT] from rfl, join_app x.wds_ne (by simp), join_one]
  rfl
theorem txt_pt {w : Str} {x : Sk} {ks : List Int} : (Sk.pt w x ks).txt = x.txt ++ (" " : Str) ++ w ++ (" " : Str) ++ lsT ks := by
  unfold Sk.txt
  rw [show (Sk.pt w x ks).wds = x.wds ++ [w, lsT ks] from rfl, join_app x.wds_ne (by simp), join_cons (by simp), join_one]
  simp only [str_app_assoc]
theorem txt_pr1 {x y : Sk} (h : y.isLeaf = true) : (Sk.pr x y).txt = x.txt ++ (" * " : Str) ++ y.txt := by
  unfold Sk.txt
  rw [show (Sk.pr x y).wds = x.wds ++ (wM :: y.wds) by simp [Sk.wds, h], join_app x.wds_ne (by simp), join_cons y.wds_ne]
  rw [show (" * " : Str) = " " ++ (wM ++ " ") from by decide +kernel]
  simp only [str_app_assoc]
theorem txt_pr2 {x y : Sk} (h : y.isLeaf = false) : (Sk.pr x y).txt = x.txt ++ (" * " : Str) ++ (("( " : Str) ++ y.txt ++ (" )" : Str)) := by
  unfold Sk.txt
  rw [show (Sk.pr x y).wds = x.wds ++ (wM :: ((wA :: y.wds) ++ [wZ])) by simp [Sk.wds, h], join_app x.wds_ne (by simp), join_cons (by simp), join_app (by simp) (by simp), join_cons y.wds_ne, join_one]
  rw [show (" * " : Str) = " " ++ (wM ++ " ") from by decide +kernel, show ("( " : Str) = wA ++ " " from by decide +kernel, show (" )" : Str) = " " ++ wZ from by decide +kernel]
  simp only [str_app_assoc]
theorem numS_len : ∀ {n : Int}, 0 ≤ n → n ≤ 13 → (numS n).length ≤ 2 := by
  intro n h0 h1
  have : n = 0 ∨ n = 1 ∨ n = 2 ∨ n = 3 ∨ n = 4 ∨ n = 5 ∨ n = 6 ∨ n = 7 ∨ n = 8 ∨ n = 9 ∨ n = 10 ∨ n = 11 ∨ n = 12 ∨ n = 13 := by omega
  rcases this with h | h | h | h | h | h | h | h | h | h | h | h | h | h <;> subst h <;> decide +kernel
theorem lsT_len : ∀ {ks : List Int}, lsIn ks = true → (lsT ks).length ≤ 3 * ks.length
  | [], _ => by decide +kernel
  | [k], h => by
    simp [lsIn] at h
    have := numS_len h.1 (by omega)
    simp [lsT, join_one]; omega
  | k :: l :: ks, h => by
    have h' : lsIn (l :: ks) = true ∧ (0 ≤ k ∧ k ≤ 12) := by
      simp only [lsIn, List.all_cons, Bool.and_eq_true, decide_eq_true_eq] at h ⊢
      exact ⟨h.2, h.1⟩
    have ih := lsT_len h'.1
    have := numS_len h'.2.1 (by omega)
    have e : lsT (k :: l :: ks) = numS k ++ "," ++ lsT (l :: ks) := by
      unfold lsT; rw [List.map_cons, join_cons (by simp)]
    rw [e]
    simp only [str_len_app, List.length_cons, show ("," : Str).length = 1 from rfl] at ih ⊢
    omega
theorem isLf_iff {w : Str} : isLf w = true ↔ w = wO ∨ w = wN ∨ w = wS := by simp [isLf, or_assoc]
theorem isNm_iff {w : Str} : isNm w = true ↔ w = wF ∨ w = wR ∨ w = wD := by simp [isNm, or_assoc]
theorem isLf_len {w : Str} (h : isLf w = true) : w.length ≤ 5 := by
  rcases isLf_iff.mp h with h | h | h <;> subst h <;> decide +kernel
theorem isNm_len {w : Str} (h : isNm w = true) : w.length ≤ 4 := by
  rcases isNm_iff.mp h with h | h | h <;> subst h <;> decide +kernel
theorem top_le {w : Str} : topOf w ≤ 13 := by unfold topOf; split <;> decide
theorem txt_len : ∀ {s : Sk}, s.ok → s.txt.length ≤ 64 * s.sz
  | .lf w, h => by
    have := isLf_len h
    simp only [Sk.txt, Sk.wds, join_one, Sk.sz]; omega
  | .nm w n, h => by
    have := isNm_len h.1
    have := numS_len (n := n) (by have := h.2.1; omega) (by have := h.2.2; have := top_le (w := w); omega)
    simp only [Sk.txt, Sk.wds, Sk.sz]
    rw [join_cons (by simp), join_one]
    simp only [str_len_app, show (" " : Str).length = 1 from rfl]; omega
  | .tw x, h => by
    have := txt_len (s := x) h
    rw [txt_tw]; simp only [str_len_app, Sk.sz, show (" twin" : Str).length = 5 from rfl]; omega
  | .pr x y, h => by
    have h1 := txt_len h.1
    have h2 := txt_len h.2
    cases hy : y.isLeaf with
    | true => rw [txt_pr1 hy]; simp only [str_len_app, Sk.sz, show (" * " : Str).length = 3 from rfl]; omega
    | false => rw [txt_pr2 hy]; simp only [str_len_app, Sk.sz, show (" * " : Str).length = 3 from rfl, show ("( " : Str).length = 2 from rfl, show (" )" : Str).length = 2 from rfl]; omega
  | .pt w x ks, h => by
    have h1 := txt_len h.1
    obtain ⟨_, h2, h3, h4⟩ := h.2
    have h5 := lsT_len h3
    have h6 : w.length ≤ 4 := by rcases h4 with h4 | h4; (rw [h4.1]; decide +kernel); (rw [h4]; decide +kernel)
    rw [txt_pt]; simp only [str_len_app, Sk.sz, show (" " : Str).length = 1 from rfl]; omega
theorem sz_le : ∀ s : Sk, s.sz ≤ s.leaves * s.deep ∧ 1 ≤ s.leaves
  | .lf _ => by simp [Sk.sz, Sk.leaves, Sk.deep]
  | .nm _ _ => by simp [Sk.sz, Sk.leaves, Sk.deep]
  | .tw x => by
    have ⟨h, h1⟩ := sz_le x
    simp only [Sk.sz, Sk.leaves, Sk.deep, Nat.mul_add]; omega
  | .pr x y => by
    have ⟨h, h1⟩ := sz_le x
    have ⟨h2, h3⟩ := sz_le y
    simp only [Sk.sz, Sk.leaves, Sk.deep]
    have a1 : x.leaves * x.deep ≤ x.leaves * max x.deep y.deep := Nat.mul_le_mul_left _ (by omega)
    have a2 : y.leaves * y.deep ≤ y.leaves * max x.deep y.deep := Nat.mul_le_mul_left _ (by omega)
    rw [Nat.mul_add, Nat.add_mul]
    omega
  | .pt _ x _ => by
    have ⟨h, h1⟩ := sz_le x
    simp only [Sk.sz, Sk.leaves, Sk.deep, Nat.mul_add]; omega

/-! ### in data -/
theorem inD_2 {w a b : Str} : inD (.str w) [.str a, .str b] = (decide (w = a) || decide (w = b)) := by
  simp [inD, eq_comm]
theorem inD_6 {w a b c d e f : Str} : inD (.str w) [.str a, .str b, .str c, .str d, .str e, .str f] = (decide (w = a) || (decide (w = b) || (decide (w = c) || (decide (w = d) || (decide (w = e) || decide (w = f)))))) := by
  simp [inD, eq_comm]
theorem six_eq {w : Str} : (decide (w = "order") || (decide (w = "nest") || (decide (w = "span") || (decide (w = "far") || (decide (w = "rank") || decide (w = "dial")))))) = (isLf w || isNm w) := by
  simp only [isLf, isNm, Bool.or_assoc]
theorem lsW_not {w : Str} {ks : List Int} (h : lsOk w ks) : isLf w = false ∧ isNm w = false := by
  obtain ⟨_, _, _, h | h⟩ := h
  · rw [h.1]; decide +kernel
  · rw [h]; decide +kernel
theorem leaf_own {s : Sk} (h : s.ok) : g__law_tt_is_leaf [some s.toD] [] = .ok (.dat (.bool s.isLeaf)) [] := by
  cases s with
  | lf w => simp only [Sk.ok] at h; simp [g__law_tt_is_leaf, fb__law_tt_is_leaf, Sk.toD, inD_6, six_eq, h, Sk.isLeaf]
  | nm w n => simp only [Sk.ok] at h; simp [g__law_tt_is_leaf, fb__law_tt_is_leaf, Sk.toD, inD_6, six_eq, h.1, Sk.isLeaf]
  | tw x => simp [g__law_tt_is_leaf, fb__law_tt_is_leaf, Sk.toD, inD_6, Sk.isLeaf]
  | pr x y => simp [g__law_tt_is_leaf, fb__law_tt_is_leaf, Sk.toD, inD_6, Sk.isLeaf]
  | pt w x ks =>
    have := lsW_not h.2
    simp [g__law_tt_is_leaf, fb__law_tt_is_leaf, Sk.toD, inD_6, six_eq, this.1, this.2, Sk.isLeaf]
def Sk.parts : Sk → List Sk
  | .lf _ => []
  | .nm _ _ => []
  | .tw x => [x]
  | .pr x y => [x, y]
  | .pt _ x _ => [x]
theorem pt_ne {w : Str} {ks : List Int} (h : lsOk w ks) : w ≠ "product" ∧ w ≠ "twin" := by
  obtain ⟨_, _, _, h | h⟩ := h
  · rw [h.1]; constructor <;> decide +kernel
  · rw [h]; constructor <;> decide +kernel
theorem e_parts {s : Sk} (h : s.ok) : g__law_tt_parts_of [some s.toD] [] = .ok (.own (s.parts.map Sk.toD)) [] := by
  have hl := leaf_own h
  cases s with
  | lf w => simp [g__law_tt_parts_of, fb__law_tt_parts_of, hl, Sk.isLeaf, Sk.parts]
  | nm w n => simp [g__law_tt_parts_of, fb__law_tt_parts_of, hl, Sk.isLeaf, Sk.parts]
  | tw x => rw [Sk.toD] at *; simp [g__law_tt_parts_of, fb__law_tt_parts_of, hl, Sk.isLeaf, Sk.parts]
  | pr x y => rw [Sk.toD] at *; simp [g__law_tt_parts_of, fb__law_tt_parts_of, hl, Sk.isLeaf, Sk.parts]
  | pt w x ks => rw [Sk.toD] at *; simp [g__law_tt_parts_of, fb__law_tt_parts_of, hl, Sk.isLeaf, Sk.parts, (pt_ne h.2).1]
theorem e_deep : ∀ (n : Nat) (s : Sk), s.ok → s.deep ≤ n → g__law_tt_deep n [some s.toD] [] = .ok (.dat (.int s.deep)) []
  | 0, s, h, hn => by cases s <;> simp [Sk.deep] at hn
  | n + 1, s, h, hn => by
    have hp := e_parts h
    have ih := e_deep n
    unfold g__law_tt_deep at ih ⊢
    cases s with
    | lf w => simp [q_deep, fb__law_tt_deep, hp, Sk.parts, fComp, kMm, asInts, Sk.deep]
    | nm w k => simp [q_deep, fb__law_tt_deep, hp, Sk.parts, fComp, kMm, asInts, Sk.deep]
    | tw x =>
      simp only [Sk.deep] at hn
      simp [q_deep, fb__law_tt_deep, hp, Sk.parts, fComp, kMm, asInts, Sk.deep, ih x h (by omega)]
      omega
    | pr x y =>
      simp only [Sk.deep] at hn
      simp [q_deep, fb__law_tt_deep, hp, Sk.parts, fComp, kMm, asInts, Sk.deep, ih x h.1 (by omega), ih y h.2 (by omega)]
      omega
    | pt w x ks =>
      simp only [Sk.deep] at hn
      simp [q_deep, fb__law_tt_deep, hp, Sk.parts, fComp, kMm, asInts, Sk.deep, ih x h.1 (by omega)]
      omega
theorem e_leaves : ∀ (n : Nat) (s : Sk), s.ok → s.deep ≤ n → g__law_tt_leaves n [some s.toD] [] = .ok (.dat (.int s.leaves)) []
  | 0, s, h, hn => by cases s <;> simp [Sk.deep] at hn
  | n + 1, s, h, hn => by
    have hp := e_parts h
    have hl := leaf_own h
    have ih := e_leaves n
    unfold g__law_tt_leaves at ih ⊢
    cases s with
    | lf w => simp [q_leaves, fb__law_tt_leaves, hl, Sk.isLeaf, Sk.leaves]
    | nm w k => simp [q_leaves, fb__law_tt_leaves, hl, Sk.isLeaf, Sk.leaves]
    | tw x =>
      simp only [Sk.deep] at hn
      simp [q_leaves, fb__law_tt_leaves, hp, hl, Sk.isLeaf, Sk.parts, fComp, kSum, asInts, Sk.leaves, ih x h (by omega)]
    | pr x y =>
      simp only [Sk.deep] at hn
      simp [q_leaves, fb__law_tt_leaves, hp, hl, Sk.isLeaf, Sk.parts, fComp, kSum, asInts, Sk.leaves, ih x h.1 (by omega), ih y h.2 (by omega)]
    | pt w x ks =>
      simp only [Sk.deep] at hn
      simp [q_leaves, fb__law_tt_leaves, hp, hl, Sk.isLeaf, Sk.parts, fComp, kSum, asInts, Sk.leaves, ih x h.1 (by omega)]
end K78

set_option maxRecDepth 100000
set_option maxHeartbeats 4000000
/-! PL9: the law's own texts; what is read is of form -/
namespace K78
open PySem PySem.Spec PyProof.Rows L2 LamX DL
theorem asStrs_s {is : List Str} : asStrs (is.map PyData.str) = some is := by
  induction is with
  | nil => rfl
  | cons i r ih => simp [asStrs, ih]
theorem kJoinL {a : Str} {ys : List Str} {S : AS} (h : (ys.map (·.length)).sum + ys.length * a.length ≤ 16777216) : kJoin (.str a) (.list (ys.map .str)) S = .ok (.dat (.str (Txt.join a ys))) S := by
  simp only [kJoin, asStrs_s]
  rw [if_pos (by unfold joinB; exact decide_eq_true h)]; rfl
theorem log_small {n : Int} (h0 : 0 ≤ n) (h1 : n ≤ 13) : n.natAbs.log2 < 1920 := by
  have : n = 0 ∨ n = 1 ∨ n = 2 ∨ n = 3 ∨ n = 4 ∨ n = 5 ∨ n = 6 ∨ n = 7 ∨ n = 8 ∨ n = 9 ∨ n = 10 ∨ n = 11 ∨ n = 12 ∨ n = 13 := by omega
  rcases this with h | h | h | h | h | h | h | h | h | h | h | h | h | h <;> subst h <;> decide +kernel
theorem ls_sum {ks : List Int} (h : lsIn ks = true) : ((ks.map numS).map (·.length)).sum ≤ 2 * ks.length := by
  induction ks with
  | nil => simp
  | cons k ks ih =>
    simp only [lsIn, List.all_cons, Bool.and_eq_true, decide_eq_true_eq] at h ih
    have := ih h.2
    have := numS_len h.1.1 (by omega)
    simp only [List.map_cons, List.sum_cons, List.length_cons]; omega
theorem e_list_word_own {ks : List Int} (h : lsIn ks = true) (hl : ks.length ≤ 13) : g__law_tt_list_word [some (.tuple (ks.map .int))] [] = .ok (.dat (.str (lsT ks))) [] := by
  simp [g__law_tt_list_word, fb__law_tt_list_word]
  rw [fComp_allM PyData.int (fun k => .str (numS k))]
  rotate_left
  · intro k hk
    have h2 := List.all_eq_true.mp h k hk
    simp only [Bool.and_eq_true, decide_eq_true_eq] at h2
    refine ⟨_, _, rfl, rfl, ?_⟩
    simp [h2.1, log_small h2.1 (by omega)]
  · omega
  have e : (ks.map fun k => PyData.str (numS k)) = (ks.map numS).map PyData.str := by rw [List.map_map]; rfl
  have hs := ls_sum h
  simp [e]
  rw [← List.map_map, kJoinL (by rw [List.length_map, show ("," : Str).length = 1 from rfl]; omega)]
  simp [lsT]
theorem e_line1 {w : Str} (h : w.length ≤ 100) : g__law_tt_line [some (.str w), some (.tuple [])] [] = .ok (.dat (.str w)) [] := by
  simp [g__law_tt_line, fb__law_tt_line, fComp]
  rw [show [PyData.str w] = [w].map PyData.str from rfl, kJoinL (by simp [show (" " : Str).length = 1 from rfl]; omega)]
  simp [join_one]
theorem e_line2 {w : Str} {n : Int} (h : w.length ≤ 100) (h0 : 0 ≤ n) (h1 : n ≤ 13) : g__law_tt_line [some (.str w), some (.tuple [.int n])] [] = .ok (.dat (.str (Txt.join " " [w, numS n]))) [] := by
  have := numS_len h0 h1
  simp [g__law_tt_line, fb__law_tt_line, fComp, h0, log_small h0 h1]
  rw [show [PyData.str w, PyData.str (numS n)] = [w, numS n].map PyData.str from rfl, kJoinL (by simp [show (" " : Str).length = 1 from rfl]; omega)]
  simp
theorem e_tsk : ∀ (n : Nat) (s : Sk), s.ok → s.deep ≤ n → s.sz ≤ 100000 → g__law_tt_sketch n [some s.toD] [] = .ok (.dat (.str s.txt)) []
  | 0, s, h, hn, _ => by cases s <;> simp [Sk.deep] at hn
  | n + 1, s, h, hn, hz => by
    have hl := leaf_own h
    have ih := e_tsk n
    have ht := txt_len h
    unfold g__law_tt_sketch at ih ⊢
    cases s with
    | lf w =>
      have hw : w.length ≤ 100 := by have := isLf_len h; omega
      rw [Sk.toD] at *
      simp [q_tsk, fb__law_tt_sketch, hl, Sk.isLeaf, e_line1 hw, Sk.txt, Sk.wds, join_one]
    | nm w k =>
      have hw : w.length ≤ 100 := by have := isNm_len h.1; omega
      have e := e_line2 (n := k) hw (by have := h.2.1; omega) (by have := h.2.2; have := top_le (w := w); omega)
      rw [Sk.toD] at *
      simp [q_tsk, fb__law_tt_sketch, hl, Sk.isLeaf, e, Sk.txt, Sk.wds]
    | tw x =>
      simp only [Sk.deep, Sk.sz] at hn hz
      have hx := txt_len (s := x) h
      rw [Sk.toD] at *
      simp [q_tsk, fb__law_tt_sketch, hl, Sk.isLeaf, ih x h (by omega) (by omega), inD_2, show (" twin" : Str).length = 5 from rfl, show x.txt.length ≤ 16777211 by omega, txt_tw]
    | pr x y =>
      simp only [Sk.deep, Sk.sz] at hn hz
      have hx := txt_len h.1
      have hy := txt_len h.2
      have hl2 := leaf_own h.2
      rw [show (x.pr y).isLeaf = false from rfl] at hl
      rw [Sk.toD] at *
      cases hy2 : y.isLeaf with
      | true =>
        simp [q_tsk, fb__law_tt_sketch, hl, ih x h.1 (by omega) (by omega), ih y h.2 (by omega) (by omega), inD_2, hl2, hy2, show (" * " : Str).length = 3 from rfl, show x.txt.length ≤ 16777213 by omega, txt_pr1 hy2, show x.txt.length + 3 + y.txt.length ≤ 16777216 by omega]
      | false =>
        simp [q_tsk, fb__law_tt_sketch, hl, ih x h.1 (by omega) (by omega), ih y h.2 (by omega) (by omega), inD_2, hl2, hy2, show (" * " : Str).length = 3 from rfl, show ("( " : Str).length = 2 from rfl, show (" )" : Str).length = 2 from rfl, show x.txt.length ≤ 16777213 by omega, txt_pr2 hy2, show 2 + y.txt.length ≤ 16777216 by omega, show 2 + y.txt.length ≤ 16777214 by omega, show x.txt.length + 3 + (2 + y.txt.length + 2) ≤ 16777216 by omega]
    | pt w x ks =>
      simp only [Sk.deep, Sk.sz] at hn hz
      have hx := txt_len h.1
      obtain ⟨h1, h2, h3, h4⟩ := h.2
      have h5 := lsT_len h3
      have h6 : w.length ≤ 4 := by rcases h4 with h4 | h4; (rw [h4.1]; decide +kernel); (rw [h4]; decide +kernel)
      have h7 : (decide (w = "part") || decide (w = "lump")) = true := by rcases h4 with h4 | h4; (rw [h4.1]; decide +kernel); (rw [h4]; decide +kernel)
      rw [Sk.toD] at *
      simp [q_tsk, fb__law_tt_sketch, hl, Sk.isLeaf, ih x h.1 (by omega) (by omega), inD_2, h7, e_list_word_own h3 h2, show (" " : Str).length = 1 from rfl, show x.txt.length ≤ 16777215 by omega, txt_pt, show x.txt.length + 1 + w.length ≤ 16777216 by omega, show x.txt.length + 1 + w.length ≤ 16777215 by omega, show x.txt.length + 1 + w.length + 1 + (lsT ks).length ≤ 16777216 by omega]
/-! ### what is read is of form -/
theorem nmW_pos {w : Str} {n : Int} (h : nmW w = some n) : 0 ≤ n := by
  unfold nmW at h
  split at h
  · cases h; omega
  · cases h
theorem allI_pos : ∀ {ps : List Str} {is : List Int}, allI ps = some is → ∀ i ∈ is, 0 ≤ i
  | [], is, h, i, hi => by simp [allI] at h; subst h; simp at hi
  | p :: ps, is, h, i, hi => by
    simp only [allI] at h
    cases hp : nmW p with
    | none => simp [hp] at h
    | some j =>
      cases hq : allI ps with
      | none => simp [hp, hq] at h
      | some js =>
        simp [hp, hq] at h; subst h
        rcases List.mem_cons.mp hi with rfl | hi
        · exact nmW_pos hp
        · exact allI_pos hq i hi
theorem foldl_max_le : ∀ (l : List Int) (a : Int), a ≤ l.foldl max a ∧ ∀ i ∈ l, i ≤ l.foldl max a
  | [], a => ⟨Int.le_refl _, fun i h => by simp at h⟩
  | x :: l, a => by
    have ⟨h1, h2⟩ := foldl_max_le l (max a x)
    rw [List.foldl_cons]
    exact ⟨by omega, fun i hi => by rcases List.mem_cons.mp hi with rfl | hi; (omega); (exact h2 i hi)⟩
theorem maxI_le {is : List Int} : ∀ i ∈ is, i ≤ maxI is := by
  cases is with
  | nil => intro i h; simp at h
  | cons a l =>
    intro i hi
    have ⟨h1, h2⟩ := foldl_max_le l a
    rcases List.mem_cons.mp hi with rfl | hi
    · exact h1
    · exact h2 i hi
theorem lstW_ok {w v : Str} {ks : List Int} (hw : w = wP ∨ w = wL) (h : lstW w v = some ks) : lsOk w ks := by
  unfold lstW at h
  cases q : allI (pcs v) with
  | none => simp [q] at h
  | some is =>
    simp only [q, Option.bind_some] at h
    split at h
    · rename_i hc
      cases h
      refine ⟨allI_ne q pcs_ne, hc.2.1, ?_, ?_⟩
      · refine List.all_eq_true.mpr fun k hk => ?_
        have := maxI_le k hk
        have := allI_pos q k hk
        simp only [Bool.and_eq_true, decide_eq_true_eq]; omega
      · rcases hw with hw | hw
        · exact .inl ⟨hw, hc.2.2 hw⟩
        · exact .inr hw
    · cases h
namespace Rd
def okP : Rd → Prop
  | told s _ => s.ok
  | wrong _ => True
end Rd
theorem slW_okP {pu : List Str → Rd} (hp : ∀ r, (pu r).okP) : ∀ (k : Nat) (s : Sk) (r : List Str), s.ok → (slW pu k s r).okP
  | 0, s, r, hs => hs
  | k + 1, s, [], hs => hs
  | k + 1, s, w :: r, hs => by
    have ih := slW_okP hp k
    simp only [slW]
    split
    · exact ih _ r hs
    split
    · have h := hp r
      cases q : pu r with
      | told y r' => rw [q] at h; exact ih _ r' ⟨hs, h⟩
      | wrong e => trivial
    split
    · rename_i hw
      cases r with
      | nil => trivial
      | cons v r' =>
        simp only
        cases q : lstW w v with
        | some ks => exact ih _ r' ⟨hs, lstW_ok hw q⟩
        | none => trivial
    · exact hs
theorem unL_okP {w : Str} {r : List Str} (h : isLf w = true ∨ isNm w = true) : (unL w r).okP := by
  unfold unL
  split
  · rename_i hw; exact hw
  · rename_i hw
    cases r with
    | nil => trivial
    | cons v r' =>
      simp only
      split
      · split
        · rename_i hc
          exact ⟨by rcases h with h | h; exact absurd h hw; exact h, hc.1, hc.2⟩
        · trivial
      · trivial
theorem puW_okP (N : Nat) : ∀ (n : Nat) (r : List Str), (puW N n r).okP
  | n, [] => by cases n <;> trivial
  | 0, w :: r => by
    simp only [puW]
    split
    · rename_i h; exact unL_okP h
    split <;> trivial
  | n + 1, w :: r => by
    have ih := puW_okP N n
    simp only [puW]
    split
    · rename_i h; exact unL_okP h
    split
    · have h := ih r
      cases q : puW N n r with
      | wrong e => trivial
      | told s r1 =>
        rw [q] at h
        simp only
        have h2 := slW_okP ih N s r1 h
        cases q2 : slW (puW N n) N s r1 with
        | wrong e => trivial
        | told s r2 =>
          rw [q2] at h2
          cases r2 with
          | nil => trivial
          | cons v r3 =>
            simp only
            split
            · exact h2
            · trivial
    · trivial
theorem psW_okP (N n : Nat) (r : List Str) : (psW N n r).okP := by
  unfold psW
  have h := puW_okP N n r
  cases q : puW N n r with
  | wrong e => trivial
  | told s r1 => rw [q] at h; exact slW_okP (puW_okP N n) N s r1 h
end K78

set_option maxRecDepth 100000
set_option maxHeartbeats 4000000
/-! PL10: the law's own reading of a text -/
namespace K78
open PySem PySem.Spec PyProof.Rows L2 LamX DL
def lnsT (T : Str) : List Str := Txt.split T "\n"
def wdsT (l : Str) : List Str := Txt.split l " "
@[simp] theorem k_split_n {a : Str} {S : AS} : kSplit (.str a) (.str ("\n" : Str)) S = if a.length ≤ 16777214 then .ok (.own ((lnsT a).map PyData.str)) S else .stuck := by
  rw [lit_nl, k_split]; simp [lnsT, lit_nl]
@[simp] theorem k_split_s {a : Str} {S : AS} : kSplit (.str a) (.str (" " : Str)) S = if a.length ≤ 16777214 then .ok (.own ((wdsT a).map PyData.str)) S else .stuck := by
  rw [lit_sp, k_split]; simp [wdsT, lit_sp]
theorem lns_len {T l : Str} (h : l ∈ lnsT T) : l.length ≤ T.length := split_len (c := 10) (by decide) h
theorem lns_num {T : Str} : (lnsT T).length ≤ T.length + 1 := split_num (c := 10) (by decide)
theorem lns_ne {T : Str} : lnsT T ≠ [] := split_ne (c := 10) (by decide)
theorem wds_len {T l : Str} (h : l ∈ wdsT T) : l.length ≤ T.length := split_len (c := 32) (by decide) h
theorem wds_num {T : Str} : (wdsT T).length ≤ T.length + 1 := split_num (c := 32) (by decide)
theorem wdsT_ne {T : Str} : wdsT T ≠ [] := split_ne (c := 32) (by decide)
def lnD (l : Str) : D := wsD (wdsT l)
theorem e_lines {T : Str} (h : T.length ≤ 1000000) : g__law_tt_lines [some (.str T)] [] = .ok (.own ((lnsT T).map lnD)) [] := by
  simp [g__law_tt_lines, fb__law_tt_lines, show T.length ≤ 16777214 by omega]
  rw [fComp_allM PyData.str lnD]
  rotate_left
  · intro l hl
    have := lns_len hl
    refine ⟨_, _, rfl, rfl, ?_⟩
    simp [show l.length ≤ 16777214 by omega, lnD]
  · have := lns_num (T := T); omega
  simp
def endR : Rd → Rd
  | .told s [] => .told s []
  | .told s (w :: r) => .wrong (w :: r)
  | .wrong e => .wrong e
theorem endR_rest {rd : Rd} : (endR rd).rest = rd.rest := by
  cases rd with
  | wrong e => rfl
  | told s r => cases r <;> rfl
theorem e_end {ws : List Str} {rd : Rd} (h : rd.rest <:+ ws) : g__law_tt_end [some (wsD ws), some (rdD ws.length rd)] [] = .ok (.dat (rdD ws.length (endR rd))) [] := by
  have hl := h.length_le
  cases rd with
  | wrong e => simp [g__law_tt_end, fb__law_tt_end, rdD, endR]
  | told s r =>
    cases r with
    | nil => simp [g__law_tt_end, fb__law_tt_end, rdD, endR]
    | cons w r =>
      simp only [Rd.rest, List.length_cons] at hl
      simp [g__law_tt_end, fb__law_tt_end, rdD, endR, show ws.length - (r.length + 1) < ws.length by omega]
def fnl (rd : Rd) : Rd := match endR rd with
  | .told s r => if 20 < s.deep ∨ 100 < s.leaves then .wrong [] else .told s r
  | .wrong e => .wrong e
def wlD (a b : Nat) : D := .tuple [.str ("WrongLine" : Str), .tuple [.int a, .int b]]
def resD (L N : Nat) : Rd → D
  | .told s _ => if L = 1 then .tuple [.str ("told" : Str), s.toD] else wlD 1 0
  | .wrong r => wlD 0 (N - r.length)
theorem e_one_line {ls : List D} {n : Nat} {rd : Rd} : g__law_tt_one_line [some (.list ls), some (rdD n rd)] [] = .ok (.dat (resD ls.length n rd)) [] := by
  have e (a b : Nat) : g__law_tt_wrong [some (.int a), some (.int b)] [] = .ok (.dat (wlD a b)) [] := by
    simp [g__law_tt_wrong, fb__law_tt_wrong, wlD]
  have e10 := e 1 0
  cases rd with
  | wrong r =>
    have e0 := e 0 (n - r.length)
    simp at e0
    simp [g__law_tt_one_line, fb__law_tt_one_line, rdD, e0, resD]
  | told s r =>
    simp at e10
    by_cases h : ls.length = 1
    · simp [g__law_tt_one_line, fb__law_tt_one_line, rdD, resD, h]
    · simp [g__law_tt_one_line, fb__law_tt_one_line, rdD, resD, h, e10, show ¬ ((ls.length : Int) = 1) by omega]
def wsOf (T : Str) : List Str := wdsT ((lnsT T).headD "")
def rdT (T : Str) : Rd := psW (wsOf T).length 20 (wsOf T)
theorem e_read_own {T : Str} (hT : T.length ≤ 1000000) (hd : ∀ s r, rdT T = .told s r → s.deep ≤ 200) : g__law_tt_sketch_read [some (.str T)] [] = .ok (.dat (resD (lnsT T).length (wsOf T).length (fnl (rdT T)))) [] := by
  obtain ⟨l0, ls, hls⟩ : ∃ l0 ls, lnsT T = l0 :: ls := by
    cases q : lnsT T with
    | nil => exact absurd q lns_ne
    | cons a b => exact ⟨a, b, rfl⟩
  have hl0 := lns_len (T := T) (l := l0) (by rw [hls]; simp)
  have hws : wsOf T = wdsT l0 := by unfold wsOf; rw [hls]; rfl
  have hw : ∀ w ∈ wsOf T, w.length ≤ 16777200 := fun w h => by rw [hws] at h; have := wds_len h; omega
  have hN : (wsOf T).length ≤ 1000000000 := by rw [hws]; have := wds_num (T := l0); omega
  have hs := (rd_ok hw hN 46 20 (by omega) (wsOf T) (List.suffix_refl _)).2 (by omega)
  unfold skOk at hs
  have hok := psW_okP (wsOf T).length 20 (wsOf T)
  have hsuf := psW_suf (wsOf T).length 20 (wsOf T)
  have he := e_end hsuf
  rw [← rdT] at hs hok hsuf he
  have hln : lnD l0 = wsD (wsOf T) := by rw [hws]; rfl
  simp at hs
  simp [g__law_tt_sketch_read, fb__law_tt_sketch_read, e_lines hT, hls, hln, g__law_tt_sketch_in, hs, he]
  have hone (rd : Rd) := e_one_line (ls := wsD (wsOf T) :: ls.map lnD) (n := (wsOf T).length) (rd := rd)
  cases q : rdT T with
  | wrong e =>
    have := hone (.wrong e)
    simp only [rdD, List.length_cons, List.length_map] at this
    simp [endR, rdD, fnl, this]
  | told s r =>
    have hdp := hd s r q
    rw [q] at hok
    have hok' : s.ok := hok
    cases r with
    | cons w r =>
      have := hone (.wrong (w :: r))
      simp only [rdD, List.length_cons, List.length_map] at this
      simp [endR, rdD, fnl, this]
    | nil =>
      have h1 := hone (.wrong [])
      have h2 := hone (.told s [])
      simp [rdD, List.length_cons, List.length_map] at h1 h2
      simp [endR, rdD, fnl, e_deep 200 s hok' hdp, e_leaves 200 s hok' hdp]
      by_cases c1 : 20 < s.deep
      · simp [show (20 : Int) < s.deep by omega, c1, h1]
      · by_cases c2 : 100 < s.leaves
        · simp [show ¬ ((20 : Int) < s.deep) by omega, show (100 : Int) < s.leaves by omega, c1, c2, h1]
        · simp [show ¬ ((20 : Int) < s.deep) by omega, show ¬ ((100 : Int) < s.leaves) by omega, c1, c2, h2]
end K78

set_option maxRecDepth 100000
set_option maxHeartbeats 4000000
/-! PL11: the package's reading of words, step by step -/
namespace K78
open PySem PySem.Spec PyProof.Rows L2 LamX DL
def oS : Option Sk → D
  | none => .none
  | some s => s.toD
@[simp] theorem oS_none : oS none = .none := rfl
@[simp] theorem oS_some {s : Sk} : oS (some s) = s.toD := rfl
@[simp] theorem isNone_toD {s : Sk} : DL.isNone s.toD = false := by cases s <;> rfl
@[simp] theorem isNone_oS {o : Option Sk} : DL.isNone (oS o) = o.isNone := by
  cases o with
  | none => rfl
  | some s => exact isNone_toD
def putB (ah : Option Sk) (s : Sk) : Sk := match ah with
  | none => s
  | some a => .pr a s
structure MS where
  sk : Option Sk
  ah : Option Sk
  wt : List (Option Sk)
  r : List Str
def mstep (sk ah : Option Sk) (wt : List (Option Sk)) (w : Str) (r : List Str) : Sum MS (List Str) := match sk with
  | none =>
    if w = wA then (if wt.length = 20 then .inr (w :: r) else .inl ⟨none, none, wt ++ [ah], r⟩)
    else if isLf w = true ∨ isNm w = true then (match unL w r with
      | .told s r' => .inl ⟨some (putB ah s), none, wt, r'⟩
      | .wrong e => .inr e)
    else .inr (w :: r)
  | some s =>
    if w = wT then .inl ⟨some (.tw s), none, wt, r⟩
    else if w = wP ∨ w = wL then (match r with
      | [] => .inr []
      | v :: r' => match lstW w v with
        | some ks => .inl ⟨some (.pt w s ks), none, wt, r'⟩
        | none => .inr r)
    else if w = wM then .inl ⟨none, some s, wt, r⟩
    else if w = wZ then (match wt.getLast? with
      | some a => .inl ⟨some (putB a s), none, wt.dropLast, r⟩
      | none => .inr (w :: r))
    else .inr (w :: r)
/-- what a step tells, and the list that is lent behind it -/
def msD (n : Nat) (wt : List (Option Sk)) : Sum MS (List Str) → D × List D
  | .inl m => (.tuple [oS m.sk, oS m.ah, .int ((n - m.r.length : Nat) : Int)], m.wt.map oS)
  | .inr e => (.tuple [.none, .int ((n - e.length : Nat) : Int), .int (-1)], wt.map oS)
theorem e_put {ah : Option Sk} {s : Sk} : g_put_behind [some (oS ah), some s.toD] [] = .ok (.dat (putB ah s).toD) [] := by
  cases ah with
  | none => simp [g_put_behind, fb_put_behind, putB, DL.isNone]
  | some a => simp [g_put_behind, fb_put_behind, putB, Sk.toD]
theorem e_number_from {ws : List Str} {at_ : Nat} {lo hi : Int} (hw : ∀ w ∈ ws, w.length ≤ 16777200) : g_number_from [some (wsD ws), some (.int at_), some (.int lo), some (.int hi)] [] =
    .ok (.dat (match nmIn lo hi ((wAt ws at_).bind nmW) with
      | some n => .tuple [.int n, .int ((at_ : Int) + 1)]
      | none => .tuple [.none, .int at_])) [] := by
  cases h : wAt ws at_ with
  | none =>
    have h1 : ¬ (at_ < ws.length) := Nat.not_lt.mpr (wAt_none h)
    simp [g_number_from, fb_number_from, h1, nmIn, DL.isNone]
  | some w =>
    obtain ⟨h1, h3⟩ := wAt_some h
    simp [g_number_from, fb_number_from, h1, at_ws, h, e_number_of (w := w) (by have := hw w h3; omega)]
    cases q : nmW w with
    | none => simp [nmIn, DL.isNone]
    | some n => by_cases a1 : lo ≤ n <;> by_cases a2 : n ≤ hi <;> simp [nmIn, a1, a2, DL.isNone]
theorem isLf_d {w : Str} : inD (.str w) [.str ("order" : Str), .str ("nest" : Str), .str ("span" : Str)] = isLf w := by
  rw [inD_3]; simp [isLf, Bool.or_assoc]
@[simp] theorem k_leaves {w : Str} {S : AS} {g : Bool → Bool} : kIn0 g (.str w) d_WORD_LEAVES S = .ok (.dat (.bool (g (isLf w)))) S := by
  unfold d_WORD_LEAVES
  rw [k_inT, isLf_d]; simp
theorem look_tops {w : Str} : kv_LEAF_TOPS.lookup w = if isNm w = true then some (.int (topOf w)) else none := by
  unfold kv_LEAF_TOPS
  by_cases h1 : w = "far"
  · subst h1; rfl
  · by_cases h2 : w = "rank"
    · subst h2; rfl
    · by_cases h3 : w = "dial"
      · subst h3; rfl
      · have e1 : (w == ("far" : Str)) = false := by simpa using h1
        have e2 : (w == ("rank" : Str)) = false := by simpa using h2
        have e3 : (w == ("dial" : Str)) = false := by simpa using h3
        simp [List.lookup, e1, e2, e3, isNm, h1, h2, h3]
@[simp] theorem k_tops {w : Str} {S : AS} {g : Bool → Bool} : kInK kv_LEAF_TOPS g (.str w) S = .ok (.dat (.bool (g (isNm w)))) S := by
  simp only [kInK, look_tops]
  cases h : isNm w <;> simp
theorem k_topi {w : Str} {S : AS} (h : isNm w = true) : kItK kv_LEAF_TOPS (.str w) S = .ok (.dat (.int (topOf w))) S := by
  simp only [kItK, look_tops, h, if_true]; rfl
section
variable {ws : List Str} (hw : ∀ w ∈ ws, w.length ≤ 16777200)
/-- a unit without brackets -/
def unD (n : Nat) (w : Str) (r : List Str) : D := if isLf w = true ∨ isNm w = true then (match unL w r with
    | .told s r' => .tuple [s.toD, .int ((n - r'.length : Nat) : Int)]
    | .wrong e => .tuple [.none, .int ((n - e.length : Nat) : Int)])
  else .tuple [.none, .int ((n - (r.length + 1) : Nat) : Int)]
include hw in
theorem e_unit_from {w : Str} {r : List Str} (hr : w :: r <:+ ws) : g_unit_from [some (wsD ws), some (.int ((ws.length - (w :: r).length : Nat) : Int))] [] = .ok (.dat (unD ws.length w r)) [] := by
  have ha := suf_wAt hr
  have hl := hr.length_le
  have hr2 : r <:+ ws := (List.suffix_cons w r).trans hr
  have ha2 := suf_wAt hr2
  obtain ⟨a, he⟩ : ∃ a, a = ws.length - (w :: r).length := ⟨_, rfl⟩
  rw [← he] at ha ⊢
  have h1 : a < ws.length := (wAt_some ha).1
  simp only [List.length_cons] at he hl
  cases h0 : isLf w with
  | true =>
    have e1 : ((a : Int) + 1) = ((ws.length - r.length : Nat) : Int) := by omega
    simp [g_unit_from, fb_unit_from, at_ws, ha, h0, unD, unL, Sk.toD, e1]
  | false =>
    cases h : isNm w with
    | false => simp [g_unit_from, fb_unit_from, at_ws, ha, h0, h, unD]; omega
    | true =>
      obtain ⟨b, hb⟩ : ∃ b, b = ws.length - r.length := ⟨_, rfl⟩
      have e1 : ((a : Int) + 1) = ((b : Nat) : Int) := by omega
      have e4 := e_number_from (ws := ws) (at_ := b) (lo := 1) (hi := topOf w) hw
      rw [← hb] at ha2
      rw [ha2] at e4
      simp [g_unit_from, fb_unit_from, at_ws, ha, h0, h, unD, unL_top h0, k_topi h, e1, e4]
      cases hq : nmIn 1 (topOf w) (r.head?.bind nmW) with
      | none => simp [DL.isNone]; omega
      | some k =>
        have : r ≠ [] := fun e => by subst e; simp [nmIn] at hq
        have : 0 < r.length := List.length_pos_iff.mpr this
        simp [DL.isNone, Sk.toD, at_ws, ha]
        omega
theorem lst_some {w v : Str} {is : List Int} (q : allI (pcs v) = some is) : lstW w v = if maxI is < 13 ∧ is.length ≤ 13 ∧ (w = wP → risB is = true) then some is else none := by
  simp [lstW, q]
theorem lst_none {w v : Str} (q : allI (pcs v) = none) : lstW w v = none := by simp [lstW, q]
def lsR (n : Nat) (w : Str) (r : List Str) : D := match r with
  | [] => .tuple [.none, .int (n : Int)]
  | v :: r' => match lstW w v with
    | some ks => .tuple [.tuple (ks.map .int), .int ((n - r'.length : Nat) : Int)]
    | none => .tuple [.none, .int ((n - r.length : Nat) : Int)]
include hw in
theorem e_listed_from {w : Str} {r : List Str} (hr : w :: r <:+ ws) (hp : w = wP ∨ w = wL) : g_listed_from [some (wsD ws), some (.int ((ws.length - (w :: r).length : Nat) : Int))] [] = .ok (.dat (lsR ws.length w r)) [] := by
  have ha := suf_wAt hr
  have hl := hr.length_le
  have hr2 : r <:+ ws := (List.suffix_cons w r).trans hr
  have ha2 := suf_wAt hr2
  obtain ⟨a, he⟩ : ∃ a, a = ws.length - (w :: r).length := ⟨_, rfl⟩
  rw [← he] at ha ⊢
  have h1 : a < ws.length := (wAt_some ha).1
  simp only [List.length_cons] at he hl
  obtain ⟨b, hb⟩ : ∃ b, b = ws.length - r.length := ⟨_, rfl⟩
  have e1 : ((a : Int) + 1) = ((b : Nat) : Int) := by omega
  rw [← hb] at ha2
  cases r with
  | nil =>
    have e2 : (b : Int) = ws.length := by simp at hb; omega
    simp [g_listed_from, fb_listed_from, e1, e2, lsR]
  | cons v r' =>
    simp only [List.length_cons] at hb hl he
    have e2 : ¬ ((b : Int) = ws.length) := by omega
    have e3 : ((a : Int) + 2) = ((ws.length - r'.length : Nat) : Int) := by omega
    simp only [List.head?_cons] at ha2
    have hv : v.length ≤ 16777200 := hw v (wAt_some ha2).2
    have h5 := e_list_word hv
    have h6 := e_lot_word hv
    cases q : allI (pcs v) with
    | none =>
      rw [q] at h5
      have h7 : lotW v = none := by simp [lotW, q]
      rw [h7] at h6
      rcases hp with hp | hp <;> subst hp <;> simp [g_listed_from, fb_listed_from, e1, e2, at_ws, ha, ha2, h5, h6, DL.isNone, lsR, lst_none q] <;> omega
    | some is =>
      have hne := allI_ne q pcs_ne
      rw [q] at h5
      have h7 : lotW v = if risB is = true then some is else none := by simp [lotW, q]
      rw [h7] at h6
      rcases hp with hp | hp
      · subst hp
        cases hr3 : risB is with
        | false =>
          simp [hr3] at h6
          simp [g_listed_from, fb_listed_from, e1, e2, at_ws, ha, ha2, h6, DL.isNone, lsR, lst_some q, hr3]; omega
        | true =>
          simp [hr3] at h6
          by_cases c1 : is.length ≤ 13
          · by_cases c2 : maxI is < 13
            · simp [g_listed_from, fb_listed_from, e1, e2, e3, at_ws, ha, ha2, h6, DL.isNone, lsR, lst_some q, hr3, c1, c2, show ¬ ((13 : Int) < is.length) by omega, kMax_t hne, Int.not_le.mpr c2]
            · simp [g_listed_from, fb_listed_from, e1, e2, e3, at_ws, ha, ha2, h6, DL.isNone, lsR, lst_some q, hr3, c1, c2, show ¬ ((13 : Int) < is.length) by omega, kMax_t hne, Int.not_lt.mp c2]; omega
          · simp [g_listed_from, fb_listed_from, e1, e2, e3, at_ws, ha, ha2, h6, DL.isNone, lsR, lst_some q, hr3, c1, show ((13 : Int) < is.length) by omega]; omega
      · subst hp
        simp at h5
        by_cases c1 : is.length ≤ 13
        · by_cases c2 : maxI is < 13
          · simp [g_listed_from, fb_listed_from, e1, e2, e3, at_ws, ha, ha2, h5, DL.isNone, lsR, lst_some q, c1, c2, show ¬ ((13 : Int) < is.length) by omega, kMax_t hne, Int.not_le.mpr c2]
          · simp [g_listed_from, fb_listed_from, e1, e2, e3, at_ws, ha, ha2, h5, DL.isNone, lsR, lst_some q, c1, c2, show ¬ ((13 : Int) < is.length) by omega, kMax_t hne, Int.not_lt.mp c2]; omega
        · simp [g_listed_from, fb_listed_from, e1, e2, e3, at_ws, ha, ha2, h5, DL.isNone, lsR, lst_some q, c1, show ((13 : Int) < is.length) by omega]; omega
end
end K78

set_option maxRecDepth 100000
set_option maxHeartbeats 4000000
/-! PL12: the package's reading of words: the steps, the loop -/
namespace K78
open PySem PySem.Spec PyProof.Rows L2 LamX DL
theorem lstW_t {w v : Str} {ks : List Int} (h : lstW w v = some ks) : ks ≠ [] := by
  unfold lstW at h
  cases q : allI (pcs v) with
  | none => simp [q] at h
  | some is =>
    simp only [q, Option.bind_some] at h
    split at h
    · cases h; exact allI_ne q pcs_ne
    · cases h
section
variable {ws : List Str} (hw : ∀ w ∈ ws, w.length ≤ 16777200)
include hw in
theorem e_unit_begun {w : Str} {r : List Str} (hr : w :: r <:+ ws) {ah : Option Sk} {wt : List (Option Sk)} (h20 : wt.length ≤ 20) :
    g_unit_begun [some (wsD ws), some (.int ((ws.length - (w :: r).length : Nat) : Int)), some (oS ah), none] (wt.map oS) = .ok (.dat (msD ws.length wt (mstep none ah wt w r)).1) (msD ws.length wt (mstep none ah wt w r)).2 := by
  have ha := suf_wAt hr
  have hl := hr.length_le
  have hu := e_unit_from hw hr
  obtain ⟨a, he⟩ : ∃ a, a = ws.length - (w :: r).length := ⟨_, rfl⟩
  rw [← he] at ha hu ⊢
  have h1 : a < ws.length := (wAt_some ha).1
  simp only [List.length_cons] at he hl
  have e1 : ((a : Int) + 1) = ((ws.length - r.length : Nat) : Int) := by omega
  by_cases hA : w = "("
  · subst hA
    by_cases hq : wt.length = 20
    · simp [g_unit_begun, fb_unit_begun, at_ws, ha, hq, mstep, msD]; omega
    · simp [g_unit_begun, fb_unit_begun, at_ws, ha, hq, mstep, msD, show ¬ ((wt.length : Int) = 20) by omega, e1, appL, show wt.length ≤ 16777215 by omega]
  · by_cases hq : isLf w = true ∨ isNm w = true
    · have e2 : unD ws.length w r = match unL w r with
        | .told s r' => .tuple [s.toD, .int ((ws.length - r'.length : Nat) : Int)]
        | .wrong e => .tuple [.none, .int ((ws.length - e.length : Nat) : Int)] := by unfold unD; rw [if_pos hq] <;> rfl
      rw [e2] at hu
      simp only [mstep]
      rw [if_neg hA, if_pos hq]
      cases hc : unL w r with
      | told s r' =>
        rw [hc] at hu
        simp only at hu
        simp [g_unit_begun, fb_unit_begun, at_ws, ha, hA, hu, e_put, msD]
      | wrong e =>
        rw [hc] at hu
        simp only at hu
        simp [g_unit_begun, fb_unit_begun, at_ws, ha, hA, hu, msD, DL.isNone]
    · have e2 : unD ws.length w r = .tuple [.none, .int ((ws.length - (r.length + 1) : Nat) : Int)] := by unfold unD; rw [if_neg hq]
      rw [e2] at hu
      simp only [mstep]
      rw [if_neg hA, if_neg hq]
      simp [g_unit_begun, fb_unit_begun, at_ws, ha, hA, hu, msD, DL.isNone]
theorem popL_map {l : List (Option Sk)} {a : Option Sk} : popL ((l ++ [a]).map oS) = some (oS a, l.map oS) := by
  unfold popL
  simp
include hw in
theorem e_gone_on {w : Str} {r : List Str} (hr : w :: r <:+ ws) {s : Sk} {wt : List (Option Sk)} :
    g_gone_on [some (wsD ws), some (.int ((ws.length - (w :: r).length : Nat) : Int)), some s.toD, none] (wt.map oS) = .ok (.dat (msD ws.length wt (mstep (some s) none wt w r)).1) (msD ws.length wt (mstep (some s) none wt w r)).2 := by
  have ha := suf_wAt hr
  have hl := hr.length_le
  have hli := fun h => e_listed_from hw hr h
  obtain ⟨a, he⟩ : ∃ a, a = ws.length - (w :: r).length := ⟨_, rfl⟩
  rw [← he] at ha hli ⊢
  have h1 : a < ws.length := (wAt_some ha).1
  simp only [List.length_cons] at he hl
  have e1 : ((a : Int) + 1) = ((ws.length - r.length : Nat) : Int) := by omega
  by_cases q1 : w = "twin"
  · subst q1
    simp [g_gone_on, fb_gone_on, at_ws, ha, e1, inD_2, mstep, msD, Sk.toD]
  by_cases q2 : w = "part" ∨ w = "lump"
  · have hli := hli q2
    have q3 : inD (.str w) [.str ("part" : Str), .str ("lump" : Str)] = true := by rw [inD_2]; rcases q2 with q | q <;> simp [q]
    simp only [mstep]
    rw [if_neg q1, if_pos q2]
    cases r with
    | nil =>
      simp only [lsR] at hli
      simp [g_gone_on, fb_gone_on, at_ws, ha, q1, q3, hli, DL.isNone, msD]
    | cons v r' =>
      simp only [lsR] at hli
      cases hc : lstW w v with
      | none =>
        rw [hc] at hli
        simp at hli
        simp [g_gone_on, fb_gone_on, at_ws, ha, q1, q3, hc, hli, DL.isNone, msD]
      | some ks =>
        rw [hc] at hli
        simp only at hli
        simp [g_gone_on, fb_gone_on, at_ws, ha, q1, q3, hli, hc, DL.isNone, msD, Sk.toD]
  have q4 : ¬ (w = "part") := fun e => q2 (.inl e)
  have q5 : ¬ (w = "lump") := fun e => q2 (.inr e)
  by_cases q6 : w = "*"
  · subst q6
    simp [g_gone_on, fb_gone_on, at_ws, ha, e1, inD_2, mstep, msD]
  by_cases q7 : w = ")"
  · subst q7
    rcases List.eq_nil_or_concat wt with h | ⟨l, b, h⟩
    · subst h
      simp [g_gone_on, fb_gone_on, at_ws, ha, inD_2, mstep, msD]; omega
    · rw [List.concat_eq_append] at h
      subst h
      have hp := popL_map (l := l) (a := b)
      have hm : (l ++ [b]).map oS = l.map oS ++ [oS b] := by simp
      rw [hm] at hp
      simp [g_gone_on, fb_gone_on, at_ws, ha, inD_2, mstep, msD, hp, e_put, e1]
  · simp [g_gone_on, fb_gone_on, at_ws, ha, q1, q4, q5, q6, q7, inD_2, mstep, msD]; omega
end
end K78

set_option maxRecDepth 100000
set_option maxHeartbeats 4000000
/-! PL13: the package's reading of words is psW -/
namespace K78
open PySem PySem.Spec PyProof.Rows L2 LamX DL
@[simp] theorem isNone_non : DL.isNone .none = true := rfl
/-! ### while -/
def runW {σ : Type} (done : σ → Bool) (step : σ → Sum σ SV) : Nat → σ → Sum σ SV
  | 0, st => .inl st
  | k + 1, st => if done st = true then .inl st else match step st with
    | .inl st' => runW done step k st'
    | .inr v => .inr v
theorem gWhile_run {σ : Type} (fr : σ → AS) (Inv : σ → Prop) (done : σ → Bool) (step : σ → Sum σ SV) (μ : σ → Nat) {t : AS → Rs Bool} {b : AS → Out} {wp : List Nat}
    (h1 : ∀ st, Inv st → done st = true → t (fr st) = .ok false (fr st))
    (h2 : ∀ st, Inv st → done st = false → ∃ S1, t (fr st) = .ok true S1 ∧ StepR fr Inv wp (b S1) (step st))
    (h3 : ∀ st st', Inv st → done st = false → step st = .inl st' → μ st' < μ st) : ∀ (k : Nat) (st : σ), Inv st → μ st < k → ForR fr Inv (gWhile t b wp k (fr st)) (runW done step k st)
  | 0, st, hi, hk => by omega
  | k + 1, st, hi, hk => by
    have ih := gWhile_run fr Inv done step μ (t := t) (b := b) (wp := wp) h1 h2 h3 k
    simp only [gWhile, runW]
    cases hd : done st with
    | true => rw [h1 st hi hd]; exact ⟨rfl, hi⟩
    | false =>
      obtain ⟨S1, e1, e2⟩ := h2 st hi hd
      rw [e1]
      simp only [p_out_ok, if_true, Bool.false_eq_true, if_false]
      cases hs : step st with
      | inl st' =>
        rw [hs] at e2
        obtain ⟨hi', S2, e3, e4⟩ := e2
        rw [e3, p_loop_nx, e4]
        exact ih st' hi' (by have := h3 st st' hi hd hs; omega)
      | inr v =>
        rw [hs] at e2
        obtain ⟨S2, e3, e4⟩ := e2
        exact ⟨S2, by rw [e3] <;> rfl, e4⟩
theorem runW_irr {σ : Type} {done : σ → Bool} {step : σ → Sum σ SV} {μ : σ → Nat} (h3 : ∀ st st', done st = false → step st = .inl st' → μ st' < μ st) : ∀ (k j : Nat) (st : σ), μ st < k → μ st < j → runW done step k st = runW done step j st
  | 0, j, st, hk, _ => by omega
  | k, 0, st, _, hj => by omega
  | k + 1, j + 1, st, hk, hj => by
    simp only [runW]
    cases hd : done st with
    | true => rfl
    | false =>
      simp only [Bool.false_eq_true, if_false]
      cases hs : step st with
      | inl st' => have := h3 st st' hd hs; exact runW_irr h3 k j st' (by omega) (by omega)
      | inr v => rfl
theorem while_fin {σ : Type} (fr : σ → AS) (Inv : σ → Prop) (done : σ → Bool) (step : σ → Sum σ SV) (μ : σ → Nat) {t : AS → Rs Bool} {b : AS → Out} {wp : List Nat} {st : σ} {n : Nat} {as : AL} {k : AS → Out} {v : Fr} (h0 : Inv st) (hn : μ st < n)
    (h1 : ∀ st, Inv st → done st = true → t (fr st) = .ok false (fr st))
    (h2 : ∀ st, Inv st → done st = false → ∃ S1, t (fr st) = .ok true S1 ∧ StepR fr Inv wp (b S1) (step st))
    (h3 : ∀ st st', Inv st → done st = false → step st = .inl st' → μ st' < μ st)
    (hk : ∀ o, ForR fr Inv o (runW done step n st) → finF as (o.then k) = v) : finF as ((gWhile t b wp n (fr st)).then k) = v :=
  hk _ (gWhile_run fr Inv done step μ h1 h2 h3 n st h0 hn)
/-! ### the machine -/
def errV (n : Nat) (e : List Str) : SV := .dat (.tuple [.none, .int ((n - e.length : Nat) : Int)])
def mDone (m : MS) : Bool := m.r.isEmpty
def mStep (n : Nat) (m : MS) : Sum MS SV := match m.r with
  | [] => .inl m
  | w :: r => match mstep m.sk m.ah m.wt w r with
    | .inl m' => .inl m'
    | .inr e => .inr (errV n e)
theorem mstep_len {sk ah : Option Sk} {wt : List (Option Sk)} {w : Str} {r : List Str} {m : MS} (h : mstep sk ah wt w r = .inl m) : m.r <:+ r := by
  unfold mstep at h
  split at h
  · split at h
    · split at h
      · cases h
      · cases h; exact List.suffix_refl _
    · split at h
      · have := unL_suf w r
        split at h
        · rename_i s r' q; rw [q] at this; cases h; exact this
        · cases h
      · cases h
  · split at h
    · cases h; exact List.suffix_refl _
    · split at h
      · split at h
        · cases h
        · split at h
          · cases h; exact List.suffix_cons _ _
          · cases h
      · split at h
        · cases h; exact List.suffix_refl _
        · split at h
          · split at h
            · cases h; exact List.suffix_refl _
            · cases h
          · cases h
theorem mStep_dec {n : Nat} {m m' : MS} (hd : mDone m = false) (h : mStep n m = .inl m') : m'.r.length < m.r.length := by
  obtain ⟨sk, ah, wt, r⟩ := m
  cases r with
  | nil => cases hd
  | cons w r =>
    simp only [mStep] at h
    cases q : mstep sk ah wt w r with
    | inl m2 =>
      rw [q] at h; cases h
      have := (mstep_len q).length_le
      simp only [List.length_cons]; omega
    | inr e => rw [q] at h; cases h
def mM (n : Nat) (m : MS) : Sum MS SV := runW mDone (mStep n) (m.r.length + 1) m
theorem mM_nil {n : Nat} {sk ah : Option Sk} {wt : List (Option Sk)} : mM n ⟨sk, ah, wt, []⟩ = .inl ⟨sk, ah, wt, []⟩ := rfl
theorem mM_cons {n : Nat} {sk ah : Option Sk} {wt : List (Option Sk)} {w : Str} {r : List Str} : mM n ⟨sk, ah, wt, w :: r⟩ = match mstep sk ah wt w r with
    | .inl m => mM n m
    | .inr e => .inr (errV n e) := by
  unfold mM
  rw [runW, if_neg (by simp [mDone])]
  simp only [mStep]
  cases q : mstep sk ah wt w r with
  | inl m =>
    have := (mstep_len q).length_le
    exact runW_irr (μ := fun m => m.r.length) (fun st st' hd hs => mStep_dec hd hs) _ _ m (by simp only [List.length_cons]; omega) (by omega)
  | inr e => rfl
/-- the end of the machine, as what is read -/
def fails (n : Nat) (e : List Str) : Sum MS SV → Prop
  | .inr v => v = errV n e
  | .inl m => e = [] ∧ (m.sk = none ∨ m.wt ≠ [])
def opW (w : Str) : Prop := w = wT ∨ w = wM ∨ w = wP ∨ w = wL
theorem sim_B {N n : Nat} {wt : List (Option Sk)} (A : ∀ (ah : Option Sk) (r : List Str), r.length ≤ N → match puW N n r with
      | .told s r' => mM N ⟨none, ah, wt, r⟩ = mM N ⟨some (putB ah s), none, wt, r'⟩ ∧ r'.length < r.length
      | .wrong e => fails N e (mM N ⟨none, ah, wt, r⟩)) : ∀ (k : Nat) (s : Sk) (r : List Str), r.length ≤ k → r.length ≤ N → match slW (puW N n) k s r with
      | .told s' r' => mM N ⟨some s, none, wt, r⟩ = mM N ⟨some s', none, wt, r'⟩ ∧ (∀ w r2, r' = w :: r2 → ¬ opW w)
      | .wrong e => fails N e (mM N ⟨some s, none, wt, r⟩)
  | 0, s, r, hr, hN => by
    cases r with
    | nil => exact ⟨rfl, fun w r2 h => by cases h⟩
    | cons w r => simp at hr
  | k + 1, s, [], hr, hN => ⟨rfl, fun w r2 h => by cases h⟩
  | k + 1, s, w :: r, hr, hN => by
    have ih := sim_B A k
    simp only [List.length_cons] at hr hN
    simp only [slW]
    by_cases h1 : w = wT
    · have e : mM N ⟨some s, none, wt, w :: r⟩ = mM N ⟨some (.tw s), none, wt, r⟩ := by rw [mM_cons]; simp only [mstep, h1, if_true]
      rw [if_pos h1, e]
      exact ih _ r (by omega) (by omega)
    · rw [if_neg h1]
      by_cases h2 : w = wM
      · have e : mM N ⟨some s, none, wt, w :: r⟩ = mM N ⟨none, some s, wt, r⟩ := by
          rw [mM_cons]; subst h2; simp [mstep]
        rw [if_pos h2, e]
        have a := A (some s) r (by omega)
        cases q : puW N n r with
        | told y r' =>
          rw [q] at a
          simp only at a ⊢
          rw [a.1]
          exact ih _ r' (by omega) (by omega)
        | wrong e => rw [q] at a; exact a
      · rw [if_neg h2]
        by_cases h3 : w = wP ∨ w = wL
        · rw [if_pos h3]
          cases r with
          | nil =>
            have e : mM N ⟨some s, none, wt, [w]⟩ = .inr (errV N []) := by
              rw [mM_cons]; simp only [mstep]; rw [if_neg h1, if_pos h3]
            rw [e]
            exact rfl
          | cons v r' =>
            have e : mM N ⟨some s, none, wt, w :: v :: r'⟩ = match lstW w v with
              | some ks => mM N ⟨some (.pt w s ks), none, wt, r'⟩
              | none => .inr (errV N (v :: r')) := by
              rw [mM_cons]; simp only [mstep]; rw [if_neg h1, if_pos h3]
              cases lstW w v <;> rfl
            rw [e]
            simp only
            cases lstW w v with
            | some ks => exact ih _ r' (by simp only [List.length_cons] at hr; omega) (by simp only [List.length_cons] at hN; omega)
            | none => exact rfl
        · rw [if_neg h3]
          exact ⟨rfl, fun w2 r2 h => by
            cases h
            rintro (z | z | z | z)
            · exact h1 z
            · exact h2 z
            · exact h3 (.inl z)
            · exact h3 (.inr z)⟩
theorem unL_len {w : Str} {r r' : List Str} {s : Sk} (h : unL w r = .told s r') : r'.length ≤ r.length := by
  have := unL_suf w r
  rw [h] at this
  exact this.length_le
theorem sim_A (N : Nat) : ∀ (n : Nat), n ≤ 20 → ∀ (wt : List (Option Sk)), wt.length = 20 - n → ∀ (ah : Option Sk) (r : List Str), r.length ≤ N → match puW N n r with
      | .told s r' => mM N ⟨none, ah, wt, r⟩ = mM N ⟨some (putB ah s), none, wt, r'⟩ ∧ r'.length < r.length
      | .wrong e => fails N e (mM N ⟨none, ah, wt, r⟩)
  | n, hn, wt, hwt, ah, [], hr => by
    have : puW N n [] = .wrong [] := by cases n <;> rfl
    rw [this]
    exact ⟨rfl, .inl rfl⟩
  | n, hn, wt, hwt, ah, w :: r, hr => by
    by_cases h1 : isLf w = true ∨ isNm w = true
    · have hA : w ≠ wA := fun e => by subst e; revert h1; decide +kernel
      have e1 : puW N n (w :: r) = unL w r := by cases n <;> (simp only [puW]; rw [if_pos h1])
      have e2 : mM N ⟨none, ah, wt, w :: r⟩ = match (match unL w r with
          | .told s r' => .inl ⟨some (putB ah s), none, wt, r'⟩
          | .wrong e => .inr e : Sum MS (List Str)) with
          | .inl m => mM N m
          | .inr e => .inr (errV N e) := by
        rw [mM_cons]; simp only [mstep]; rw [if_neg hA, if_pos h1] <;> rfl
      rw [e1, e2]
      cases q : unL w r with
      | told s r' => exact ⟨rfl, by have := unL_len q; simp only [List.length_cons]; omega⟩
      | wrong e => exact rfl
    · by_cases hA : w = wA
      · subst hA
        cases n with
        | zero =>
          have e1 : puW N 0 (wA :: r) = .wrong (wA :: r) := by simp only [puW]; rw [if_neg h1, if_pos trivial]
          have e2 : mM N ⟨none, ah, wt, wA :: r⟩ = .inr (errV N (wA :: r)) := by
            rw [mM_cons]; simp only [mstep]; rw [if_pos trivial, if_pos (by omega)]
          rw [e1, e2]
          exact rfl
        | succ n =>
          have e1 : puW N (n + 1) (wA :: r) = match puW N n r with
            | .wrong e => .wrong e
            | .told s r1 => match slW (puW N n) N s r1 with
              | .wrong e => .wrong e
              | .told s r2 => match r2 with
                | [] => .wrong []
                | v :: r3 => if v = wZ then .told s r3 else .wrong r2 := by
            simp only [puW]; rw [if_neg h1, if_pos trivial] <;> cases puW N n r <;> rfl
          have e2 : mM N ⟨none, ah, wt, wA :: r⟩ = mM N ⟨none, none, wt ++ [ah], r⟩ := by
            rw [mM_cons]; simp only [mstep]; rw [if_pos trivial, if_neg (by omega)]
          simp only [List.length_cons] at hr
          have a := sim_A N n (by omega) (wt ++ [ah]) (by simp; omega) none r (by omega)
          rw [e1, e2]
          cases q : puW N n r with
          | wrong e => rw [q] at a; exact a
          | told s r1 =>
            rw [q] at a
            simp only at a ⊢
            rw [a.1]
            have hsuf := puW_suf N n r
            rw [q] at hsuf
            have hB := sim_B (fun ah2 r hr => sim_A N n (by omega) (wt ++ [ah]) (by simp; omega) ah2 r hr) N s r1 (by omega) (by omega)
            cases q2 : slW (puW N n) N s r1 with
            | wrong e => rw [q2] at hB; exact hB
            | told s2 r2 =>
              rw [q2] at hB
              simp only at hB ⊢
              simp only [putB] at *
              rw [hB.1]
              have hsl := slW_suf (puW_suf N n) N s r1
              rw [q2] at hsl
              have hl2 := hsl.length_le
              cases r2 with
              | nil => exact ⟨rfl, .inr (by simp)⟩
              | cons v r3 =>
                have hno := hB.2 v r3 rfl
                simp only [opW, not_or] at hno
                simp only
                have e3 : mM N ⟨some s2, none, wt ++ [ah], v :: r3⟩ = if v = wZ then mM N ⟨some (putB ah s2), none, wt, r3⟩ else .inr (errV N (v :: r3)) := by
                  rw [mM_cons]; simp only [mstep]
                  rw [if_neg hno.1, if_neg (by rintro (z | z); exact hno.2.2.1 z; exact hno.2.2.2 z), if_neg hno.2.1]
                  by_cases hz : v = wZ
                  · rw [if_pos hz, if_pos hz]; simp
                  · rw [if_neg hz, if_neg hz]
                rw [e3]
                by_cases hz : v = wZ
                · rw [if_pos hz, if_pos hz]
                  refine ⟨rfl, ?_⟩
                  simp only [Rd.rest, List.length_cons] at hl2 ⊢
                  have := a.2
                  omega
                · rw [if_neg hz, if_neg hz]; exact rfl
      · have e1 : puW N n (w :: r) = .wrong (w :: r) := by cases n <;> (simp only [puW]; rw [if_neg h1, if_neg hA])
        have e2 : mM N ⟨none, ah, wt, w :: r⟩ = .inr (errV N (w :: r)) := by
          rw [mM_cons]; simp only [mstep]; rw [if_neg hA, if_neg h1]
        rw [e1, e2]
        exact rfl

theorem sim_all (N : Nat) (ws : List Str) (hN : ws.length ≤ N) : match endR (psW N 20 ws) with
    | .told s _ => mM N ⟨none, none, [], ws⟩ = .inl ⟨some s, none, [], []⟩
    | .wrong e => fails N e (mM N ⟨none, none, [], ws⟩) := by
  have a := sim_A N 20 (by omega) [] rfl none ws hN
  unfold psW
  cases q : puW N 20 ws with
  | wrong e => rw [q] at a; exact a
  | told s r1 =>
    rw [q] at a
    simp only at a ⊢
    rw [a.1]
    have hB := sim_B (fun ah2 r hr => sim_A N 20 (by omega) [] rfl ah2 r hr) N s r1 (by omega) (by omega)
    cases q2 : slW (puW N 20) N s r1 with
    | wrong e => rw [q2] at hB; exact hB
    | told s2 r2 =>
      rw [q2] at hB
      simp only at hB
      simp only [putB] at *
      rw [hB.1]
      cases r2 with
      | nil => exact mM_nil
      | cons v r3 =>
        have hno := hB.2 v r3 rfl
        simp only [opW, not_or] at hno
        have e3 : mM N ⟨some s2, none, [], v :: r3⟩ = .inr (errV N (v :: r3)) := by
          rw [mM_cons]; simp only [mstep]
          rw [if_neg hno.1, if_neg (by rintro (z | z); exact hno.2.2.1 z; exact hno.2.2.2 z), if_neg hno.2.1]
          by_cases hz : v = wZ
          · rw [if_pos hz] <;> rfl
          · rw [if_neg hz]
        rw [e3]
        exact rfl
namespace Rd
/-- how many words a sketch takes -/
def szP (n : Nat) : Rd → Prop
  | told s r => s.sz + r.length ≤ n
  | wrong _ => True
end Rd
theorem slW_sz {pu : List Str → Rd} (hp : ∀ r, (pu r).szP r.length) : ∀ (k : Nat) (s : Sk) (r : List Str) (n : Nat), s.sz + r.length ≤ n → (slW pu k s r).szP n
  | 0, s, r, n, hs => hs
  | k + 1, s, [], n, hs => hs
  | k + 1, s, w :: r, n, hs => by
    have ih := slW_sz hp k
    simp only [List.length_cons] at hs
    simp only [slW]
    split
    · exact ih _ r n (by simp only [Sk.sz]; omega)
    split
    · have h := hp r
      cases q : pu r with
      | told y r' =>
        rw [q] at h
        simp only [Rd.szP] at h
        exact ih _ r' n (by simp only [Sk.sz]; omega)
      | wrong e => trivial
    split
    · cases r with
      | nil => trivial
      | cons v r' =>
        simp only [List.length_cons] at hs ⊢
        cases lstW w v with
        | some ks => exact ih _ r' n (by simp only [Sk.sz]; omega)
        | none => trivial
    · simpa [Rd.szP] using hs
theorem unL_sz {w : Str} {r : List Str} : (unL w r).szP (r.length + 1) := by
  unfold unL
  split
  · simp only [Rd.szP, Sk.sz]; omega
  · cases r with
    | nil => trivial
    | cons v r' =>
      simp only
      split
      · split
        · simp only [Rd.szP, Sk.sz, List.length_cons]; omega
        · trivial
      · trivial
theorem puW_sz (N : Nat) : ∀ (n : Nat) (r : List Str), (puW N n r).szP r.length
  | n, [] => by cases n <;> trivial
  | 0, w :: r => by
    simp only [puW]
    split
    · exact unL_sz
    split <;> trivial
  | n + 1, w :: r => by
    have ih := puW_sz N n
    simp only [puW]
    split
    · exact unL_sz
    split
    · have h := ih r
      cases q : puW N n r with
      | wrong e => trivial
      | told s r1 =>
        rw [q] at h
        simp only
        have h2 := slW_sz ih N s r1 r.length h
        cases q2 : slW (puW N n) N s r1 with
        | wrong e => trivial
        | told s r2 =>
          rw [q2] at h2
          cases r2 with
          | nil => trivial
          | cons v r3 =>
            have h2' : s.sz + (r3.length + 1) ≤ r.length := h2
            simp only
            by_cases hz : v = wZ
            · rw [if_pos hz]; show s.sz + r3.length ≤ (w :: r).length; simp only [List.length_cons]; omega
            · rw [if_neg hz]; trivial
    · trivial
theorem psW_sz (N n : Nat) (r : List Str) : (psW N n r).szP r.length := by
  unfold psW
  have h := puW_sz N n r
  cases q : puW N n r with
  | wrong e => trivial
  | told s r1 => rw [q] at h; exact slW_sz (puW_sz N n) N s r1 _ h
theorem deep_sz : ∀ s : Sk, s.deep ≤ s.sz
  | .lf _ => by simp [Sk.sz, Sk.deep]
  | .nm _ _ => by simp [Sk.sz, Sk.deep]
  | .tw x => by have := deep_sz x; simp only [Sk.sz, Sk.deep]; omega
  | .pr x y => by have := deep_sz x; have := deep_sz y; simp only [Sk.sz, Sk.deep]; omega
  | .pt _ x _ => by have := deep_sz x; simp only [Sk.sz, Sk.deep]; omega
/-! ### in data -/
section
variable {ws : List Str}
abbrev isOk (s : Sk) : Bool := decide (s.deep ≤ 20) && decide (s.leaves ≤ 100)
def swD (n : Nat) : Rd → D
  | .told s _ => .tuple [s.toD, .none]
  | .wrong e => .tuple [.none, .int ((n - e.length : Nat) : Int)]
def frM (ws : List Str) (m : MS) : AS := [some (SV.dat (wsD ws)), some (SV.dat (.int 0)), some (SV.dat (oS m.sk)), some (SV.dat (oS m.ah)), some (SV.own (m.wt.map oS)), some (SV.dat (.int ((ws.length - m.r.length : Nat) : Int)))]
def invM (ws : List Str) (m : MS) : Prop := m.r <:+ ws ∧ m.wt.length ≤ 20 ∧ (m.sk ≠ none → m.ah = none)
theorem mstep_inv {m : MS} {w : Str} {r : List Str} {m' : MS} (hr : m.r = w :: r) (hi : invM ws m) (h : mstep m.sk m.ah m.wt w r = .inl m') : invM ws m' := by
  obtain ⟨h1, h2, h3⟩ := hi
  rw [hr] at h1
  have hs := ((mstep_len h).trans (List.suffix_cons w r)).trans h1
  refine ⟨hs, ?_, ?_⟩
  · unfold mstep at h
    split at h
    · split at h
      · split at h
        · cases h
        · cases h; simp; omega
      · split at h
        · split at h
          · cases h; exact h2
          · cases h
        · cases h
    · split at h
      · cases h; exact h2
      · split at h
        · split at h
          · cases h
          · split at h
            · cases h; exact h2
            · cases h
        · split at h
          · cases h; exact h2
          · split at h
            · split at h
              · cases h; simp; omega
              · cases h
            · cases h
  · unfold mstep at h
    split at h
    · split at h
      · split at h
        · cases h
        · cases h; intro z; exact absurd rfl z
      · split at h
        · split at h
          · cases h; intro _; rfl
          · cases h
        · cases h
    · split at h
      · cases h; intro _; rfl
      · split at h
        · split at h
          · cases h
          · split at h
            · cases h; intro _; rfl
            · cases h
        · split at h
          · cases h; intro z; exact absurd rfl z
          · split at h
            · split at h
              · cases h; intro _; rfl
              · cases h
            · cases h
theorem e_sketch_words (hw : ∀ w ∈ ws, w.length ≤ 16777200) (hN : ws.length ≤ 900000) (his : ∀ s r, psW ws.length 20 ws = .told s r → g_is_sketch [some s.toD] [] = .ok (.dat (.bool (isOk s))) []) :
    g_sketch_words [some (wsD ws), some (.int 0)] [] = .ok (.dat (swD ws.length (fnl (psW ws.length 20 ws)))) [] := by
  simp [g_sketch_words, fb_sketch_words]
  have h0 : frM ws ⟨none, none, [], ws⟩ = [some (SV.dat (wsD ws)), some (SV.dat (.int 0)), some (SV.dat .none), some (SV.dat .none), some (SV.own []), some (SV.dat (.int 0))] := by simp [frM]
  rw [← h0]
  refine while_fin (frM ws) (invM ws) mDone (mStep ws.length) (fun m => m.r.length) (st := ⟨none, none, [], ws⟩) ⟨List.suffix_refl _, by simp, fun z => absurd rfl z⟩ (by show ws.length < 1000000; omega) ?_ ?_ (fun st st' _ hd hs => mStep_dec hd hs) ?_
  · intro m hi hd
    obtain ⟨sk, ah, wt, r⟩ := m
    have : r = [] := by simpa [mDone] using hd
    subst this
    simp [frM]
  · intro m hi hd
    have hi0 := hi
    obtain ⟨sk, ah, wt, r⟩ := m
    obtain ⟨h1, h2, h3⟩ := hi
    simp only at h1 h2 h3
    cases r with
    | nil => cases hd
    | cons w r =>
      have hl := h1.length_le
      simp only [List.length_cons] at hl
      have hlt : ws.length - (r.length + 1) < ws.length := by omega
      refine ⟨frM ws ⟨sk, ah, wt, w :: r⟩, by simp [frM, hlt], ?_⟩
      cases sk with
      | none =>
        have e := e_unit_begun hw h1 (ah := ah) h2
        simp only [mStep]
        cases q : mstep none ah wt w r with
        | inl m' =>
          rw [q] at e
          simp only [msD, List.length_cons] at e
          refine ⟨mstep_inv (m := ⟨none, ah, wt, w :: r⟩) rfl hi0 q, ?_⟩
          simp [frM, e, show ¬ (((ws.length - m'.r.length : Nat) : Int) < 0) by omega]
        | inr er =>
          rw [q] at e
          simp only [msD, List.length_cons] at e
          simp [StepR, frM, e, errV]
      | some s =>
        have : ah = none := h3 (by simp)
        subst this
        have e := e_gone_on hw h1 (s := s) (wt := wt)
        simp only [mStep]
        cases q : mstep (some s) none wt w r with
        | inl m' =>
          rw [q] at e
          simp only [msD, List.length_cons] at e
          refine ⟨mstep_inv (m := ⟨some s, none, wt, w :: r⟩) rfl hi0 q, ?_⟩
          simp [frM, e, show ¬ (((ws.length - m'.r.length : Nat) : Int) < 0) by omega]
        | inr er =>
          rw [q] at e
          simp only [msD, List.length_cons] at e
          simp [StepR, frM, e, errV]
  · intro o ho
    have hM : runW mDone (mStep ws.length) 1000000 ⟨none, none, [], ws⟩ = mM ws.length ⟨none, none, [], ws⟩ :=
      runW_irr (μ := fun m => m.r.length) (fun st st' hd hs => mStep_dec hd hs) _ _ _ (by show ws.length < 1000000; omega) (by show ws.length < ws.length + 1; omega)
    rw [hM] at ho
    have hs := sim_all ws.length ws (Nat.le_refl _)
    unfold fnl
    cases q : endR (psW ws.length 20 ws) with
    | told s r =>
      rw [q] at hs
      simp only at hs ⊢
      rw [hs] at ho
      obtain ⟨ho, _⟩ := ho
      have hp : psW ws.length 20 ws = .told s [] := by
        cases q2 : psW ws.length 20 ws with
        | wrong e => rw [q2] at q; cases q
        | told s2 r2 =>
          rw [q2] at q
          cases r2 with
          | nil => cases q; rfl
          | cons v r3 => cases q
      have e := his s [] hp
      rw [ho]
      by_cases c1 : s.deep ≤ 20
      · by_cases c2 : s.leaves ≤ 100
        · simp [isOk, c1, c2] at e
          simp [frM, e, c1, c2, swD, show ¬ (20 < s.deep) by omega, show ¬ (100 < s.leaves) by omega]
        · simp [isOk, c1, c2] at e
          simp [frM, e, swD, show ¬ (20 < s.deep) by omega, show (100 < s.leaves) by omega]
      · simp [isOk, c1] at e
        simp [frM, e, swD, show (20 < s.deep) by omega]
    | wrong e =>
      rw [q] at hs
      simp only at hs ⊢
      cases hm : mM ws.length ⟨none, none, [], ws⟩ with
      | inr v =>
        rw [hm] at hs ho
        obtain ⟨S2, ho, h2⟩ := ho
        simp only [fails] at hs
        rw [ho]
        simp [h2, hs, errV, swD]
      | inl m =>
        rw [hm] at hs ho
        obtain ⟨ho, _⟩ := ho
        obtain ⟨he, hs⟩ := hs
        rw [ho]
        subst he
        by_cases c1 : m.sk = none
        · simp [frM, c1, swD]
        · have c2 : m.wt ≠ [] := hs.resolve_left c1
          obtain ⟨s, hsk⟩ := Option.ne_none_iff_exists'.mp c1
          simp [frM, hsk, c2, swD]
end
end K78

set_option maxRecDepth 100000
set_option maxHeartbeats 4000000
/-! PL14: what any value is as a sketch -/
namespace K78
open PySem PySem.Spec PyProof.Rows L2 LamX DL
abbrev wX : Str := "product"
def kB (ds : List D) : Bool := decide (1 ≤ ds.length) && (decide (ds.length ≤ 13) && ds.all fun e => wholeIn e 0 12)
def intOf : D → Int
  | .int i => i
  | _ => 0
def intsOf (ds : List D) : List Int := ds.map intOf
theorem ints_all : ∀ {ds : List D}, (ds.all fun e => wholeIn e 0 12) = true → ds = (intsOf ds).map PyData.int ∧ lsIn (intsOf ds) = true
  | [], _ => ⟨rfl, rfl⟩
  | d :: ds, h => by
    rw [List.all_cons, Bool.and_eq_true] at h
    have ⟨h1, h2⟩ := ints_all h.2
    cases d with
    | int i =>
      refine ⟨?_, ?_⟩
      · show PyData.int i :: ds = PyData.int i :: (intsOf ds).map PyData.int
        rw [← h1]
      · have := h.1
        simp only [wholeIn] at this
        simp only [lsIn, intsOf, List.map_cons, List.all_cons, intOf, this, Bool.true_and]
        exact h2
    | _ => simp [wholeIn] at h
def lsOf (w : Str) : D → Option (List Int)
  | .tuple ds => if kB ds = true ∧ (w = wP → risB (intsOf ds) = true) then some (intsOf ds) else none
  | _ => none
theorem kB_iff {ds : List D} : kB ds = true ↔ 1 ≤ ds.length ∧ ds.length ≤ 13 ∧ (ds.all fun e => wholeIn e 0 12) = true := by
  simp only [kB, Bool.and_eq_true, decide_eq_true_eq]
theorem lsOf_ok {w : Str} {d : D} {ks : List Int} (hw : w = wP ∨ w = wL) (h : lsOf w d = some ks) : lsOk w ks ∧ d = .tuple (ks.map .int) := by
  cases d with
  | tuple ds =>
    simp only [lsOf] at h
    split at h
    · rename_i hc
      cases h
      have h1 := kB_iff.mp hc.1
      have ⟨h2, h3⟩ := ints_all h1.2.2
      have hl : (intsOf ds).length = ds.length := by simp [intsOf]
      refine ⟨⟨fun e => ?_, by omega, h3, ?_⟩, by rw [← h2]⟩
      · rw [e] at hl; simp at hl; omega
      · rcases hw with hw | hw
        · exact .inl ⟨hw, hc.2 hw⟩
        · exact .inr hw
    · cases h
  | _ => simp [lsOf] at h
theorem intsOf_map {ks : List Int} : intsOf (ks.map PyData.int) = ks := by
  unfold intsOf; rw [List.map_map]
  conv => rhs; rw [← List.map_id ks]
  rfl
theorem whole_i {i : Int} : wholeIn (.int i) 0 12 = (decide (0 ≤ i) && decide (i ≤ 12)) := rfl
theorem lsOf_toD {w : Str} {ks : List Int} (h : lsOk w ks) : lsOf w (.tuple (ks.map .int)) = some ks := by
  obtain ⟨h1, h2, h3, h4⟩ := h
  have hp : 0 < ks.length := List.length_pos_iff.mpr h1
  have hk : kB (ks.map PyData.int) = true := by
    rw [kB_iff]
    refine ⟨by simp; omega, by simpa using h2, ?_⟩
    rw [List.all_map]; exact h3
  simp only [lsOf]
  have hr : w = wP → risB (intsOf (ks.map PyData.int)) = true := fun e => by
    rw [intsOf_map]
    rcases h4 with h4 | h4
    · exact h4.2
    · rw [h4] at e; exact absurd e (by decide +kernel)
  rw [if_pos ⟨hk, hr⟩, intsOf_map]
/-- the inner ones -/
def nmOf (w : Str) : D → Option Sk
  | .int n => if 1 ≤ n ∧ n ≤ topOf w then some (.nm w n) else none
  | _ => none
def prO : Option Sk → Option Sk → Option Sk
  | some a, some b => some (.pr a b)
  | _, _ => none
def ptO (w : Str) : Option (List Int) → Option Sk → Option Sk
  | some ks, some a => some (.pt w a ks)
  | _, _ => none
def mkR (w : Str) (rest : List D) : Option (List D) :=
    if isLf w = true then (if rest.isEmpty = true then some [] else none)
    else if isNm w = true then (match rest with
      | [x] => if (nmOf w x).isSome = true then some [] else none
      | _ => none)
    else if w = wT then (match rest with
      | [x] => some [x]
      | _ => none)
    else if w = wX then (match rest with
      | [x, y] => some [x, y]
      | _ => none)
    else if w = wP ∨ w = wL then (match rest with
      | [x, l] => if (lsOf w l).isSome = true then some [x] else none
      | _ => none)
    else none
def mkC : D → Option (List D)
  | .tuple (.str w :: rest) => mkR w rest
  | _ => none
def skOf : D → Option Sk
  | .tuple [.str w] => if isLf w = true then some (.lf w) else none
  | .tuple [.str w, x] => if isNm w = true then nmOf w x else if w = wT then (skOf x).map .tw else none
  | .tuple [.str w, x, y] => if w = wX then prO (skOf x) (skOf y) else if w = wP ∨ w = wL then ptO w (lsOf w y) (skOf x) else none
  | _ => none
termination_by d => sizeOf d
theorem sk1 {w : Str} : skOf (.tuple [.str w]) = if isLf w = true then some (.lf w) else none := by rw [skOf]
theorem sk2 {w : Str} {x : D} : skOf (.tuple [.str w, x]) = if isNm w = true then nmOf w x else if w = wT then (skOf x).map .tw else none := by rw [skOf]
theorem sk3 {w : Str} {x y : D} : skOf (.tuple [.str w, x, y]) = if w = wX then prO (skOf x) (skOf y) else if w = wP ∨ w = wL then ptO w (lsOf w y) (skOf x) else none := by rw [skOf]
theorem wd_disj {w : Str} : (isLf w = true → isNm w = false ∧ w ≠ wT ∧ w ≠ wX ∧ w ≠ wP ∧ w ≠ wL) ∧ (isNm w = true → w ≠ wT ∧ w ≠ wX ∧ w ≠ wP ∧ w ≠ wL) := by
  constructor
  · intro h
    rcases isLf_iff.mp h with h | h | h <;> subst h <;> decide +kernel
  · intro h
    rcases isNm_iff.mp h with h | h | h <;> subst h <;> decide +kernel
/-- the sorts of words -/
inductive Sort5 (w : Str) : Prop
  | lf (h : isLf w = true)
  | nm (h0 : isLf w = false) (h : isNm w = true)
  | tw (h0 : isLf w = false) (h1 : isNm w = false) (h : w = wT)
  | pr (h0 : isLf w = false) (h1 : isNm w = false) (h2 : w ≠ wT) (h : w = wX)
  | pt (h0 : isLf w = false) (h1 : isNm w = false) (h2 : w ≠ wT) (h3 : w ≠ wX) (h : w = wP ∨ w = wL)
  | no (h0 : isLf w = false) (h1 : isNm w = false) (h2 : w ≠ wT) (h3 : w ≠ wX) (h4 : w ≠ wP) (h5 : w ≠ wL)
theorem sort5 (w : Str) : Sort5 w := by
  cases h0 : isLf w with
  | true => exact .lf h0
  | false =>
    cases h1 : isNm w with
    | true => exact .nm h0 h1
    | false =>
      by_cases h2 : w = wT
      · exact .tw h0 h1 h2
      · by_cases h3 : w = wX
        · exact .pr h0 h1 h2 h3
        · by_cases h4 : w = wP ∨ w = wL
          · exact .pt h0 h1 h2 h3 h4
          · exact .no h0 h1 h2 h3 (fun e => h4 (.inl e)) (fun e => h4 (.inr e))
theorem sk_long {w : Str} {x y z : D} {r : List D} : skOf (.tuple (.str w :: x :: y :: z :: r)) = none := by
  rw [skOf] <;> simp
/-- a value's way -/
def Way (d : D) : Option (List D) → Prop
  | none => skOf d = none
  | some [] => ∃ s, skOf d = some s ∧ s.deep = 1 ∧ s.leaves = 1
  | some [x] => (∀ a, skOf x = some a → ∃ s, skOf d = some s ∧ s.deep = a.deep + 1 ∧ s.leaves = a.leaves) ∧ (skOf x = none → skOf d = none)
  | some [x, y] => (∀ a b, skOf x = some a → skOf y = some b → ∃ s, skOf d = some s ∧ s.deep = max a.deep b.deep + 1 ∧ s.leaves = a.leaves + b.leaves) ∧ (skOf x = none ∨ skOf y = none → skOf d = none)
  | some _ => False
theorem wayR (w : Str) (rest : List D) : Way (.tuple (.str w :: rest)) (mkR w rest) := by
  match rest with
  | [] =>
    rcases sort5 w with h | ⟨h0, h⟩ | ⟨h0, h1, h⟩ | ⟨h0, h1, h2, h⟩ | ⟨h0, h1, h2, h3, h⟩ | ⟨h0, h1, h2, h3, h4, h5⟩
    · simp only [mkR, h, if_true, List.isEmpty_nil]
      exact ⟨.lf w, by rw [sk1, if_pos h], rfl, rfl⟩
    · simp only [mkR, h0, h, if_true, Bool.false_eq_true, if_false]; show skOf _ = none; rw [sk1, h0]; rfl
    · simp only [mkR, h0, h1, h, if_true, Bool.false_eq_true, if_false]; show skOf _ = none; rw [sk1, ← h, h0]; rfl
    · simp only [mkR, h0, h1, h2, h, if_true, Bool.false_eq_true, if_false]; rw [if_neg (by decide +kernel)]; show skOf _ = none; rw [sk1, ← h, h0]; rfl
    · simp only [mkR, h0, h1, h2, h3, h, if_true, Bool.false_eq_true, if_false]; show skOf _ = none; rw [sk1, h0]; rfl
    · have : ¬ (w = wP ∨ w = wL) := by rintro (e | e); exact h4 e; exact h5 e
      simp only [mkR, h0, h1, h2, h3, this, Bool.false_eq_true, if_false]; show skOf _ = none; rw [sk1, h0]; rfl
  | [x] =>
    rcases sort5 w with h | ⟨h0, h⟩ | ⟨h0, h1, h⟩ | ⟨h0, h1, h2, h⟩ | ⟨h0, h1, h2, h3, h⟩ | ⟨h0, h1, h2, h3, h4, h5⟩
    · have hd := (wd_disj (w := w)).1 h
      simp only [mkR, h, if_true, List.isEmpty_cons, Bool.false_eq_true, if_false]; show skOf _ = none; rw [sk2, hd.1, if_neg (by simp), if_neg hd.2.1]
    · simp only [mkR, h0, h, if_true, Bool.false_eq_true, if_false]
      cases q : nmOf w x with
      | none => show skOf _ = none; rw [sk2, if_pos h, q]
      | some s =>
        refine ⟨s, by rw [sk2, if_pos h, q], ?_⟩
        cases x with
        | int n =>
          simp only [nmOf] at q
          split at q
          · cases q; exact ⟨rfl, rfl⟩
          · cases q
        | _ => simp [nmOf] at q
    · subst h
      simp only [mkR, h0, h1, if_true, Bool.false_eq_true, if_false]
      refine ⟨fun a ha => ⟨.tw a, by rw [sk2, h1, if_neg (by simp), if_pos rfl, ha]; rfl, rfl, rfl⟩, fun hn => by rw [sk2, h1, if_neg (by simp), if_pos rfl, hn]; rfl⟩
    · subst h
      simp only [mkR, h0, h1, if_true, Bool.false_eq_true, if_false]; rw [if_neg h2]; show skOf _ = none; rw [sk2, h1, if_neg (by simp), if_neg h2]
    · simp only [mkR, h0, h1, h2, h3, h, if_true, Bool.false_eq_true, if_false]; show skOf _ = none; rw [sk2, h1, if_neg (by simp), if_neg h2]
    · have : ¬ (w = wP ∨ w = wL) := by rintro (e | e); exact h4 e; exact h5 e
      simp only [mkR, h0, h1, h2, h3, this, Bool.false_eq_true, if_false]; show skOf _ = none; rw [sk2, h1, if_neg (by simp), if_neg h2]
  | [x, y] =>
    rcases sort5 w with h | ⟨h0, h⟩ | ⟨h0, h1, h⟩ | ⟨h0, h1, h2, h⟩ | ⟨h0, h1, h2, h3, h⟩ | ⟨h0, h1, h2, h3, h4, h5⟩
    · have hd := (wd_disj (w := w)).1 h
      have : ¬ (w = wP ∨ w = wL) := by rintro (e | e); exact hd.2.2.2.1 e; exact hd.2.2.2.2 e
      simp only [mkR, h, if_true, List.isEmpty_cons, Bool.false_eq_true, if_false]; show skOf _ = none; rw [sk3, if_neg hd.2.2.1, if_neg this]
    · have hd := (wd_disj (w := w)).2 h
      have : ¬ (w = wP ∨ w = wL) := by rintro (e | e); exact hd.2.2.1 e; exact hd.2.2.2 e
      simp only [mkR, h0, h, if_true, Bool.false_eq_true, if_false]; show skOf _ = none; rw [sk3, if_neg hd.2.1, if_neg this]
    · subst h
      simp only [mkR, h0, h1, if_true, Bool.false_eq_true, if_false]; show skOf _ = none; rw [sk3, if_neg (by decide +kernel), if_neg (by decide +kernel)]
    · subst h
      simp only [mkR, h0, h1, if_true, Bool.false_eq_true, if_false]; rw [if_neg h2]
      refine ⟨fun a b ha hb => ⟨.pr a b, by rw [sk3, if_pos rfl, ha, hb]; rfl, rfl, rfl⟩, fun hn => ?_⟩
      rw [sk3, if_pos rfl]
      rcases hn with hn | hn <;> rw [hn]
      · rfl
      · cases skOf x <;> rfl
    · simp only [mkR, h0, h1, h2, h3, h, if_true, Bool.false_eq_true, if_false]
      cases q : lsOf w y with
      | none => show skOf _ = none; rw [sk3, if_neg h3, if_pos h, q]; rfl
      | some ks =>
        refine ⟨fun a ha => ⟨.pt w a ks, by rw [sk3, if_neg h3, if_pos h, q, ha]; rfl, rfl, rfl⟩, fun hn => by rw [sk3, if_neg h3, if_pos h, q, hn]; rfl⟩
    · have : ¬ (w = wP ∨ w = wL) := by rintro (e | e); exact h4 e; exact h5 e
      simp only [mkR, h0, h1, h2, h3, this, Bool.false_eq_true, if_false]; show skOf _ = none; rw [sk3, if_neg h3, if_neg this]
  | x :: y :: z :: r =>
    have hn : mkR w (x :: y :: z :: r) = none := by
      simp only [mkR, List.isEmpty_cons, Bool.false_eq_true, if_false]
      repeat' split
      all_goals rfl
    rw [hn]
    exact sk_long
theorem way (d : D) : Way d (mkC d) := by
  unfold mkC
  split
  · exact wayR _ _
  · rename_i h
    show skOf d = none
    unfold skOf
    split
    · exact absurd rfl (h _ _)
    · exact absurd rfl (h _ _)
    · exact absurd rfl (h _ _)
    · rfl
theorem skOf_toD : ∀ (s : Sk), s.ok → skOf s.toD = some s
  | .lf w, h => by
    simp only [Sk.ok] at h
    rw [Sk.toD, sk1, if_pos h]
  | .nm w n, h => by rw [Sk.toD, sk2, if_pos h.1, nmOf, if_pos h.2]
  | .tw x, h => by
    rw [Sk.toD, sk2, if_neg (by decide +kernel), if_pos rfl, skOf_toD x h]; rfl
  | .pr x y, h => by
    rw [Sk.toD, sk3, if_pos rfl, skOf_toD x h.1, skOf_toD y h.2]; rfl
  | .pt w x ks, h => by
    have hw : w = wP ∨ w = wL := by
      obtain ⟨_, _, _, h4 | h4⟩ := h.2
      · exact .inl h4.1
      · exact .inr h4
    rw [Sk.toD, sk3, if_neg (pt_ne h.2).1, if_pos hw, lsOf_toD h.2, skOf_toD x h.1]; rfl
theorem sk_is : ∀ (n : Nat) {d : D} {s : Sk}, sizeOf d < n → skOf d = some s → s.ok ∧ d = s.toD
  | 0, d, s, hn, _ => by omega
  | n + 1, d, s, hn, h => by
    have ih := fun {d : D} {s : Sk} => sk_is n (d := d) (s := s)
    unfold skOf at h
    split at h
    · split at h
      · rename_i h1; cases h; exact ⟨h1, rfl⟩
      · cases h
    · rename_i w x
      split at h
      · rename_i h1
        cases x with
        | int k =>
          simp only [nmOf] at h
          split at h
          · rename_i h2; cases h; exact ⟨⟨h1, h2⟩, rfl⟩
          · cases h
        | _ => simp [nmOf] at h
      · split at h
        · rename_i h2
          cases q : skOf x with
          | none => rw [q] at h; cases h
          | some a =>
            rw [q] at h; cases h
            have := ih (by simp at hn; omega) q
            exact ⟨this.1, by rw [Sk.toD, ← this.2, h2]⟩
        · cases h
    · rename_i w x y
      split at h
      · rename_i h1
        cases q : skOf x with
        | none => rw [q] at h; cases h
        | some a =>
          cases q2 : skOf y with
          | none => rw [q, q2] at h; cases h
          | some b =>
            rw [q, q2] at h; cases h
            have e1 := ih (by simp at hn; omega) q
            have e2 := ih (by simp at hn; omega) q2
            exact ⟨⟨e1.1, e2.1⟩, by rw [Sk.toD, ← e1.2, ← e2.2, h1]⟩
      · split at h
        · rename_i h2
          cases q : lsOf w y with
          | none => rw [q] at h; cases h
          | some ks =>
            cases q2 : skOf x with
            | none => rw [q, q2] at h; cases h
            | some a =>
              rw [q, q2] at h; cases h
              have e1 := ih (by simp at hn; omega) q2
              have e2 := lsOf_ok h2 q
              exact ⟨⟨e1.1, e2.1⟩, by rw [Sk.toD, ← e1.2, e2.2]⟩
        · cases h
    · cases h
end K78

set_option maxRecDepth 100000
set_option maxHeartbeats 4000000
/-! PL15: what any value is as a sketch, in data -/
namespace K78
open PySem PySem.Spec PyProof.Rows L2 LamX DL
theorem e_are_kinds {ds : List D} : g_are_kind_numbers [some (.tuple ds)] [] = .ok (.dat (.bool (kB ds))) [] := by
  by_cases h1 : 1 ≤ ds.length
  · by_cases h2 : ds.length ≤ 13
    · have e1 : (1 : Int) ≤ ds.length := by omega
      have e2 : (ds.length : Int) ≤ 13 := by omega
      simp [g_are_kind_numbers, fb_are_kind_numbers, e1, e2]
      rw [fComp_all (fun e => .bool (wholeIn e 0 12))]
      rotate_left
      · intro d hd
        refine ⟨_, _, rfl, rfl, ?_⟩
        simp
      · omega
      have e3 : kB ds = ds.all fun e => wholeIn e 0 12 := by simp [kB, h1, h2]
      rw [e3]
      simp only [Rs.bind_ok, p_fzR_ok, p_frz_own, p_wipe1, p_wipe0, kAll_q]
      simp only [p_out_ok, p_then_rt, p_finF_rt]
      rfl
    · have e1 : (1 : Int) ≤ ds.length := by omega
      have e2 : ¬ ((ds.length : Int) ≤ 13) := by omega
      simp [g_are_kind_numbers, fb_are_kind_numbers, e1, e2, kB, h2]
  · have e1 : ¬ ((1 : Int) ≤ ds.length) := by omega
    simp [g_are_kind_numbers, fb_are_kind_numbers, e1, kB, h1]
theorem e_are_kinds0 {d : D} (h : ∀ ds, d ≠ .tuple ds) : g_are_kind_numbers [some d] [] = .ok (.dat (.bool false)) [] := by
  cases d with
  | tuple ds => exact absurd rfl (h ds)
  | _ => simp [g_are_kind_numbers, fb_are_kind_numbers]
theorem e_are_rising {ds : List D} : g_are_rising_kinds [some (.tuple ds)] [] = .ok (.dat (.bool (kB ds && risB (intsOf ds)))) [] := by
  cases hk : kB ds with
  | false => simp [g_are_rising_kinds, fb_are_rising_kinds, e_are_kinds, hk]
  | true =>
    have h1 := kB_iff.mp hk
    have ⟨h2, h3⟩ := ints_all h1.2.2
    have hl : (intsOf ds).length ≤ 13 := by simp [intsOf]; omega
    have he := e_are_kinds (ds := ds)
    rw [hk] at he
    generalize hks : intsOf ds = ks at *
    subst h2
    simp [g_are_rising_kinds, fb_are_rising_kinds, he]
    rw [← List.map_tail, zipD_int, fComp_allM prD (fun p => .bool (decide (p.1 < p.2)))]
    rotate_left
    · intro p hp
      refine ⟨_, _, rfl, rfl, ?_⟩
      simp
    · simp [List.length_zip]; omega
    simp [kAll_ris]
theorem e_are_rising0 {d : D} (h : ∀ ds, d ≠ .tuple ds) : g_are_rising_kinds [some d] [] = .ok (.dat (.bool false)) [] := by
  simp [g_are_rising_kinds, fb_are_rising_kinds, e_are_kinds0 h]
theorem lsOf_part {d : D} : g_are_rising_kinds [some d] [] = .ok (.dat (.bool (lsOf wP d).isSome)) [] := by
  cases d with
  | tuple ds =>
    rw [e_are_rising]
    simp only [lsOf, forall_const]
    cases kB ds <;> cases risB (intsOf ds) <;> simp
  | _ => rw [e_are_rising0 (fun ds e => by cases e)]; rfl
theorem lsOf_lump {d : D} : g_are_kind_numbers [some d] [] = .ok (.dat (.bool (lsOf wL d).isSome)) [] := by
  cases d with
  | tuple ds =>
    rw [e_are_kinds]
    have : ¬ (wL = wP) := by decide +kernel
    simp only [lsOf, this, false_implies, and_true]
    cases kB ds <;> simp
  | _ => rw [e_are_kinds0 (fun ds e => by cases e)]; rfl
theorem e_within_own {d : D} {lo hi : Int} : g__law_sx_is_within [some d, some (.int lo), some (.int hi)] [] = .ok (.dat (.bool (wholeIn d lo hi))) [] := by
  have hq : g__law_tq_is_whole [some d] [] = .ok (.dat (.bool (match d with | .int _ => true | _ => false))) [] := by
    cases d <;> simp [g__law_tq_is_whole, fb__law_tq_is_whole]
  cases d with
  | int i => by_cases h : lo ≤ i <;> simp [g__law_sx_is_within, fb__law_sx_is_within, wholeIn, hq, h]
  | _ => simp [g__law_sx_is_within, fb__law_sx_is_within, wholeIn, hq]
theorem e_is_list {d : D} {b : Bool} {w : Str} (hb : b = decide (w = wP)) : g__law_sx_is_list [some d, some (.bool b)] [] = .ok (.dat (.bool (lsOf w d).isSome)) [] := by
  cases d with
  | tuple ds =>
    by_cases h1 : 1 ≤ ds.length
    · by_cases h2 : ds.length ≤ 13
      · have e1 : (1 : Int) ≤ ds.length := by omega
        have e2 : (ds.length : Int) ≤ 13 := by omega
        simp [g__law_sx_is_list, fb__law_sx_is_list, e1, e2]
        rw [fComp_fil (fun e => !wholeIn e 0 12)]
        rotate_left
        · intro d hd
          refine ⟨_, _, rfl, (by simp [e_within_own]; exact rfl), fun _ => ?_, ?_⟩
          · simp
          · simp
        · omega
        have e3 : (ds.filter fun e => !wholeIn e 0 12).isEmpty = ds.all fun e => wholeIn e 0 12 := by
          have := fil_emp (p := fun e => !wholeIn e 0 12) (l := ds) (mk := id)
          simpa using this
        simp only [Rs.bind_ok, p_wipe1, p_wipe0, p_fzR_ok, p_frz_own, p_fLst, p_fNil, p_okLst, List.length_nil, k_ne, dep_nilL, min1_64, eqv_nilL, e3]
        cases ha : (ds.all fun e => wholeIn e 0 12) with
        | false =>
          have hk : kB ds = false := by simp only [kB, ha]; simp
          simp [lsOf, hk]
        | true =>
          have hk : kB ds = true := by rw [kB_iff]; exact ⟨h1, h2, ha⟩
          have ⟨g2, g3⟩ := ints_all ha
          have hl : (intsOf ds).length = ds.length := by simp [intsOf]
          generalize hks : intsOf ds = ks at *
          subst g2
          cases b with
          | false =>
            have hw : ¬ (w = wP) := by simpa using hb.symm
            simp [lsOf, hk, hw]
          | true =>
            have hw : w = wP := by simpa using hb.symm
            subst hw
            simp at h1 h2
            simp [rg_nat (show ks.length ≤ 1000000000 by omega)]
            rw [range1, fComp_filM rgD (fun i => decide (ks.getD (i + 1) 0 ≤ ks.getD i 0))]
            rotate_left
            · intro i hi
              have hi' := List.mem_range.mp hi
              have e1 : atI (ks.map PyData.int) (1 + (i : Int) - 1) = some (.int (ks.getD i 0)) := by
                rw [show (1 + (i : Int) - 1) = ((i : Nat) : Int) by omega, at_nat, getD_of (by omega)]
              have e2 : atI (ks.map PyData.int) (1 + (i : Int)) = some (.int (ks.getD (i + 1) 0)) := by
                rw [show (1 + (i : Int)) = ((i + 1 : Nat) : Int) by omega, at_nat, getD_of (by omega)]
              refine ⟨_, _, rfl, (by simp [rgD, e1, e2]; exact rfl), fun _ => ?_, ?_⟩
              · simp [rgD]
              · simp
            · simp; omega
            have e3 : (((List.range (ks.length - 1)).filter (fun i => decide (ks.getD (i + 1) 0 ≤ ks.getD i 0))).map rgD).isEmpty = risB ks := by rw [fil_emp, ris_fil]
            simp only [Rs.bind_ok, p_wipe1, p_wipe0, p_fzR_ok, p_frz_own, p_fLst, p_fNil, p_okLst, List.length_nil, k_eq, dep_nilL, min1_64, eqv_nilL, e3]
            cases hr : risB ks <;> simp [lsOf, hk, hks, hr]
      · have e1 : (1 : Int) ≤ ds.length := by omega
        have e2 : ¬ ((ds.length : Int) ≤ 13) := by omega
        simp [g__law_sx_is_list, fb__law_sx_is_list, e1, e2, lsOf, kB, h2]
    · have e1 : ¬ ((1 : Int) ≤ ds.length) := by omega
      simp [g__law_sx_is_list, fb__law_sx_is_list, e1, lsOf, kB, h1]
  | _ => simp [g__law_sx_is_list, fb__law_sx_is_list, lsOf]
end K78

set_option maxRecDepth 100000
set_option maxHeartbeats 4000000
/-! PL16: made_of, is_part -/
namespace K78
open PySem PySem.Spec PyProof.Rows L2 LamX DL
def mkV : Option (List D) → SV
  | none => .dat .none
  | some cs => .own cs
theorem nmOf_some {w : Str} {x : D} : (nmOf w x).isSome = wholeIn x 1 (topOf w) := by
  cases x with
  | int n =>
    simp only [nmOf, wholeIn]
    by_cases h1 : 1 ≤ n <;> by_cases h2 : n ≤ topOf w <;> simp [h1, h2]
  | _ => rfl
theorem look_len {w : Str} : kv_PART_LENGTHS.lookup w = if w = wT then some (.int 2) else if w = wX then some (.int 3) else if w = wP ∨ w = wL then some (.int 3) else none := by
  unfold kv_PART_LENGTHS
  by_cases h1 : w = "twin"
  · subst h1; rfl
  · by_cases h2 : w = "product"
    · subst h2; rfl
    · by_cases h3 : w = "part"
      · subst h3; rfl
      · by_cases h4 : w = "lump"
        · subst h4; rfl
        · have e1 : (w == ("twin" : Str)) = false := by simpa using h1
          have e2 : (w == ("product" : Str)) = false := by simpa using h2
          have e3 : (w == ("part" : Str)) = false := by simpa using h3
          have e4 : (w == ("lump" : Str)) = false := by simpa using h4
          simp [List.lookup, e1, e2, e3, e4, h1, h2, h3, h4]
theorem look_pl {w : Str} : kv_PART_PLACES.lookup w = if w = wT then some (.tuple [.int 1]) else if w = wX then some (.tuple [.int 1, .int 2]) else if w = wP ∨ w = wL then some (.tuple [.int 1]) else none := by
  unfold kv_PART_PLACES
  by_cases h1 : w = "twin"
  · subst h1; rfl
  · by_cases h2 : w = "product"
    · subst h2; rfl
    · by_cases h3 : w = "part"
      · subst h3; rfl
      · by_cases h4 : w = "lump"
        · subst h4; rfl
        · have e1 : (w == ("twin" : Str)) = false := by simpa using h1
          have e2 : (w == ("product" : Str)) = false := by simpa using h2
          have e3 : (w == ("part" : Str)) = false := by simpa using h3
          have e4 : (w == ("lump" : Str)) = false := by simpa using h4
          simp [List.lookup, e1, e2, e3, e4, h1, h2, h3, h4]
theorem k_lenK {w : Str} {S : AS} {g : Bool → Bool} : kInK kv_PART_LENGTHS g (.str w) S = .ok (.dat (.bool (g (decide (w = wT) || (decide (w = wX) || decide (w = wP ∨ w = wL)))))) S := by
  simp only [kInK, look_len]
  by_cases h1 : w = wT <;> by_cases h2 : w = wX <;> by_cases h3 : w = wP ∨ w = wL <;> simp [h1, h2, h3]
theorem len_rest {w : Str} {rest : List D} : ((PyData.str w :: rest).length : Int) = (rest.length : Int) + 1 := by simp
theorem e_made_of (d : D) : g_made_of [some d] [] = .ok (mkV (mkC d)) [] := by
  cases d with
  | tuple ds =>
    cases ds with
    | nil => simp [g_made_of, fb_made_of, mkC, mkV]
    | cons x rest =>
      cases x with
      | str w =>
        have hd := wd_disj (w := w)
        rcases sort5 w with h | ⟨h0, h⟩ | ⟨h0, h1, h⟩ | ⟨h0, h1, h2, h⟩ | ⟨h0, h1, h2, h3, h⟩ | ⟨h0, h1, h2, h3, h4, h5⟩
        · cases rest with
          | nil => simp [g_made_of, fb_made_of, h, mkC, mkR, mkV]
          | cons y r => simp [g_made_of, fb_made_of, h, mkC, mkR, mkV, show ¬ ((r.length : Int) + 1 + 1 = 1) by omega]
        · have ht : g_whole_in [some (rest.headD .none), some (.int 1), some (.int (topOf w))] [] = _ := e_whole_in
          match rest with
          | [] => simp [g_made_of, fb_made_of, h0, h, mkC, mkR, mkV]
          | [y] =>
            simp [g_made_of, fb_made_of, h0, h, mkC, mkR, mkV, k_topi h, nmOf_some]
            cases wholeIn y 1 (topOf w) <;> simp
          | y :: z :: r => simp [g_made_of, fb_made_of, h0, h, mkC, mkR, mkV, show ¬ ((r.length : Int) + 1 + 1 + 1 = 2) by omega]
        · subst h
          have l1 : kv_PART_LENGTHS.lookup wT = some (.int 2) := rfl
          have l2 : kv_PART_PLACES.lookup wT = some (.tuple [.int 1]) := rfl
          match rest with
          | [] => simp [g_made_of, fb_made_of, h0, h1, mkC, mkR, mkV, k_lenK, kItK, l1]
          | [y] => simp [g_made_of, fb_made_of, h0, h1, mkC, mkR, mkV, k_lenK, kItK, l1, l2, fComp]
          | y :: z :: r => simp [g_made_of, fb_made_of, h0, h1, mkC, mkR, mkV, k_lenK, kItK, l1, show ¬ ((r.length : Int) + 1 + 1 + 1 = 2) by omega]
        · subst h
          have l1 : kv_PART_LENGTHS.lookup wX = some (.int 3) := rfl
          have l2 : kv_PART_PLACES.lookup wX = some (.tuple [.int 1, .int 2]) := rfl
          match rest with
          | [] => simp [g_made_of, fb_made_of, h0, h1, mkC, mkR, mkV, k_lenK, kItK, l1]
          | [y] => simp [g_made_of, fb_made_of, h0, h1, mkC, mkR, mkV, k_lenK, kItK, l1]
          | [y, z] => simp [g_made_of, fb_made_of, h0, h1, mkC, mkR, mkV, k_lenK, kItK, l1, l2, fComp]
          | y :: z :: u :: r => simp [g_made_of, fb_made_of, h0, h1, mkC, mkR, mkV, k_lenK, kItK, l1, show ¬ ((r.length : Int) + 1 + 1 + 1 + 1 = 3) by omega]
        · rcases h with h | h
          · subst h
            have l1 : kv_PART_LENGTHS.lookup wP = some (.int 3) := rfl
            have l2 : kv_PART_PLACES.lookup wP = some (.tuple [.int 1]) := rfl
            match rest with
            | [] => simp [g_made_of, fb_made_of, h0, h1, mkC, mkR, mkV, k_lenK, kItK, l1]
            | [y] => simp [g_made_of, fb_made_of, h0, h1, mkC, mkR, mkV, k_lenK, kItK, l1]
            | [y, z] =>
              cases hz : lsOf wP z <;> simp [g_made_of, fb_made_of, h0, h1, mkC, mkR, mkV, k_lenK, kItK, l1, l2, fComp, lsOf_part, hz]
            | y :: z :: u :: r => simp [g_made_of, fb_made_of, h0, h1, mkC, mkR, mkV, k_lenK, kItK, l1, show ¬ ((r.length : Int) + 1 + 1 + 1 + 1 = 3) by omega]
          · subst h
            have l1 : kv_PART_LENGTHS.lookup wL = some (.int 3) := rfl
            have l2 : kv_PART_PLACES.lookup wL = some (.tuple [.int 1]) := rfl
            match rest with
            | [] => simp [g_made_of, fb_made_of, h0, h1, mkC, mkR, mkV, k_lenK, kItK, l1]
            | [y] => simp [g_made_of, fb_made_of, h0, h1, mkC, mkR, mkV, k_lenK, kItK, l1]
            | [y, z] =>
              cases hz : lsOf wL z <;> simp [g_made_of, fb_made_of, h0, h1, mkC, mkR, mkV, k_lenK, kItK, l1, l2, fComp, lsOf_lump, hz]
            | y :: z :: u :: r => simp [g_made_of, fb_made_of, h0, h1, mkC, mkR, mkV, k_lenK, kItK, l1, show ¬ ((r.length : Int) + 1 + 1 + 1 + 1 = 3) by omega]
        · have h6 : ¬ (w = "part" ∨ w = "lump") := by rintro (e | e); exact h4 e; exact h5 e
          simp [g_made_of, fb_made_of, h0, h1, mkC, mkR, mkV, k_lenK, h2, h3, h4, h5]
      | _ => simp [g_made_of, fb_made_of, mkC, mkV]
  | _ => simp [g_made_of, fb_made_of, mkC, mkV]
end K78

set_option maxRecDepth 100000
set_option maxHeartbeats 4000000
/-! PL17: is_part, is_own; the package's way through a value -/
namespace K78
open PySem PySem.Spec PyProof.Rows L2 LamX DL
theorem dep_tup {ds : List D} : PyData.depth (.tuple ds) = PyData.depthAll ds + 1 := by simp [PyData.depth]
theorem dep_in : ∀ {ds : List D} {d : D}, d ∈ ds → PyData.depth d ≤ PyData.depthAll ds
  | e :: ds, d, h => by
    simp only [PyData.depthAll]
    rcases List.mem_cons.mp h with rfl | h
    · omega
    · have := dep_in h; omega
@[simp] theorem isSome_map {α β : Type} {o : Option α} {f : α → β} : (o.map f).isSome = o.isSome := by cases o <;> rfl
theorem prO_some {a b : Option Sk} : (prO a b).isSome = (a.isSome && b.isSome) := by cases a <;> cases b <;> rfl
theorem ptO_some {w : Str} {a : Option (List Int)} {b : Option Sk} : (ptO w a b).isSome = (a.isSome && b.isSome) := by cases a <;> cases b <;> rfl
theorem sk_no {d : D} (h : mkC d = none) : skOf d = none := by have := way d; rw [h] at this; exact this
theorem e_is_part : ∀ (n : Nat) (d : D), d.depth < n → g__law_sx_is_part n [some d] [] = .ok (.dat (.bool (skOf d).isSome)) []
  | 0, d, h => by omega
  | n + 1, d, hn => by
    have ih := e_is_part n
    unfold g__law_sx_is_part at ih ⊢
    cases d with
    | tuple ds =>
      rw [dep_tup] at hn
      have ih2 : ∀ e ∈ ds, q_ispart n [some e] [] = .ok (.dat (.bool (skOf e).isSome)) [] := fun e he => ih e (by have := dep_in he; omega)
      cases ds with
      | nil => simp [q_ispart, fb__law_sx_is_part, skOf]
      | cons x rest =>
        cases x with
        | str w =>
          have hd := wd_disj (w := w)
          rcases sort5 w with h | ⟨h0, h⟩ | ⟨h0, h1, h⟩ | ⟨h0, h1, h2, h⟩ | ⟨h0, h1, h2, h3, h⟩ | ⟨h0, h1, h2, h3, h4, h5⟩
          · have hd := hd.1 h
            match rest with
            | [] => simp [q_ispart, fb__law_sx_is_part, isLf_d, h, sk1]
            | [y] => simp [q_ispart, fb__law_sx_is_part, isLf_d, h, sk2, hd]
            | [y, z] => simp [q_ispart, fb__law_sx_is_part, isLf_d, h, sk3, hd]
            | y :: z :: u :: r => simp [q_ispart, fb__law_sx_is_part, isLf_d, h, sk_long]
          · have hd := hd.2 h
            have e3 : inD (.str w) [.str ("far" : Str), .str ("rank" : Str), .str ("dial" : Str)] = true := by rw [inD_3, ← h]; simp [isNm, Bool.or_assoc]
            match rest with
            | [] => simp [q_ispart, fb__law_sx_is_part, isLf_d, h0, e3, sk1]
            | [y] =>
              by_cases hdl : w = "dial"
              · subst hdl
                simp [q_ispart, fb__law_sx_is_part, isLf_d, h0, e3, sk2, h, nmOf_some, e_within_own, topOf]
              · simp [q_ispart, fb__law_sx_is_part, isLf_d, h0, e3, sk2, h, nmOf_some, e_within_own, topOf, hdl]
            | [y, z] => simp [q_ispart, fb__law_sx_is_part, isLf_d, h0, e3, sk3, hd]
            | y :: z :: u :: r => simp [q_ispart, fb__law_sx_is_part, isLf_d, h0, e3, sk_long, show ¬ ((r.length : Int) + 1 + 1 + 1 = 1) by omega]
          all_goals have e3 : inD (.str w) [.str ("far" : Str), .str ("rank" : Str), .str ("dial" : Str)] = false := by rw [inD_3, ← h1]; simp [isNm, Bool.or_assoc]
          · subst h
            match rest with
            | [] => simp [q_ispart, fb__law_sx_is_part, isLf_d, h0, e3, sk1]
            | [y] => simp [q_ispart, fb__law_sx_is_part, isLf_d, h0, e3, sk2, h1, ih2 y (by simp)]
            | [y, z] => simp [q_ispart, fb__law_sx_is_part, isLf_d, h0, e3, sk3]
            | y :: z :: u :: r => simp [q_ispart, fb__law_sx_is_part, isLf_d, h0, e3, sk_long, show ¬ ((r.length : Int) + 1 + 1 + 1 = 1) by omega]
          · subst h
            match rest with
            | [] => simp [q_ispart, fb__law_sx_is_part, isLf_d, h0, e3, sk1]
            | [y] => simp [q_ispart, fb__law_sx_is_part, isLf_d, h0, e3, sk2, h1]
            | [y, z] =>
              simp [q_ispart, fb__law_sx_is_part, isLf_d, h0, e3, sk3, ih2 y (by simp), ih2 z (by simp), prO_some]
              cases (skOf y).isSome <;> simp
            | y :: z :: u :: r => simp [q_ispart, fb__law_sx_is_part, isLf_d, h0, e3, sk_long, show ¬ ((r.length : Int) + 1 + 1 + 1 = 2) by omega]
          · have e5 : inD (.str w) [.str ("part" : Str), .str ("lump" : Str)] = true := by rw [inD_2]; rcases h with q | q <;> simp [q]
            match rest with
            | [] => simp [q_ispart, fb__law_sx_is_part, isLf_d, h0, e3, h2, h3, e5, sk1]
            | [y] => simp [q_ispart, fb__law_sx_is_part, isLf_d, h0, e3, h2, h3, e5, sk2, h1]
            | [y, z] =>
              have e6 := e_is_list (d := z) (b := decide (w = wP)) (w := w) rfl
              simp [q_ispart, fb__law_sx_is_part, isLf_d, h0, e3, h2, h3, e5, sk3, ih2 y (by simp), ptO_some, e6, h]
              cases hz : lsOf w z <;> simp
            | y :: z :: u :: r => simp [q_ispart, fb__law_sx_is_part, isLf_d, h0, e3, h2, h3, e5, sk_long, show ¬ ((r.length : Int) + 1 + 1 + 1 = 2) by omega]
          · have h6 : ¬ (w = wP ∨ w = wL) := by rintro (e | e); exact h4 e; exact h5 e
            have e7 : skOf (.tuple (.str w :: rest)) = none := by
              match rest with
              | [] => rw [sk1, h0]; rfl
              | [y] => rw [sk2, h1, if_neg (by simp), if_neg h2]
              | [y, z] => rw [sk3, if_neg h3, if_neg h6]
              | y :: z :: u :: r => exact sk_long
            have e5 : inD (.str w) [.str ("part" : Str), .str ("lump" : Str)] = false := by rw [inD_2]; simp [h4, h5]
            simp [q_ispart, fb__law_sx_is_part, isLf_d, h0, e3, h2, h3, e5, e7]
        | _ =>
          simp [q_ispart, fb__law_sx_is_part]
          exact sk_no rfl
    | _ => simp [q_ispart, fb__law_sx_is_part, skOf]

/-! ### the package's way -/
def cnt : D → Nat
  | .tuple [.str _, x] => 1 + cnt x
  | .tuple [.str _, x, y] => 1 + cnt x + cnt y
  | _ => 1
termination_by d => sizeOf d
theorem cnt2 {w : Str} {x : D} : cnt (.tuple [.str w, x]) = 1 + cnt x := by rw [cnt]
theorem cnt3 {w : Str} {x y : D} : cnt (.tuple [.str w, x, y]) = 1 + cnt x + cnt y := by rw [cnt]
theorem cnt_pos (d : D) : 1 ≤ cnt d := by
  unfold cnt; split <;> omega
theorem cnt_mk {d : D} {cs : List D} (h : mkC d = some cs) : (cs.map cnt).sum + 1 ≤ cnt d := by
  have hp := cnt_pos d
  unfold mkC at h
  split at h
  · rename_i w rest
    unfold mkR at h
    split at h
    · split at h
      · cases h; simpa using hp
      · cases h
    · split at h
      · split at h
        · split at h
          · cases h; simpa using hp
          · cases h
        · cases h
      · split at h
        · split at h
          · cases h; rw [cnt2]; simp; omega
          · cases h
        · split at h
          · split at h
            · cases h; rw [cnt3]; simp; omega
            · cases h
          · split at h
            · split at h
              · split at h
                · cases h; rw [cnt3]; simp; omega
                · cases h
              · cases h
            · cases h
  · cases h
theorem mk_shape {d : D} {cs : List D} (h : mkC d = some cs) : cs = [] ∨ (∃ x, cs = [x]) ∨ ∃ x y, cs = [x, y] := by
  have hw := way d
  rw [h] at hw
  match cs, hw with
  | [], _ => exact .inl rfl
  | [x], _ => exact .inr (.inl ⟨x, rfl⟩)
  | [x, y], _ => exact .inr (.inr ⟨x, y, rfl⟩)
structure DS3 where
  st : List (D × Nat)
  m : Nat
  l : Nat
/-- what is owed, the top first -/
def dspec : List (D × Nat) → Nat → Nat → Nat
  | [], m, l => if l ≤ 100 then m else 0
  | (d, k) :: st, m, l => match skOf d with
    | none => 0
    | some s => if 20 < k + s.deep - 1 then 0 else dspec st (max m (k + s.deep - 1)) (l + s.leaves)
theorem dspec_big : ∀ (st : List (D × Nat)) (m l : Nat), 100 < l → dspec st m l = 0
  | [], m, l, h => by simp only [dspec]; rw [if_neg (by omega)]
  | (d, k) :: st, m, l, h => by
    simp only [dspec]
    cases skOf d with
    | none => rfl
    | some s =>
      simp only
      split
      · rfl
      · exact dspec_big st _ _ (by omega)
theorem leaves_pos (s : Sk) : 1 ≤ s.leaves := (sz_le s).2
theorem deep_pos (s : Sk) : 1 ≤ s.deep := by cases s <;> simp [Sk.deep]
def pushC (cs : List D) (k : Nat) : List (D × Nat) := cs.map fun c => (c, k + 1)
/-- one value opened -/
theorem dspec_open {d : D} {k m l : Nat} {cs : List D} {st : List (D × Nat)} (h : mkC d = some cs) (hk : k ≤ 20) : dspec ((d, k) :: st) m l = dspec ((pushC cs k).reverse ++ st) (max m k) (l + if cs = [] then 1 else 0) := by
  have hw := way d
  rw [h] at hw
  match cs, hw with
  | [], ⟨s, h1, h2, h3⟩ =>
    simp only [dspec, h1, h2, h3, pushC, List.map_nil, List.reverse_nil, List.nil_append, if_true, Nat.add_sub_cancel]
    rw [if_neg (by omega)]
  | [x], ⟨h1, h2⟩ =>
    have e : ([x] = ([] : List D)) = False := by simp
    simp only [dspec, pushC, List.map_cons, List.map_nil, List.reverse_cons, List.reverse_nil, List.nil_append, List.cons_append, e, if_false, Nat.add_zero]
    cases q : skOf x with
    | none => rw [h2 q]
    | some a =>
      obtain ⟨s, e1, e2, e3⟩ := h1 a q
      rw [e1]
      have := deep_pos a
      simp only [e2, e3]
      rw [show k + (a.deep + 1) - 1 = k + 1 + a.deep - 1 by omega]
      split
      · rfl
      · congr 1; omega
  | [x, y], ⟨h1, h2⟩ =>
    have e : ([x, y] = ([] : List D)) = False := by simp
    simp only [dspec, pushC, List.map_cons, List.map_nil, List.reverse_cons, List.reverse_nil, List.nil_append, List.cons_append, e, if_false, Nat.add_zero]
    cases q : skOf x with
    | none =>
      rw [h2 (.inl q)]
      cases skOf y with
      | none => rfl
      | some b => simp only; split <;> rfl
    | some a =>
      cases q2 : skOf y with
      | none => rw [h2 (.inr q2)]
      | some b =>
        obtain ⟨s, e1, e2, e3⟩ := h1 a b q q2
        rw [e1]
        have := deep_pos a
        have := deep_pos b
        simp only [e2, e3]
        by_cases c1 : 20 < k + 1 + b.deep - 1
        · rw [if_pos c1, if_pos (by omega)]
        · rw [if_neg c1]
          by_cases c2 : 20 < k + 1 + a.deep - 1
          · rw [if_pos c2, if_pos (by omega)]
          · rw [if_neg c2, if_neg (by omega)]
            congr 1 <;> omega
theorem dspec_deep {d : D} {k m l : Nat} {st : List (D × Nat)} (hk : 20 < k) : dspec ((d, k) :: st) m l = 0 := by
  simp only [dspec]
  cases skOf d with
  | none => rfl
  | some s => have := deep_pos s; simp only; rw [if_pos (by omega)]
end K78

set_option maxRecDepth 100000
set_option maxHeartbeats 4000000
/-! PL18: is_sketch of any value -/
namespace K78
open PySem PySem.Spec PyProof.Rows L2 LamX DL
def dkD (p : D × Nat) : D := .tuple [p.1, .int p.2]
def frD (d : D) (s : DS3) : AS := [some (SV.dat d), some (SV.own (s.st.map dkD)), some (SV.dat (.int s.m)), some (SV.dat (.int s.l)), none, none, none, none]
def dDone (s : DS3) : Bool := s.st.isEmpty
def dStep (s : DS3) : Sum DS3 SV := match s.st.getLast? with
  | none => .inl s
  | some (d, k) => match mkC d with
    | none => .inr (.dat (.int 0))
    | some cs => if 20 < k ∨ 100 < s.l then .inr (.dat (.int 0)) else .inl ⟨s.st.dropLast ++ pushC cs k, max s.m k, s.l + if cs = [] then 1 else 0⟩
def dMu (s : DS3) : Nat := (s.st.map fun p => cnt p.1).sum
theorem cnt_push {cs : List D} {k : Nat} : ((pushC cs k).map fun p => cnt p.1).sum = (cs.map cnt).sum := by
  unfold pushC; rw [List.map_map]; rfl
theorem dMu_dec {s s' : DS3} (h : dStep s = .inl s') (hd : dDone s = false) : dMu s' < dMu s := by
  obtain ⟨st, m, l⟩ := s
  rcases List.eq_nil_or_concat st with e | ⟨st0, p, e⟩
  · subst e; cases hd
  · rw [List.concat_eq_append] at e
    subst e
    obtain ⟨d, k⟩ := p
    simp only [dStep, List.getLast?_append, List.getLast?_singleton, Option.some_or, List.dropLast_concat] at h
    cases q : mkC d with
    | none => rw [q] at h; cases h
    | some cs =>
      rw [q] at h
      simp only at h
      split at h
      · cases h
      · cases h
        have := cnt_mk q
        simp only [dMu, List.map_append, List.sum_append, cnt_push, List.map_cons, List.map_nil, List.sum_cons, List.sum_nil]
        omega
theorem run_spec : ∀ (n : Nat) (s : DS3), dMu s < n → (match runW dDone dStep n s with
    | .inl s' => s'.st = [] ∧ dspec s.st.reverse s.m s.l = if s'.l ≤ 100 then s'.m else 0
    | .inr v => v = .dat (.int 0) ∧ dspec s.st.reverse s.m s.l = 0)
  | 0, s, h => by omega
  | n + 1, s, h => by
    have ih := run_spec n
    obtain ⟨st, m, l⟩ := s
    rcases List.eq_nil_or_concat st with e | ⟨st0, p, e⟩
    · subst e
      exact ⟨rfl, rfl⟩
    · rw [List.concat_eq_append] at e
      subst e
      obtain ⟨d, k⟩ := p
      have hd : dDone ⟨st0 ++ [(d, k)], m, l⟩ = false := by simp [dDone]
      simp only [runW, hd, Bool.false_eq_true, if_false]
      have hrev : (st0 ++ [(d, k)]).reverse = (d, k) :: st0.reverse := by simp
      rw [hrev]
      cases q : mkC d with
      | none =>
        have e1 : dStep ⟨st0 ++ [(d, k)], m, l⟩ = .inr (.dat (.int 0)) := by simp [dStep, q]
        rw [e1]
        refine ⟨rfl, ?_⟩
        simp only [dspec, sk_no q]
      | some cs =>
        by_cases c : 20 < k ∨ 100 < l
        · have e1 : dStep ⟨st0 ++ [(d, k)], m, l⟩ = .inr (.dat (.int 0)) := by simp [dStep, q, c]
          rw [e1]
          refine ⟨rfl, ?_⟩
          rcases c with c | c
          · exact dspec_deep c
          · exact dspec_big _ _ _ c
        · have e1 : dStep ⟨st0 ++ [(d, k)], m, l⟩ = .inl ⟨st0 ++ pushC cs k, max m k, l + if cs = [] then 1 else 0⟩ := by simp [dStep, q, c]
          have hmu := dMu_dec e1 hd
          rw [e1]
          have := ih ⟨st0 ++ pushC cs k, max m k, l + if cs = [] then 1 else 0⟩ (by omega)
          simp only at this ⊢
          rw [dspec_open q (by omega)]
          rw [List.reverse_append] at this
          exact this
theorem mkC_len {d : D} {cs : List D} (h : mkC d = some cs) : cs.length ≤ 2 := by
  rcases mk_shape h with e | ⟨x, e⟩ | ⟨x, y, e⟩ <;> subst e <;> simp
@[simp] theorem popL_c {α : Type} {l : List (D × Nat)} {p : D × Nat} : popL ((l.map dkD) ++ [dkD p]) = some (dkD p, l.map dkD) := by
  unfold popL; simp
@[simp] theorem mkV_none : mkV none = .dat .none := rfl
@[simp] theorem mkV_some {cs : List D} : mkV (some cs) = .own cs := rfl
@[simp] theorem isNone_lst {cs : List D} : DL.isNone (.list cs) = false := rfl
def skB (d : D) : Bool := match skOf d with
  | some s => isOk s
  | none => false
def invD (s : DS3) : Prop := s.st.length + 2 * dMu s ≤ 4000000
theorem dStep_inv {s s' : DS3} (h : dStep s = .inl s') (hd : dDone s = false) (hi : invD s) : invD s' := by
  have hmu := dMu_dec h hd
  obtain ⟨st, m, l⟩ := s
  rcases List.eq_nil_or_concat st with e | ⟨st0, p, e⟩
  · subst e; cases hd
  · rw [List.concat_eq_append] at e
    subst e
    obtain ⟨d, k⟩ := p
    simp only [dStep, List.getLast?_append, List.getLast?_singleton, Option.some_or, List.dropLast_concat] at h
    cases q : mkC d with
    | none => rw [q] at h; cases h
    | some cs =>
      rw [q] at h
      simp only at h
      split at h
      · cases h
      · cases h
        have := mkC_len q
        simp only [invD, List.length_append, List.length_cons, List.length_nil, pushC, List.length_map] at hi ⊢
        simp only [pushC] at hmu
        omega
theorem e_depth_of {d : D} (hc : cnt d ≤ 900000) : g_depth_of [some d] [] = .ok (.dat (.int (dspec [(d, 1)] 0 0))) [] := by
  simp [g_depth_of, fb_depth_of]
  have h0 : frD d ⟨[(d, 1)], 0, 0⟩ = [some (SV.dat d), some (SV.own [.tuple [d, .int 1]]), some (SV.dat (.int 0)), some (SV.dat (.int 0)), none, none, none, none] := by simp [frD, dkD]
  rw [← h0]
  have hmu0 : dMu ⟨[(d, 1)], 0, 0⟩ = cnt d := by simp [dMu]
  refine while_fin (frD d) invD dDone dStep dMu (st := ⟨[(d, 1)], 0, 0⟩) (by simp [invD, hmu0]; omega) (by rw [hmu0]; omega) ?_ ?_ (fun st st' _ hd hs => dMu_dec hs hd) ?_
  · intro s hi hd
    obtain ⟨st, m, l⟩ := s
    have : st = [] := by simpa [dDone] using hd
    subst this
    simp [frD]
  · intro s hi hd
    have hi0 := hi
    obtain ⟨st, m, l⟩ := s
    rcases List.eq_nil_or_concat st with e | ⟨st0, p, e⟩
    · subst e; cases hd
    · rw [List.concat_eq_append] at e
      subst e
      obtain ⟨h, k⟩ := p
      have e1 : (st0 ++ [(h, k)]).map dkD = st0.map dkD ++ [dkD (h, k)] := by simp
      refine ⟨frD d ⟨st0 ++ [(h, k)], m, l⟩, by simp [frD, e1], ?_⟩
      have hmk := e_made_of h
      have hp := popL_c (α := Unit) (l := st0) (p := (h, k))
      simp only [invD, List.length_append, List.length_cons, List.length_nil] at hi
      cases q : mkC h with
      | none =>
        have es : dStep ⟨st0 ++ [(h, k)], m, l⟩ = .inr (.dat (.int 0)) := by simp [dStep, q]
        rw [es]
        rw [q] at hmk
        simp [StepR, frD, e1, hp]
        simp [dkD, hmk]
      | some cs =>
        rw [q] at hmk
        have hl := mkC_len q
        by_cases c : 20 < k ∨ 100 < l
        · have es : dStep ⟨st0 ++ [(h, k)], m, l⟩ = .inr (.dat (.int 0)) := by simp [dStep, q, c]
          rw [es]
          by_cases c1 : 20 < k
          · simp [StepR, frD, e1, hp]
            simp [dkD, hmk, show (20 : Int) < k by omega]
          · simp [StepR, frD, e1, hp]
            simp [dkD, hmk, show ¬ ((20 : Int) < k) by omega, show (100 : Int) < l by omega]
        · have es : dStep ⟨st0 ++ [(h, k)], m, l⟩ = .inl ⟨st0 ++ pushC cs k, max m k, l + if cs = [] then 1 else 0⟩ := by simp [dStep, q, c]
          have hinv := dStep_inv es hd hi0
          rw [es]
          refine ⟨hinv, ?_⟩
          have f1 : ¬ ((20 : Int) < k) := by omega
          have f2 : ¬ ((100 : Int) < l) := by omega
          have f3 : (if m < k then (k : Int) else m) = ((max m k : Nat) : Int) := by split <;> omega
          simp [frD, e1, hp]
          simp [dkD, hmk, f1, f2]
          rw [fComp_all (fun c => dkD (c, k + 1))]
          rotate_left
          · intro c hc
            refine ⟨_, _, rfl, rfl, ?_⟩
            simp [dkD]
          · omega
          simp [extL, show st0.length + cs.length ≤ 16777216 by omega, pushC, f3]
          split <;> rfl
  · intro o ho
    have hs := run_spec 1000000 ⟨[(d, 1)], 0, 0⟩ (by rw [hmu0]; omega)
    cases hr : runW dDone dStep 1000000 ⟨[(d, 1)], 0, 0⟩ with
    | inr v =>
      rw [hr] at hs ho
      obtain ⟨S2, ho, h2⟩ := ho
      rw [ho]
      simp only [List.reverse_cons, List.reverse_nil, List.nil_append] at hs
      simp [h2, hs.1, hs.2]
    | inl s' =>
      rw [hr] at hs ho
      obtain ⟨ho, _⟩ := ho
      rw [ho]
      simp only [List.reverse_cons, List.reverse_nil, List.nil_append] at hs
      by_cases c : s'.l ≤ 100
      · simp [frD, hs.2, c, show (s'.l : Int) ≤ 100 by omega]
      · simp [frD, hs.2, c, show ¬ ((s'.l : Int) ≤ 100) by omega]
theorem e_is_sketch {d : D} (hc : cnt d ≤ 900000) : g_is_sketch [some d] [] = .ok (.dat (.bool (skB d))) [] := by
  have h := e_depth_of hc
  simp only [dspec] at h
  simp only [skB]
  cases q : skOf d with
  | none =>
    rw [q] at h
    simp only at h
    simp at h
    simp [g_is_sketch, fb_is_sketch, h]
  | some s =>
    rw [q] at h
    simp only at h
    have := deep_pos s
    by_cases c1 : s.deep ≤ 20
    · by_cases c2 : s.leaves ≤ 100
      · rw [if_neg (by omega), if_pos (by omega)] at h
        simp [g_is_sketch, fb_is_sketch, h, isOk, c1, c2]
        omega
      · rw [if_neg (by omega), if_neg (by omega)] at h
        simp at h
        simp [g_is_sketch, fb_is_sketch, h, isOk, c2]
    · rw [if_pos (by omega)] at h
      simp at h
      simp [g_is_sketch, fb_is_sketch, h, isOk, c1]
theorem e_is_own {d : D} (hd : d.depth < 30) : g__law_sx_is_own [some d] [] = .ok (.dat (.bool (skB d))) [] := by
  have h := e_is_part 30 d hd
  simp only [skB]
  cases q : skOf d with
  | none => rw [q] at h; simp at h; simp [g__law_sx_is_own, fb__law_sx_is_own, h]
  | some s =>
    rw [q] at h
    simp at h
    have ⟨h1, h2⟩ := sk_is _ (Nat.lt_succ_self _) q
    have hdp : s.deep ≤ 30 := by
      have : ∀ s : Sk, s.deep ≤ s.toD.depth := by
        intro s
        induction s with
        | lf w => simp [Sk.deep, Sk.toD, PyData.depth, PyData.depthAll]
        | nm w n => simp [Sk.deep, Sk.toD, PyData.depth, PyData.depthAll]
        | tw x ih => simp [Sk.deep, Sk.toD, PyData.depth, PyData.depthAll]; omega
        | pr x y ih1 ih2 => simp [Sk.deep, Sk.toD, PyData.depth, PyData.depthAll]; omega
        | pt w x ks ih => simp [Sk.deep, Sk.toD, PyData.depth, PyData.depthAll]; omega
      have := this s
      rw [← h2] at this
      omega
    subst h2
    simp [g__law_sx_is_own, fb__law_sx_is_own, h, e_deep 200 s h1 (by omega), e_leaves 200 s h1 (by omega), isOk]
    by_cases c1 : s.deep ≤ 20
    · simp [c1, show (s.deep : Int) ≤ 20 by omega]; omega
    · simp [c1, show ¬ ((s.deep : Int) ≤ 20) by omega]
end K78

set_option maxRecDepth 100000
set_option maxHeartbeats 4000000
/-! PL19: sketch_text -/
namespace K78
open PySem PySem.Spec PyProof.Rows L2 LamX DL
theorem e_is_leaf {s : Sk} (h : s.ok) : g_is_leaf [some s.toD] [] = .ok (.dat (.bool s.isLeaf)) [] := by
  cases s with
  | lf w => simp only [Sk.ok] at h; simp [g_is_leaf, fb_is_leaf, Sk.toD, h, Sk.isLeaf]
  | nm w n => simp only [Sk.ok] at h; cases hl : isLf w <;> simp [g_is_leaf, fb_is_leaf, Sk.toD, h, Sk.isLeaf, hl]
  | tw x => simp [g_is_leaf, fb_is_leaf, Sk.toD, Sk.isLeaf, isLf, isNm]
  | pr x y => simp [g_is_leaf, fb_is_leaf, Sk.toD, Sk.isLeaf, isLf, isNm]
  | pt w x ks =>
    have := lsW_not h.2
    simp [g_is_leaf, fb_is_leaf, Sk.toD, this.1, this.2, Sk.isLeaf]
theorem e_lot_text {ks : List Int} (h : lsIn ks = true) (hl : ks.length ≤ 13) : g_lot_text [some (.tuple (ks.map .int))] [] = .ok (.dat (.str (lsT ks))) [] := by
  simp [g_lot_text, fb_lot_text]
  rw [fComp_allM PyData.int (fun k => .str (numS k))]
  rotate_left
  · intro k hk
    have h2 := List.all_eq_true.mp h k hk
    simp only [Bool.and_eq_true, decide_eq_true_eq] at h2
    refine ⟨_, _, rfl, rfl, ?_⟩
    simp [h2.1, log_small h2.1 (by omega)]
  · omega
  have e : (ks.map fun k => PyData.str (numS k)) = (ks.map numS).map PyData.str := by rw [List.map_map]; rfl
  have hs := ls_sum h
  simp [e]
  rw [← List.map_map, kJoinL (by rw [List.length_map, show ("," : Str).length = 1 from rfl]; omega)]
  simp [lsT]
abbrev It := Sum Str Sk
def itD : It → D
  | .inl w => .str w
  | .inr s => s.toD
def tps : Sk → List It
  | .lf w => [.inl w]
  | .nm w n => [.inl w, .inl (numS n)]
  | .tw x => [.inr x, .inl wT]
  | .pr x y => if y.isLeaf = true then [.inr x, .inl wM, .inr y] else [.inr x, .inl wM, .inl wA, .inr y, .inl wZ]
  | .pt w x ks => [.inr x, .inl w, .inl (lsT ks)]
theorem e_told_parts {s : Sk} (h : s.ok) : ∃ r, g_told_parts [some s.toD] [] = .ok (.own ((tps s).map itD)) r ∧ r = [] := by
  refine ⟨[], ?_, rfl⟩
  have hl := e_is_leaf h
  cases s with
  | lf w =>
    rw [Sk.toD] at *
    simp [g_told_parts, fb_told_parts, hl, Sk.isLeaf, fComp, tps, itD]
  | nm w n =>
    have h2 := h.2
    have := top_le (w := w)
    rw [Sk.toD] at *
    simp [g_told_parts, fb_told_parts, hl, Sk.isLeaf, fComp, tps, itD, show (0 : Int) ≤ n by omega, log_small (n := n) (by omega) (by omega)]
  | tw x =>
    rw [Sk.toD] at *
    simp [g_told_parts, fb_told_parts, hl, Sk.isLeaf, tps, itD]
  | pr x y =>
    have hl2 := e_is_leaf h.2
    rw [show (x.pr y).isLeaf = false from rfl] at hl
    rw [Sk.toD] at *
    cases hy : y.isLeaf <;> simp [g_told_parts, fb_told_parts, hl, hl2, hy, tps, itD]
  | pt w x ks =>
    obtain ⟨h1, h2, h3, h4⟩ := h.2
    have hn := pt_ne h.2
    rw [Sk.toD] at *
    simp [g_told_parts, fb_told_parts, hl, Sk.isLeaf, tps, itD, hn.1, hn.2, e_lot_text h3 h2]
def flat : List It → List Str
  | [] => []
  | .inl w :: r => w :: flat r
  | .inr s :: r => s.wds ++ flat r
theorem flat_app : ∀ a b : List It, flat (a ++ b) = flat a ++ flat b
  | [], b => rfl
  | .inl w :: r, b => by simp [flat, flat_app r b]
  | .inr s :: r, b => by simp [flat, flat_app r b]
theorem flat_tps (s : Sk) : flat (tps s) = s.wds := by
  cases s with
  | pr x y => cases hy : y.isLeaf <;> simp [tps, flat, Sk.wds, hy]
  | _ => simp [tps, flat, Sk.wds]
def cSk : Sk → Nat
  | .lf _ => 2
  | .nm _ _ => 3
  | .tw x => cSk x + 2
  | .pr x y => cSk x + cSk y + 4
  | .pt _ x _ => cSk x + 3
def cIt : It → Nat
  | .inl _ => 1
  | .inr s => cSk s
theorem cSk_le : ∀ s : Sk, cSk s ≤ 5 * s.sz
  | .lf _ => by simp [cSk, Sk.sz]
  | .nm _ _ => by simp [cSk, Sk.sz]
  | .tw x => by have := cSk_le x; simp only [cSk, Sk.sz]; omega
  | .pr x y => by have := cSk_le x; have := cSk_le y; simp only [cSk, Sk.sz]; omega
  | .pt _ x _ => by have := cSk_le x; simp only [cSk, Sk.sz]; omega
theorem cIt_tps (s : Sk) : ((tps s).map cIt).sum + 1 ≤ cSk s := by
  cases s with
  | pr x y => cases hy : y.isLeaf <;> simp [tps, cIt, cSk, hy] <;> omega
  | _ => simp [tps, cIt, cSk] <;> omega
theorem cIt_pos (i : It) : 1 ≤ cIt i := by
  cases i with
  | inl w => simp [cIt]
  | inr s => cases s <;> simp [cIt, cSk] <;> omega
theorem len_cIt : ∀ l : List It, l.length ≤ (l.map cIt).sum
  | [] => by simp
  | i :: l => by have := cIt_pos i; have := len_cIt l; simp only [List.length_cons, List.map_cons, List.sum_cons]; omega
def okIt : It → Prop
  | .inl _ => True
  | .inr s => s.ok
theorem ok_tps {s : Sk} (h : s.ok) : ∀ i ∈ tps s, okIt i := by
  cases s with
  | pr x y => cases hy : y.isLeaf <;> simp [tps, hy, okIt, h.1, h.2]
  | tw x => simp [tps, okIt]; exact h
  | pt w x ks => simp [tps, okIt, h.1]
  | _ => simp [tps, okIt]
structure TS where
  st : List It
  ws : List Str
def frT (d : D) (s : TS) : AS := [some (SV.dat d), some (SV.own (s.st.map itD)), some (SV.own (s.ws.map .str)), none]
def tDone (s : TS) : Bool := s.st.isEmpty
def tStep (s : TS) : Sum TS SV := match s.st.getLast? with
  | none => .inl s
  | some (.inl w) => .inl ⟨s.st.dropLast, s.ws ++ [w]⟩
  | some (.inr x) => .inl ⟨s.st.dropLast ++ (tps x).reverse, s.ws⟩
def tMu (s : TS) : Nat := (s.st.map cIt).sum
theorem sum_rev (l : List It) : (l.reverse.map cIt).sum = (l.map cIt).sum := by
  induction l with
  | nil => rfl
  | cons i l ih => simp [ih]; omega
theorem tMu_dec {s s' : TS} (h : tStep s = .inl s') (hd : tDone s = false) : tMu s' < tMu s := by
  obtain ⟨st, ws⟩ := s
  rcases List.eq_nil_or_concat st with e | ⟨st0, p, e⟩
  · subst e; cases hd
  · rw [List.concat_eq_append] at e
    subst e
    cases p with
    | inl w =>
      simp [tStep] at h
      subst h
      simp [tMu, cIt]
    | inr x =>
      simp [tStep] at h
      subst h
      have := cIt_tps x
      simp only [tMu, List.map_append, List.sum_append, sum_rev, List.map_cons, List.map_nil, List.sum_cons, List.sum_nil, cIt]
      omega
def invT (goal : List Str) (s : TS) : Prop := s.ws ++ flat s.st.reverse = goal ∧ s.ws.length + tMu s ≤ 100000 ∧ ∀ i ∈ s.st, okIt i
theorem tStep_inv {goal : List Str} {s s' : TS} (h : tStep s = .inl s') (hd : tDone s = false) (hi : invT goal s) : invT goal s' := by
  have hmu := tMu_dec h hd
  obtain ⟨st, ws⟩ := s
  obtain ⟨h1, h2, h3⟩ := hi
  simp only at h1 h2 h3
  rcases List.eq_nil_or_concat st with e | ⟨st0, p, e⟩
  · subst e; cases hd
  · rw [List.concat_eq_append] at e
    subst e
    cases p with
    | inl w =>
      simp [tStep] at h
      subst h
      refine ⟨?_, ?_, fun i hi => h3 i (by simp [hi])⟩
      · simpa [flat] using h1
      · simp only [List.length_append, List.length_cons, List.length_nil]; omega
    | inr x =>
      simp [tStep] at h
      subst h
      refine ⟨?_, by show ws.length + _ ≤ _; omega, fun i hi => ?_⟩
      · rw [← h1]
        simp [flat, flat_app, flat_tps]
      · simp only [List.mem_append, List.mem_reverse] at hi
        rcases hi with hi | hi
        · exact h3 i (by simp [hi])
        · exact ok_tps (h3 (.inr x) (by simp)) i hi
theorem run_T {goal : List Str} : ∀ (n : Nat) (s : TS), invT goal s → tMu s < n → runW tDone tStep n s = .inl ⟨[], goal⟩
  | 0, s, _, h => by omega
  | n + 1, s, hi, h => by
    simp only [runW]
    cases hd : tDone s with
    | true =>
      obtain ⟨st, ws⟩ := s
      have : st = [] := by simpa [tDone] using hd
      subst this
      have := hi.1
      simp [flat] at this
      simp [this]
    | false =>
      simp only [Bool.false_eq_true, if_false]
      cases hs : tStep s with
      | inl s' => exact run_T n s' (tStep_inv hs hd hi) (by have := tMu_dec hs hd; omega)
      | inr v =>
        exfalso
        unfold tStep at hs
        split at hs <;> cases hs
theorem join_len {c : Nat} : ∀ {ws : List Str}, ws ≠ [] → (Txt.join ⟨#[c]⟩ ws).length + 1 = (ws.map (·.length)).sum + ws.length
  | [], h => absurd rfl h
  | [x], _ => by simp [join_one]
  | x :: y :: r, _ => by
    have ih := join_len (c := c) (ws := y :: r) (by simp)
    rw [join_cons (by simp)]
    simp only [str_len_app, List.map_cons, List.sum_cons, List.length_cons] at ih ⊢
    have : (⟨#[c]⟩ : Str).length = 1 := rfl
    omega
theorem popL_i {l : List It} {p : It} : popL ((l.map itD) ++ [itD p]) = some (itD p, l.map itD) := by
  unfold popL; simp
theorem isStr_toD {s : Sk} : (match s.toD with | .str _ => true | _ => false) = false := by cases s <;> rfl
theorem e_sketch_text {d : D} (hc : cnt d ≤ 900000) : g_sketch_text [some d] [] = (match skOf d with
    | some s => if isOk s = true then .ok (.dat (.str s.txt)) [] else .exc "BadSketch" (.int 0) []
    | none => .exc "BadSketch" (.int 0) []) := by
  have his := e_is_sketch hc
  simp only [skB] at his
  cases q : skOf d with
  | none =>
    rw [q] at his
    simp at his
    simp [g_sketch_text, fb_sketch_text, his]
  | some s =>
    rw [q] at his
    simp only at his ⊢
    cases hk : isOk s with
    | false => rw [hk] at his; simp [g_sketch_text, fb_sketch_text, his]
    | true =>
      rw [hk] at his
      have ⟨h1, h2⟩ := sk_is _ (Nat.lt_succ_self _) q
      simp only [isOk, Bool.and_eq_true, decide_eq_true_eq] at hk
      have hz : s.sz ≤ 2000 := by
        have := (sz_le s).1
        have : s.leaves * s.deep ≤ 100 * 20 := Nat.mul_le_mul hk.2 hk.1
        omega
      have hcs := cSk_le s
      have htl := txt_len h1
      simp [g_sketch_text, fb_sketch_text, his]
      have h0 : frT d ⟨[.inr s], []⟩ = [some (SV.dat d), some (SV.own [d]), some (SV.own []), none] := by simp [frT, itD, h2]
      rw [← h0]
      have hmu0 : tMu ⟨[.inr s], []⟩ = cSk s := by simp [tMu, cIt]
      have hi0 : invT s.wds ⟨[.inr s], []⟩ := ⟨by simp [flat], by rw [hmu0]; simp; omega, by simp [okIt]; exact h1⟩
      refine while_fin (frT d) (invT s.wds) tDone tStep tMu (st := ⟨[.inr s], []⟩) hi0 (by rw [hmu0]; omega) ?_ ?_ (fun st st' _ hd hs => tMu_dec hs hd) ?_
      · intro t hi hd
        obtain ⟨st, ws⟩ := t
        have : st = [] := by simpa [tDone] using hd
        subst this
        simp [frT]
      · intro t hi hd
        have hi1 := hi
        obtain ⟨st, ws⟩ := t
        obtain ⟨i1, i2, i3⟩ := hi
        simp only at i1 i2 i3
        rcases List.eq_nil_or_concat st with e | ⟨st0, p, e⟩
        · subst e; cases hd
        · rw [List.concat_eq_append] at e
          subst e
          have e1 : (st0 ++ [p]).map itD = st0.map itD ++ [itD p] := by simp
          have hp := popL_i (l := st0) (p := p)
          have hln := len_cIt (st0 ++ [p])
          simp only [tMu] at i2
          simp only [List.length_append, List.length_cons, List.length_nil] at hln
          refine ⟨frT d ⟨st0 ++ [p], ws⟩, by simp [frT, e1], ?_⟩
          cases p with
          | inl w =>
            have es : tStep ⟨st0 ++ [.inl w], ws⟩ = .inl ⟨st0, ws ++ [w]⟩ := by simp [tStep]
            have hinv := tStep_inv es hd hi1
            rw [es]
            refine ⟨hinv, ?_⟩
            simp [frT, e1, hp]
            simp [itD, appL, show ws.length ≤ 16777215 by omega]
          | inr x =>
            have es : tStep ⟨st0 ++ [.inr x], ws⟩ = .inl ⟨st0 ++ (tps x).reverse, ws⟩ := by simp [tStep]
            have hinv := tStep_inv es hd hi1
            have hln2 := len_cIt (st0 ++ (tps x).reverse)
            have hb := hinv.2.1
            simp only [tMu] at hb
            simp only [List.length_append, List.length_reverse] at hln2
            rw [es]
            refine ⟨hinv, ?_⟩
            obtain ⟨_, htp, rfl⟩ := e_told_parts (i3 (.inr x) (by simp))
            obtain ⟨ds, hx⟩ : ∃ ds, x.toD = .tuple ds := by cases x <;> exact ⟨_, rfl⟩
            have hx2 : itD (.inr x) = .tuple ds := hx
            rw [hx2] at e1 hp
            rw [hx] at htp
            simp [frT, e1, hp, htp, extL, show st0.length + (tps x).length ≤ 16777216 by omega]
      · intro o ho
        rw [run_T 1000000 _ hi0 (by rw [hmu0]; omega)] at ho
        obtain ⟨ho, _⟩ := ho
        rw [ho]
        have hj := join_len (c := 32) s.wds_ne
        have hj2 : (Txt.join " " s.wds).length + 1 = (s.wds.map (·.length)).sum + s.wds.length := hj
        have ht : s.txt = Txt.join " " s.wds := rfl
        rw [ht] at htl ⊢
        simp [frT]
        rw [kJoinL (by rw [show (" " : Str).length = 1 from rfl]; omega)]
        simp
end K78

set_option maxRecDepth 100000
set_option maxHeartbeats 4000000
/-! PL20: same, read_sketch, the law's two questions -/
namespace K78
open PySem PySem.Spec PyProof.Rows L2 LamX DL
inductive Pl : D → Prop
  | non : Pl .none
  | bool (b : Bool) : Pl (.bool b)
  | int (i : Int) : Pl (.int i)
  | str (x : Str) : Pl (.str x)
  | tup (ds : List D) (h : ∀ e ∈ ds, Pl e) (hl : ds.length ≤ 1000000) : Pl (.tuple ds)
  | lst (ds : List D) (h : ∀ e ∈ ds, Pl e) (hl : ds.length ≤ 1000000) : Pl (.list ds)
theorem whole_own {d : D} : g__law_tq_is_whole [some d] [] = .ok (.dat (.bool (match d with | .int _ => true | _ => false))) [] := by
  cases d <;> simp [g__law_tq_is_whole, fb__law_tq_is_whole]
theorem mem_range {n : Nat} {d : D} (h : d ∈ rangeD 0 n) : ∃ i : Nat, i < n ∧ d = .int i := by
  unfold rangeD at h
  obtain ⟨i, hi, rfl⟩ := List.mem_map.mp h
  exact ⟨i, List.mem_range.mp hi, by simp⟩
theorem e_same : ∀ (n : Nat) (d : D), Pl d → d.depth < n → g__law_tq_same n [some d, some d] [] = .ok (.dat (.bool true)) []
  | 0, d, _, h => by omega
  | n + 1, d, hp, hd => by
    have ih := e_same n
    unfold g__law_tq_same at ih ⊢
    cases hp with
    | non => simp [q_same, fb__law_tq_same]
    | bool b => cases b <;> simp [q_same, fb__law_tq_same, DL.isNone]
    | int i => simp [q_same, fb__law_tq_same, DL.isNone, whole_own]
    | str x => simp [q_same, fb__law_tq_same, DL.isNone]
    | tup ds h hl =>
      rw [dep_tup] at hd
      simp [q_same, fb__law_tq_same, DL.isNone, rg_nat (show ds.length ≤ 1000000000 by omega)]
      refine for_fin (fun _ : Unit => [some (SV.dat (.tuple ds)), some (SV.dat (.tuple ds)), none]) (fun _ => True) (fun _ _ => .inl ()) (st := ()) trivial ?_ ?_
      · intro _ d hd2 _
        obtain ⟨i, hi, rfl⟩ := mem_range hd2
        have he := ih ds[i] (h _ (List.getElem_mem hi)) (by have := dep_in (List.getElem_mem hi); omega)
        refine ⟨_, rfl, trivial, ?_⟩
        simp [at_nat, hi, he]
      · intro o ho
        have : ∀ l : List D, runL (fun (_ : Unit) (_ : D) => (.inl () : Sum Unit SV)) l () = .inl () := by
          intro l; induction l with
          | nil => rfl
          | cons a l ih => exact ih
        rw [this] at ho
        obtain ⟨ho, _⟩ := ho
        rw [ho]
        simp
    | lst ds h hl =>
      have hd : PyData.depthAll ds + 1 < n + 1 := by simpa [PyData.depth] using hd
      simp [q_same, fb__law_tq_same, DL.isNone, rg_nat (show ds.length ≤ 1000000000 by omega)]
      refine for_fin (fun _ : Unit => [some (SV.dat (.list ds)), some (SV.dat (.list ds)), none]) (fun _ => True) (fun _ _ => .inl ()) (st := ()) trivial ?_ ?_
      · intro _ d hd2 _
        obtain ⟨i, hi, rfl⟩ := mem_range hd2
        have he := ih ds[i] (h _ (List.getElem_mem hi)) (by have := dep_in (List.getElem_mem hi); omega)
        refine ⟨_, rfl, trivial, ?_⟩
        simp [at_nat, hi, he]
      · intro o ho
        have : ∀ l : List D, runL (fun (_ : Unit) (_ : D) => (.inl () : Sum Unit SV)) l () = .inl () := by
          intro l; induction l with
          | nil => rfl
          | cons a l ih => exact ih
        rw [this] at ho
        obtain ⟨ho, _⟩ := ho
        rw [ho]
        simp
theorem pl_ints (ks : List Int) (h : ks.length ≤ 1000000) : Pl (.tuple (ks.map .int)) := .tup _ (fun e he => by
  obtain ⟨k, _, rfl⟩ := List.mem_map.mp he
  exact .int k) (by simpa using h)
theorem pl_toD : ∀ s : Sk, s.ok → Pl s.toD
  | .lf w, _ => .tup _ (by simp; exact .str w) (by simp)
  | .nm w n, _ => .tup _ (by simp; exact ⟨.str w, .int n⟩) (by simp)
  | .tw x, h => .tup _ (by simp; exact ⟨.str _, pl_toD x h⟩) (by simp)
  | .pr x y, h => .tup _ (by simp; exact ⟨.str _, pl_toD x h.1, pl_toD y h.2⟩) (by simp)
  | .pt w x ks, h => .tup _ (by simp; exact ⟨.str w, pl_toD x h.1, pl_ints ks (by have := h.2.2.1; omega)⟩) (by simp)
theorem dep_ints (ks : List Int) : PyData.depthAll (ks.map PyData.int) = 0 := by
  induction ks with
  | nil => rfl
  | cons k ks ih => simp [PyData.depthAll, ih]
theorem dep_toD : ∀ s : Sk, s.toD.depth ≤ s.deep + 1
  | .lf w => by simp [Sk.toD, PyData.depth, PyData.depthAll, Sk.deep]
  | .nm w n => by simp [Sk.toD, PyData.depth, PyData.depthAll, Sk.deep]
  | .tw x => by have := dep_toD x; simp [Sk.toD, PyData.depth, PyData.depthAll, Sk.deep]; omega
  | .pr x y => by have := dep_toD x; have := dep_toD y; simp [Sk.toD, PyData.depth, PyData.depthAll, Sk.deep]; omega
  | .pt w x ks => by have := dep_toD x; simp [Sk.toD, PyData.depth, PyData.depthAll, Sk.deep, dep_ints]; omega
theorem cnt_toD : ∀ s : Sk, cnt s.toD ≤ 2 * s.sz
  | .lf w => by rw [Sk.toD, cnt]; simp [Sk.sz]; all_goals simp
  | .nm w n => by rw [Sk.toD, cnt2, cnt] <;> simp [Sk.sz]
  | .tw x => by have := cnt_toD x; rw [Sk.toD, cnt2]; simp only [Sk.sz]; omega
  | .pr x y => by have := cnt_toD x; have := cnt_toD y; rw [Sk.toD, cnt3]; simp only [Sk.sz]; omega
  | .pt w x ks => by
    have := cnt_toD x
    have h1 : cnt (.tuple (ks.map .int)) = 1 := by
      unfold cnt; split
      · rename_i e; cases ks with
        | nil => simp at e
        | cons k ks => simp at e
      · rename_i e; cases ks with
        | nil => simp at e
        | cons k ks => simp at e
      · rfl
    rw [Sk.toD, cnt3, h1]; simp only [Sk.sz]; omega
/-! ### the package reads -/
theorem skOf_s {s : Sk} (h : s.ok) : skOf s.toD = some s := skOf_toD s h
theorem fnl_told {rd : Rd} {s : Sk} {r : List Str} (h : fnl rd = .told s r) : rd = .told s [] ∧ r = [] ∧ s.deep ≤ 20 ∧ s.leaves ≤ 100 := by
  unfold fnl at h
  cases rd with
  | wrong e => simp [endR] at h
  | told s2 r2 =>
    cases r2 with
    | cons w r3 => simp [endR] at h
    | nil =>
      simp only [endR] at h
      split at h
      · cases h
      · rename_i hc; cases h; exact ⟨rfl, rfl, by omega, by omega⟩
theorem e_read {T : Str} (hT : T.length ≤ 100000) : g_read_sketch [some (.str T)] [] = (match fnl (rdT T) with
    | .wrong e => .exc "WrongLine" (.tuple [.int 0, .int (((wsOf T).length - e.length : Nat) : Int)]) []
    | .told s _ => if (lnsT T).length = 1 then .ok (.dat s.toD) [] else .exc "WrongLine" (.tuple [.int 1, .int 0]) []) := by
  obtain ⟨l0, ls, hls⟩ : ∃ l0 ls, lnsT T = l0 :: ls := by
    cases q : lnsT T with
    | nil => exact absurd q lns_ne
    | cons a b => exact ⟨a, b, rfl⟩
  have hl0 := lns_len (T := T) (l := l0) (by rw [hls]; simp)
  have hws : wsOf T = wdsT l0 := by unfold wsOf; rw [hls]; rfl
  have hw : ∀ w ∈ wsOf T, w.length ≤ 16777200 := fun w h => by rw [hws] at h; have := wds_len h; omega
  have hN : (wsOf T).length ≤ 100001 := by rw [hws]; have := wds_num (T := l0); omega
  have hsw := e_sketch_words hw (by omega) (fun s r hs => by
    have hok := psW_okP (wsOf T).length 20 (wsOf T)
    have hsz := psW_sz (wsOf T).length 20 (wsOf T)
    rw [hs] at hok hsz
    have hok' : s.ok := hok
    simp only [Rd.szP] at hsz
    have hc := cnt_toD s
    rw [e_is_sketch (by omega)]
    simp only [skB, skOf_s hok'])
  rw [← rdT] at hsw
  have h1 : g_words_of [some (.str l0)] [] = .ok (.own ((wsOf T).map .str)) [] := by
    rw [hws]; simp [g_words_of, fb_words_of, show l0.length ≤ 16777214 by omega]
  have h2 : g_asked_text [some (.str T), some (.int 1000000)] [] = .ok (.dat (.str T)) [] := by
    simp [g_asked_text, fb_asked_text, show T.length ≤ 16777216 by omega, show ¬ ((1000000 : Int) < T.length) by omega]
  have h3 : g_lines_of [some (.str T)] [] = .ok (.own ((lnsT T).map .str)) [] := by
    simp [g_lines_of, fb_lines_of, h2, show T.length ≤ 16777214 by omega]
  have h4 : g_asked_end [some (.list ((lnsT T).map .str)), some (.int 1)] [] = if (lnsT T).length = 1 then .ok (.dat .none) [] else .exc "WrongLine" (.tuple [.int 1, .int 0]) [] := by
    have : 1 ≤ (lnsT T).length := by rw [hls]; simp
    by_cases c : (lnsT T).length = 1
    · simp [g_asked_end, fb_asked_end, c]
    · simp [g_asked_end, fb_asked_end, c, show (1 : Int) < (lnsT T).length by omega]
  have h5 : atI ((lnsT T).map PyData.str) 0 = some (.str l0) := by rw [hls]; simp
  cases q : fnl (rdT T) with
  | wrong e =>
    rw [q] at hsw
    simp only [swD] at hsw
    simp only
    rw [hls] at h3
    simp at h3
    simp [g_read_sketch, fb_read_sketch, h3, h1, hsw, DL.isNone]
  | told s r =>
    rw [q] at hsw
    simp only [swD] at hsw
    simp only
    by_cases c : (lnsT T).length = 1
    · rw [if_pos c] at h4 ⊢
      rw [hls] at h3 h4
      simp at h3 h4
      simp [g_read_sketch, fb_read_sketch, h3, h1, hsw, h4]
    · rw [if_neg c] at h4 ⊢
      rw [hls] at h3 h4
      simp at h3 h4
      simp [g_read_sketch, fb_read_sketch, h3, h1, hsw, h4]
end K78

set_option maxRecDepth 100000
set_option maxHeartbeats 4000000
/-! PL21: the law's two questions -/
namespace K78
open PySem PySem.Spec PyProof.Rows L2 LamX DL
@[simp] theorem hn_BS : (("BadSketch" : Str) ∈ hnames) = True := eq_true (by simp [hnames])
@[simp] theorem hn_BT : (("BadText" : Str) ∈ hnames) = True := eq_true (by simp [hnames])
@[simp] theorem hn_TM : (("TooMany" : Str) ∈ hnames) = True := eq_true (by simp [hnames])
@[simp] theorem hn_WL : (("WrongLine" : Str) ∈ hnames) = True := eq_true (by simp [hnames])
@[simp] theorem wl_told : (("WrongLine" : Str) = ("told" : Str)) = False := eq_false (by decide +kernel)
/-- what is heard of a reading -/
theorem res_heard {T : Str} : (match fnl (rdT T) with
    | .wrong e => PyData.tuple [.str ("WrongLine" : Str), .tuple [.int 0, .int (((wsOf T).length - e.length : Nat) : Int)]]
    | .told s _ => if (lnsT T).length = 1 then .tuple [.str ("told" : Str), s.toD] else .tuple [.str ("WrongLine" : Str), .tuple [.int 1, .int 0]]) = resD (lnsT T).length (wsOf T).length (fnl (rdT T)) := by
  cases fnl (rdT T) with
  | wrong e => rfl
  | told s r => rfl
theorem pl_pair (a : Str) {d : D} (h : Pl d) : Pl (.tuple [.str a, d]) := .tup _ (by simp; exact ⟨.str a, h⟩) (by simp)
theorem dep_pair {a : Str} {d : D} : PyData.depth (.tuple [.str a, d]) = d.depth + 1 := by simp [PyData.depth, PyData.depthAll]
theorem pl_wl (a b : Int) : Pl (.tuple [.str ("WrongLine" : Str), .tuple [.int a, .int b]]) := pl_pair _ (.tup _ (by simp; exact ⟨.int a, .int b⟩) (by simp))
theorem dep_wl {a b : Int} : PyData.depth (.tuple [.str ("WrongLine" : Str), .tuple [.int a, .int b]]) = 2 := by simp [PyData.depth, PyData.depthAll]
theorem rdT_ok {T : Str} {s : Sk} {r : List Str} (h : rdT T = .told s r) : s.ok := by
  have := psW_okP (wsOf T).length 20 (wsOf T)
  rw [← rdT, h] at this
  exact this
theorem e_text_right {T : Str} (hT : T.length ≤ 100000) (hd : ∀ s r, rdT T = .told s r → s.deep ≤ 200) : g__law_sx_text_right [some (.str T)] [] = .ok (.dat (.bool true)) [] := by
  have h1 := e_read_own (T := T) (by omega) hd
  have h2 := e_read hT
  have hr := res_heard (T := T)
  cases q : fnl (rdT T) with
  | wrong e =>
    rw [q] at h1 h2 hr
    simp only at h1 h2 hr
    rw [← hr] at h1
    have hs := e_same 30 _ (pl_wl 0 (((wsOf T).length - e.length : Nat) : Int)) (by rw [dep_wl]; omega)
    simp [g__law_sx_text_right, fb__law_sx_text_right, h1, h2, hs]
  | told s r =>
    have ⟨a1, a2, a3, a4⟩ := fnl_told q
    have hok := rdT_ok a1
    rw [q] at h1 h2 hr
    simp only at h1 h2 hr
    rw [← hr] at h1
    by_cases c : (lnsT T).length = 1
    · rw [if_pos c] at h1 h2
      have hdp := dep_toD s
      have hs := e_same 30 _ (pl_pair "told" (pl_toD s hok)) (by rw [dep_pair]; omega)
      have hz : s.sz ≤ 2000 := by
        have := (sz_le s).1
        have : s.leaves * s.deep ≤ 100 * 20 := Nat.mul_le_mul a4 a3
        omega
      have hc := cnt_toD s
      have h3 := e_sketch_text (d := s.toD) (by omega)
      rw [skOf_s hok] at h3
      simp only [isOk, a3, a4, decide_true, Bool.and_self, if_true] at h3
      have h4 := e_tsk 24 s hok (by omega) (by omega)
      have hs2 := e_same 30 _ (pl_pair "told" (.str s.txt)) (by rw [dep_pair]; simp)
      simp [g__law_sx_text_right, fb__law_sx_text_right, h1, h2, hs, h3, h4, hs2]
    · rw [if_neg c] at h1 h2
      have hs := e_same 30 _ (pl_wl 1 0) (by rw [dep_wl]; omega)
      simp [g__law_sx_text_right, fb__law_sx_text_right, h1, h2, hs]
theorem e_thing_right {d : D} (hc : cnt d ≤ 900000) (hd : d.depth < 30) : g__law_sx_thing_right [some d] [] = .ok (.dat (.bool true)) [] := by
  have h1 := e_is_sketch hc
  have h2 := e_sketch_text hc
  have h3 := e_is_own hd
  have hs1 := e_same 30 (.list [.tuple [.str ("told" : Str), .bool false], .tuple [.str ("BadSketch" : Str), .int 0]]) (.lst _ (by simp; exact ⟨pl_pair _ (.bool _), pl_pair _ (.int _)⟩) (by simp)) (by simp [PyData.depth, PyData.depthAll])
  simp only [skB] at h1 h3
  cases q : skOf d with
  | none =>
    rw [q] at h1 h2 h3
    simp only at h1 h2 h3
    simp [g__law_sx_thing_right, fb__law_sx_thing_right, h1, h2, h3, hs1, appL]
  | some s =>
    have ⟨a1, a2⟩ := sk_is _ (Nat.lt_succ_self _) q
    rw [q] at h1 h2 h3
    simp only at h1 h2 h3
    cases hk : isOk s with
    | false =>
      rw [hk] at h1 h2 h3
      simp at h1 h2 h3
      simp [g__law_sx_thing_right, fb__law_sx_thing_right, h1, h2, h3, hs1, appL]
    | true =>
      rw [hk] at h1 h2 h3
      simp only [if_true] at h1 h2 h3
      simp only [isOk, Bool.and_eq_true, decide_eq_true_eq] at hk
      have hz : s.sz ≤ 2000 := by
        have := (sz_le s).1
        have : s.leaves * s.deep ≤ 100 * 20 := Nat.mul_le_mul hk.2 hk.1
        omega
      have h4 := e_tsk 24 s a1 (by omega) (by omega)
      rw [← a2] at h4
      have hs2 := e_same 30 (.list [.tuple [.str ("told" : Str), .bool true], .tuple [.str ("told" : Str), .str s.txt]]) (.lst _ (by simp; exact ⟨pl_pair _ (.bool _), pl_pair _ (.str _)⟩) (by simp)) (by simp [PyData.depth, PyData.depthAll])
      simp [g__law_sx_thing_right, fb__law_sx_thing_right, h1, h2, h3, h4, hs2, appL]
end K78

set_option maxRecDepth 100000
set_option maxHeartbeats 4000000
/-! PL22: the draws -/
namespace K78
open PySem PySem.Spec PyProof.Rows L2 LamX DL
theorem gFor_ex {bd : D → AS → Option AS} {b : AS → Out} {wp : List Nat} (I : Nat → AS → Prop) : ∀ (ds : List D) (i : Nat) (S : AS), I i S →
    (∀ i S d, d ∈ ds → I i S → ∃ S1 S2, bd d S = some S1 ∧ b S1 = .nx S2 ∧ I (i + 1) (wipeS S2 wp)) → ∃ S', gFor bd b wp ds S = .nx S' ∧ I (i + ds.length) S'
  | [], i, S, h, _ => ⟨S, rfl, h⟩
  | d :: ds, i, S, h, hs => by
    obtain ⟨S1, S2, h1, h2, h3⟩ := hs i S d (by simp) h
    obtain ⟨S', h4, h5⟩ := gFor_ex I ds (i + 1) _ h3 (fun i S d hd => hs i S d (by simp [hd]))
    refine ⟨S', ?_, ?_⟩
    · simp only [gFor, h1, h2, p_loop_nx, h4]
    · rw [List.length_cons, show i + (ds.length + 1) = i + 1 + ds.length by omega]; exact h5
/-- the jar -/
def J (k : Nat) (jar : List D) : Prop := ∃ a b c : Int, jar = [.int a, .int b, .int c] ∧ 0 ≤ a ∧ 0 ≤ b ∧ b < 2147483647 ∧ 0 ≤ c ∧ c ≤ k
theorem J.mono {k l : Nat} {jar : List D} (h : J k jar) (hl : k ≤ l) : J l jar := by
  obtain ⟨a, b, c, h1, h2, h3, h4, h5, h6⟩ := h
  exact ⟨a, b, c, h1, h2, h3, h4, h5, by omega⟩
theorem log_bd {n k : Nat} (h : n < 2 ^ k) (hk : 0 < k) : n.log2 < k := by
  by_cases hn : n = 0
  · subst hn; simpa using hk
  · exact (Nat.log2_lt hn).mpr h
theorem fit_bd {i j : Int} (h1 : i.natAbs < 2 ^ 1000) (h2 : j.natAbs < 2 ^ 1000) : fitM i j = true := by
  unfold fitM
  have := log_bd h1 (by omega)
  have := log_bd h2 (by omega)
  exact decide_eq_true (by omega)
theorem p1000 : (4294967296 : Nat) < 2 ^ 1000 := by decide +kernel
theorem p200 : (10 : Nat) ^ 200 < 2 ^ 1000 := by decide +kernel
theorem fit_s {i j : Int} (h1 : i.natAbs ≤ 4294967296) (h2 : j.natAbs ≤ 4294967296) : fitM i j = true :=
  fit_bd (Nat.lt_of_le_of_lt h1 p1000) (Nat.lt_of_le_of_lt h2 p1000)
theorem e_take {jar : List D} {k : Nat} {n : Int} (hj : J k jar) (hk : k ≤ 1000000000) (hn : 0 < n) (hn2 : n ≤ 1000000000) :
    ∃ r jar', g__law_take [none, some (.int n)] jar = .ok (.dat (.int r)) jar' ∧ 0 ≤ r ∧ r < n ∧ J (k + 1) jar' := by
  obtain ⟨a, b, c, rfl, ha, hb, hb2, hc, hc2⟩ := hj
  by_cases h0 : 0 < a
  · refine ⟨a % n, [.int (a / n), .int b, .int c], ?_, Int.emod_nonneg _ (by omega), Int.emod_lt_of_pos _ hn, ⟨_, _, _, rfl, Int.ediv_nonneg ha (by omega), hb, hb2, hc, by omega⟩⟩
    have hlog : n.natAbs.log2 < 9000 := by
      have : n.natAbs.log2 < 32 := log_bd (by omega) (by omega)
      omega
    simp [g__law_take, fb__law_take, h0, hn, hlog, putL, ixN]
  · have f1 : fitM b 39373 = true := fit_s (by omega) (by omega)
    have f2 : fitM 7919 (c + 1) = true := fit_s (by omega) (by omega)
    obtain ⟨b2, hb2'⟩ : ∃ x, x = (b * 39373 + 7919 * (c + 1) + 7) % 2147483647 := ⟨_, rfl⟩
    have b1 : 0 ≤ b2 := by rw [hb2']; exact Int.emod_nonneg _ (by omega)
    have b3 : b2 < 2147483647 := by rw [hb2']; exact Int.emod_lt_of_pos _ (by omega)
    have f3 : fitM b2 b2 = true := fit_s (by omega) (by omega)
    refine ⟨b2 * b2 % 2147483629 / 32 % n, [.int a, .int b2, .int (c + 1)], ?_, Int.emod_nonneg _ (by omega), Int.emod_lt_of_pos _ hn, ⟨_, _, _, rfl, ha, b1, b3, by omega, by omega⟩⟩
    have hlog : Nat.log2 32 < 9000 := by decide +kernel
    simp [g__law_take, fb__law_take, h0, hn, putL, ixN, f1, f2, ← hb2', f3, hlog]
theorem e_one {jar : List D} {k : Nat} {ds : List D} (hj : J k jar) (hk : k ≤ 1000000000) (hn : ds ≠ []) (hn2 : ds.length ≤ 1000000000) :
    ∃ x jar', g__law_one [none, some (.list ds)] jar = .ok (.dat x) jar' ∧ x ∈ ds ∧ J (k + 1) jar' := by
  have hp : 0 < ds.length := List.length_pos_iff.mpr hn
  obtain ⟨r, jar', h1, h2, h3, h4⟩ := e_take hj hk (n := ds.length) (by omega) (by omega)
  obtain ⟨i, rfl⟩ := Int.eq_ofNat_of_zero_le h2
  have hi : i < ds.length := by omega
  refine ⟨ds[i], jar', ?_, List.getElem_mem hi, h4⟩
  simp [g__law_one, fb__law_one, h1, at_nat, hi]

theorem e_pool {ns : List Int} (hl : ns.length ≤ 63) : ∃ jar, g__law_pool [some (.list (ns.map .int))] [] = .ok (.own jar) [] ∧ J 0 jar := by
  simp [g__law_pool, fb__law_pool, rg_nat (show ns.length ≤ 1000000000 by omega)]
  obtain ⟨S', h1, h2⟩ := gFor_ex (bd := bName 3) (b := (gSeq (gSet 4 (fzF (fCall kInt (fCons (fzF (fCall kMax (fCons (fzF (fOp kItem (fVar 0) (fVar 3))) (fCons (fzF (fOp kSub (fNeg (fC (.int 1))) (fzF (fOp kItem (fVar 0) (fVar 3))))) fNil)))) fNil))))
  (gSeq (gSet 2 (fzF (fOp kMod (fzF (fCall kInt (fCons (fzF (fOp kAdd (fzF (fOp kAdd (fzF (fOp kMul (fVar 2) (fC (.int 48271)))) (fzF (fOp kMod (fVar 4) (fC (.int 2147483629)))))) (fC (.int 11)))) fNil))) (fC (.int 2147483647)))))
  (gSeq (gSet 1 (fzF (fIf (fAnd (toBF (fOp kGe (fVar 4) (fzF (fOp kPow (fC (.int 10)) (fC (.int 12)))))) (toBF (fOp kLt (fVar 1) (fzF (fOp kPow (fC (.int 10)) (fC (.int 60))))))) (fCall kInt (fCons (fzF (fOp kAdd (fzF (fOp kMul (fVar 1) (fzF (fOp kPow (fC (.int 10)) (fC (.int 60)))))) (fzF (fOp kMod (fVar 4) (fzF (fOp kPow (fC (.int 10)) (fC (.int 60)))))))) fNil)) (inF (fVar 1)))))
  gNx)))) (wp := [3, 4]) (fun _ S => ∃ a b : Int, S = [some (.dat (.list (ns.map .int))), some (.dat (.int a)), some (.dat (.int b)), none, none] ∧ 0 ≤ a ∧ 0 ≤ b ∧ b < 2147483647) (rangeD 0 ns.length) 0
    [some (.dat (.list (ns.map .int))), some (.dat (.int 0)), some (.dat (.int 7)), none, none] ⟨0, 7, rfl, by omega, by omega, by omega⟩ (fun i S d hd hI => by
      obtain ⟨a, b, rfl, ha, hb, hb2⟩ := hI
      obtain ⟨j, hj, rfl⟩ := mem_range hd
      obtain ⟨x, hx⟩ : ∃ x, x = ns[j] := ⟨_, rfl⟩
      have hat : atI (ns.map PyData.int) (j : Int) = some (.int x) := by rw [at_nat]; simp [hj, hx]
      obtain ⟨cell, hcell⟩ : ∃ c, c = (if -1 - x > x then -1 - x else x) := ⟨_, rfl⟩
      have hc0 : 0 ≤ cell := by rw [hcell]; split <;> omega
      have f1 : fitM b 48271 = true := fit_s (by omega) (by omega)
      have m0 := Int.emod_nonneg cell (b := 2147483629) (by omega)
      obtain ⟨b2, hb2'⟩ : ∃ z, z = (b * 48271 + cell % 2147483629 + 11) % 2147483647 := ⟨_, rfl⟩
      have b1 : 0 ≤ b2 := by rw [hb2']; exact Int.emod_nonneg _ (by omega)
      have b3 : b2 < 2147483647 := by rw [hb2']; exact Int.emod_lt_of_pos _ (by omega)
      by_cases c1 : (10 : Int) ^ 12 ≤ cell
      · by_cases c2 : a < (10 : Int) ^ 60
        · have f2 : fitM a (10 ^ 60) = true := fit_bd (by
            have : a.natAbs < 10 ^ 60 := by omega
            exact Nat.lt_trans this (by decide +kernel)) (by decide +kernel)
          have m1 := Int.emod_nonneg cell (b := 10 ^ 60) (by decide +kernel)
          have m2 : 0 ≤ a * 10 ^ 60 := Int.mul_nonneg ha (by decide +kernel)
          simp at c1 c2 f2 hcell
          refine ⟨_, [some (.dat (.list (ns.map .int))), some (.dat (.int (a * 10 ^ 60 + cell % 10 ^ 60))), some (.dat (.int b2)), some (.dat (.int j)), some (.dat (.int cell))], rfl, ?_, ⟨a * 10 ^ 60 + cell % 10 ^ 60, b2, by simp, by omega, b1, b3⟩⟩
          simp [hat, ← hcell, f1, ← hb2', c1, c2, f2]
        · simp at c1 c2 hcell
          refine ⟨_, [some (.dat (.list (ns.map .int))), some (.dat (.int a)), some (.dat (.int b2)), some (.dat (.int j)), some (.dat (.int cell))], rfl, ?_, ⟨a, b2, by simp, ha, b1, b3⟩⟩
          simp [hat, ← hcell, f1, ← hb2', c1, Int.not_lt.mpr c2]
      · simp at c1 hcell
        refine ⟨_, [some (.dat (.list (ns.map .int))), some (.dat (.int a)), some (.dat (.int b2)), some (.dat (.int j)), some (.dat (.int cell))], rfl, ?_, ⟨a, b2, by simp, ha, b1, b3⟩⟩
        simp [hat, ← hcell, f1, ← hb2', Int.not_le.mpr c1])
  obtain ⟨a, b, rfl, ha, hb, hb2⟩ := h2
  refine ⟨[.int a, .int b, .int 0], ?_, a, b, 0, rfl, ha, hb, hb2, by omega, by omega⟩
  rw [h1]
  simp
end K78

set_option maxRecDepth 100000
set_option maxHeartbeats 4000000
/-! PL23: drawn sketches -/
namespace K78
open PySem PySem.Spec PyProof.Rows L2 LamX DL
def isLfD (d : D) : Prop := ∃ s : Sk, d = s.toD ∧ s.ok ∧ s.deep = 1 ∧ s.sz = 1
theorem lfD {w : Str} (h : isLf w = true) : isLfD (.tuple [.str w]) := ⟨.lf w, rfl, h, rfl, rfl⟩
theorem nmD {w : Str} {n : Int} (h : isNm w = true) (h1 : 1 ≤ n) (h2 : n ≤ topOf w) : isLfD (.tuple [.str w, .int n]) := ⟨.nm w n, rfl, ⟨h, h1, h2⟩, rfl, rfl⟩
theorem top_F : topOf "far" = 12 := by decide +kernel
theorem top_R : topOf "rank" = 12 := by decide +kernel
theorem top_D : topOf "dial" = 13 := by decide +kernel
theorem e_leaf_drawn {jar : List D} {k : Nat} (hj : J k jar) (hk : k ≤ 900000000) :
    ∃ d jar', g__law_tt_leaf_drawn [none] jar = .ok (.dat d) jar' ∧ isLfD d ∧ J (k + 4) jar' := by
  obtain ⟨r1, j1, h1, a1, b1, c1⟩ := e_take hj (by omega) (n := 12) (by omega) (by omega)
  obtain ⟨r2, j2, h2, a2, b2, c2⟩ := e_take c1 (by omega) (n := 5) (by omega) (by omega)
  obtain ⟨r3, j3, h3, a3, b3, c3⟩ := e_take c2 (by omega) (n := 13) (by omega) (by omega)
  obtain ⟨x, j4, h4, a4, c4⟩ := e_one c3 (by omega) (ds := [.tuple [.str ("order" : Str)], .tuple [.str ("nest" : Str)], .tuple [.str ("span" : Str)], .tuple [.str ("far" : Str), .int 1], .tuple [.str ("far" : Str), .int 12], .tuple [.str ("rank" : Str), .int (1 + r1)], .tuple [.str ("dial" : Str), .int 1],
    .tuple [.str ("far" : Str), .int (1 + r2)], .tuple [.str ("dial" : Str), .int (1 + r3)], .tuple [.str ("rank" : Str), .int 2]]) (by simp) (by simp)
  refine ⟨x, j4, ?_, ?_, c4⟩
  · simp [g__law_tt_leaf_drawn, fb__law_tt_leaf_drawn, h1, h2, h3, h4]
  · simp only [List.mem_cons, List.not_mem_nil, or_false] at a4
    rcases a4 with h | h | h | h | h | h | h | h | h | h <;> subst h
    · exact lfD (by decide +kernel)
    · exact lfD (by decide +kernel)
    · exact lfD (by decide +kernel)
    · exact nmD (by decide +kernel) (by omega) (by rw [top_F]; omega)
    · exact nmD (by decide +kernel) (by omega) (by rw [top_F]; omega)
    · exact nmD (by decide +kernel) (by omega) (by rw [top_R]; omega)
    · exact nmD (by decide +kernel) (by omega) (by rw [top_D]; omega)
    · exact nmD (by decide +kernel) (by omega) (by rw [top_F]; omega)
    · exact nmD (by decide +kernel) (by omega) (by rw [top_D]; omega)
    · exact nmD (by decide +kernel) (by omega) (by rw [top_R]; omega)
/-! ### lists -/
theorem insU_mem {k : Int} : ∀ {l : List Int} {x : Int}, x ∈ insU k l → x = k ∨ x ∈ l
  | [], x, h => by simp [insU] at h; exact .inl h
  | y :: l, x, h => by
    simp only [insU] at h
    split at h
    · simpa using h
    · split at h
      · exact .inr h
      · rcases List.mem_cons.mp h with h | h
        · exact .inr (by simp [h])
        · rcases insU_mem h with h | h
          · exact .inl h
          · exact .inr (by simp [h])
theorem insU_len {k : Int} : ∀ {l : List Int}, (insU k l).length ≤ l.length + 1 ∧ insU k l ≠ []
  | [] => by simp [insU]
  | y :: l => by
    simp only [insU]
    split
    · simp
    · split
      · simp
      · have := (insU_len (k := k) (l := l)).1
        simp; exact this
theorem insU_ris {k : Int} : ∀ {l : List Int}, risB l = true → risB (insU k l) = true ∧ (∀ x r, insU k l = x :: r → x = k ∨ ∃ r2, l = x :: r2)
  | [], _ => by simp [insU, risB]
  | y :: l, h => by
    simp only [insU]
    split
    · rename_i c
      refine ⟨by simp only [risB, Bool.and_eq_true, decide_eq_true_eq]; exact ⟨c, h⟩, fun x r e => ?_⟩
      cases e; exact .inl rfl
    · split
      · refine ⟨h, fun x r e => ?_⟩
        cases e; exact .inr ⟨_, rfl⟩
      · rename_i c1 c2
        have hl : risB l = true := by
          cases l with
          | nil => rfl
          | cons z l => simp only [risB, Bool.and_eq_true] at h; exact h.2
        have ⟨g1, g2⟩ := insU_ris (k := k) hl
        refine ⟨?_, fun x r e => ?_⟩
        · cases q : insU k l with
          | nil => rfl
          | cons z r =>
            rw [q] at g1
            simp only [risB, Bool.and_eq_true, decide_eq_true_eq]
            refine ⟨?_, g1⟩
            rcases g2 z r q with e | ⟨r2, e⟩
            · omega
            · subst e
              simp only [risB, Bool.and_eq_true, decide_eq_true_eq] at h
              exact h.1
        · cases e; exact .inr ⟨_, rfl⟩
theorem sortU_ok : ∀ {l : List Int}, l ≠ [] → (∀ x ∈ l, 0 ≤ x ∧ x ≤ 12) → sortU l ≠ [] ∧ (sortU l).length ≤ l.length ∧ risB (sortU l) = true ∧ ∀ x ∈ sortU l, 0 ≤ x ∧ x ≤ 12
  | [], h, _ => absurd rfl h
  | [k], _, h => by simp [sortU, insU, risB]; simpa using h
  | k :: y :: l, _, h => by
    have ⟨h1, h2, h3, h4⟩ := sortU_ok (l := y :: l) (by simp) (fun x hx => h x (by simp [hx]))
    rw [sortU]
    have g1 := insU_len (k := k) (l := sortU (y :: l))
    have g2 := insU_ris (k := k) h3
    refine ⟨g1.2, by simp at h2 ⊢; omega, g2.1, fun x hx => ?_⟩
    rcases insU_mem hx with e | e
    · rw [e]; exact h k (by simp)
    · exact h4 x e
theorem ls_in {ks : List Int} (h : ∀ x ∈ ks, 0 ≤ x ∧ x ≤ 12) : lsIn ks = true := List.all_eq_true.mpr fun x hx => by
  have := h x hx
  simp only [Bool.and_eq_true, decide_eq_true_eq]; exact this
theorem gFor_ex2 {bd : D → AS → Option AS} {b : AS → Out} {wp : List Nat} (I : Nat → AS → Prop) (N : Nat) : ∀ (ds : List D) (i : Nat) (S : AS), i + ds.length ≤ N → I i S →
    (∀ i S d, i < N → d ∈ ds → I i S → ∃ S1 S2, bd d S = some S1 ∧ b S1 = .nx S2 ∧ I (i + 1) (wipeS S2 wp)) → ∃ S', gFor bd b wp ds S = .nx S' ∧ I (i + ds.length) S'
  | [], i, S, _, h, _ => ⟨S, rfl, h⟩
  | d :: ds, i, S, hN, h, hs => by
    simp only [List.length_cons] at hN
    obtain ⟨S1, S2, h1, h2, h3⟩ := hs i S d (by omega) (by simp) h
    obtain ⟨S', h4, h5⟩ := gFor_ex2 I N ds (i + 1) _ (by omega) h3 (fun i S d hi hd => hs i S d hi (by simp [hd]))
    refine ⟨S', ?_, ?_⟩
    · simp only [gFor, h1, h2, p_loop_nx, h4]
    · rw [List.length_cons, show i + (ds.length + 1) = i + 1 + ds.length by omega]; exact h5
theorem kTup_i {is : List Int} {S : AS} : kTuple [.list (is.map PyData.int)] S = .ok (.dat (.tuple (is.map .int))) S := rfl
theorem kSort_i {is : List Int} {S : AS} (h : is.length < 64) : kSortSet (.list (is.map PyData.int)) S = .ok (.dat (.tuple ((sortU is).map .int))) S := by
  simp only [kSortSet, asInts_i]
  rw [if_pos (by simpa using h)]; rfl
theorem e_list_drawn {jar : List D} {k : Nat} {b : Bool} {w : Str} (hj : J k jar) (hk : k ≤ 900000000) (hw : b = true ∧ w = wP ∨ b = false ∧ w = wL) :
    ∃ ks jar', g__law_tt_list_drawn [none, some (.bool b)] jar = .ok (.dat (.tuple (ks.map .int))) jar' ∧ lsOk w ks ∧ J (k + 6) jar' := by
  obtain ⟨r1, j1, h1, a1, b1, c1⟩ := e_take hj (by omega) (n := 5) (by omega) (by omega)
  obtain ⟨S', h2, h3⟩ := gFor_ex2 (bd := bName 3) (b := (gSeq (gApp 2 (fzF (fFn g__law_take 0 (lLoan 0 (lCons (fC (.int 13)) lNil))))) gNx)) (wp := [3])
    (fun i S => ∃ (is : List Int) (jr : List D), S = [some (.par 0 jr), some (.dat (.bool b)), some (.own (is.map .int)), none] ∧ is.length = i ∧ (∀ x ∈ is, 0 ≤ x ∧ x ≤ 12) ∧ J (k + 1 + i) jr) 5 (rangeD 0 (1 + r1).toNat) 0
    [some (.par 0 j1), some (.dat (.bool b)), some (.own []), none] (by rw [rangeD_len]; omega) ⟨[], j1, rfl, rfl, by simp, c1⟩ (fun i S d hi5 hd hI => by
      obtain ⟨is, jr, rfl, g1, g2, g3⟩ := hI
      obtain ⟨r, j2, e1, e2, e3, e4⟩ := e_take g3 (by omega) (n := 13) (by omega) (by omega)
      refine ⟨_, [some (.par 0 j2), some (.dat (.bool b)), some (.own ((is ++ [r]).map .int)), some (.dat d)], rfl, ?_, is ++ [r], j2, by simp, by simp [g1], fun x hx => ?_, e4⟩
      · simp [e1, appL, g1, show i ≤ 16777215 by omega]
      · simp only [List.mem_append, List.mem_singleton] at hx
        rcases hx with hx | hx
        · exact g2 x hx
        · rw [hx]; omega)
  obtain ⟨is, jr, rfl, g1, g2, g3⟩ := h3
  rw [rangeD_len] at g1 g3
  have hne : is ≠ [] := fun e => by subst e; simp at g1; omega
  have g4 : J (k + 6) jr := g3.mono (by omega)
  rcases hw with ⟨hb, hw⟩ | ⟨hb, hw⟩
  · subst hb
    have ⟨q1, q2, q3, q4⟩ := sortU_ok hne g2
    refine ⟨sortU is, jr, ?_, ⟨q1, by omega, ls_in q4, .inl ⟨hw, q3⟩⟩, g4⟩
    simp [g__law_tt_list_drawn, fb__law_tt_list_drawn, h1, rg_int (show (0 : Int) ≤ 1 + r1 by omega) (by omega), h2, kSort_i (show is.length < 64 by omega)]
  · subst hb
    refine ⟨is, jr, ?_, ⟨hne, by omega, ls_in g2, .inr hw⟩, g4⟩
    simp [g__law_tt_list_drawn, fb__law_tt_list_drawn, h1, rg_int (show (0 : Int) ≤ 1 + r1 by omega) (by omega), h2]
/-! ### sketches -/
def Bd : Nat → Nat
  | 0 => 20
  | n + 1 => 2 * Bd n + 20
theorem e_drawn : ∀ (n : Nat) {jar : List D} {k : Nat} {deep : Int}, J k jar → k + Bd n ≤ 900000000 → deep ≤ n → 1 ≤ n →
    ∃ (s : Sk) (jar' : List D), g__law_tt_sketch_drawn n [none, some (.int deep)] jar = .ok (.dat s.toD) jar' ∧ s.ok ∧ (s.deep : Int) ≤ max 1 deep ∧ J (k + Bd n) jar'
  | 0, jar, k, deep, hj, hk, hd, hn => by omega
  | n + 1, jar, k, deep, hj, hk, hd, hn => by
    have ih := fun {jar : List D} {k : Nat} {deep : Int} => e_drawn n (jar := jar) (k := k) (deep := deep)
    unfold g__law_tt_sketch_drawn at ih ⊢
    simp only [Bd] at hk ⊢
    by_cases c1 : deep < 2
    · obtain ⟨d, j1, h1, ⟨s, rfl, hs, hs1, hs2⟩, h2⟩ := e_leaf_drawn hj (by omega)
      exact ⟨s, j1, by simp [q_drawn, fb__law_tt_sketch_drawn, c1, h1], hs, by omega, h2.mono (by omega)⟩
    · obtain ⟨r0, j0, h0, a0, b0, c0⟩ := e_take hj (by omega) (n := 5) (by omega) (by omega)
      by_cases c2 : r0 = 0
      · obtain ⟨d, j1, h1, ⟨s, rfl, hs, hs1, hs2⟩, h2⟩ := e_leaf_drawn c0 (by omega)
        exact ⟨s, j1, by simp [q_drawn, fb__law_tt_sketch_drawn, c1, h0, c2, h1], hs, by omega, h2.mono (by omega)⟩
      · obtain ⟨f, j1, h1, a1, b1, d1⟩ := e_take c0 (by omega) (n := 6) (by omega) (by omega)
        obtain ⟨x, j2, h2, hx, hx2, d2⟩ := ih (deep := deep - 1) d1 (by omega) (by omega) (by omega)
        by_cases c3 : f < 2
        · obtain ⟨r3, j3, h3, a3, b3, d3⟩ := e_take d2 (by omega) (n := 2) (by omega) (by omega)
          obtain ⟨y, j4, h4, hy, hy2, d4⟩ := ih (deep := deep - 1 - r3) d3 (by omega) (by omega) (by omega)
          refine ⟨.pr x y, j4, ?_, ⟨hx, hy⟩, by simp only [Sk.deep]; omega, d4.mono (by omega)⟩
          simp [q_drawn, fb__law_tt_sketch_drawn, c1, h0, c2, h1, h2, c3, h3, h4, Sk.toD]
        · by_cases c4 : f = 2
          · refine ⟨.tw x, j2, ?_, hx, by simp only [Sk.deep]; omega, d2.mono (by omega)⟩
            subst c4
            simp [q_drawn, fb__law_tt_sketch_drawn, c1, h0, c2, h1, h2, Sk.toD]
          · by_cases c5 : f = 3
            · obtain ⟨ks, j3, h3, hks, d3⟩ := e_list_drawn (b := false) (w := wL) d2 (by omega) (.inr ⟨rfl, rfl⟩)
              refine ⟨.pt wL x ks, j3, ?_, ⟨hx, hks⟩, by simp only [Sk.deep]; omega, d3.mono (by omega)⟩
              subst c5
              simp [q_drawn, fb__law_tt_sketch_drawn, c1, h0, c2, h1, h2, h3, Sk.toD]
            · obtain ⟨ks, j3, h3, hks, d3⟩ := e_list_drawn (b := true) (w := wP) d2 (by omega) (.inl ⟨rfl, rfl⟩)
              refine ⟨.pt wP x ks, j3, ?_, ⟨hx, hks⟩, by simp only [Sk.deep]; omega, d3.mono (by omega)⟩
              simp [q_drawn, fb__law_tt_sketch_drawn, c1, h0, c2, h1, h2, c3, c4, c5, h3, Sk.toD]
/-! ### planted ones -/
theorem ls0 : lsOk wP [0] := ⟨by simp, by simp, by decide +kernel, .inl ⟨rfl, rfl⟩⟩
theorem ls011 : lsOk wL [0, 1, 1] := ⟨by simp, by simp, by decide +kernel, .inr rfl⟩
theorem e_deep_drawn {jar : List D} {k m : Nat} (hj : J k jar) (hk : k + 5 * m + 100 ≤ 900000000) (hm : 1 ≤ m) (hm2 : m ≤ 21) :
    ∃ (s : Sk) (jar' : List D), g__law_sx_deep [none, some (.int m)] jar = .ok (.dat s.toD) jar' ∧ s.ok ∧ s.deep = m ∧ s.sz ≤ 2 * m ∧ J (k + 5 * m + 10) jar' := by
  obtain ⟨d, j1, h1, ⟨s1, rfl, hs, hs1, hs2⟩, c1⟩ := e_leaf_drawn hj (by omega)
  have hr : ((m : Int) - 1).toNat = m - 1 := by omega
  have hrg : rgOk ((m : Int) - 1) = true := rg_int (by omega) (by omega)
  simp [g__law_sx_deep, fb__law_sx_deep, h1, hrg]
  obtain ⟨S', h2, h3⟩ := gFor_ex2 (bd := bName 3) (b := (gSeq (gSet 4 (fzF (fFn g__law_tt_leaf_drawn 0 (lLoan 0 lNil))))
  (gSeq (gSet 5 (fzF (fLst (fCons (fTup (fCons (fC (.str ("twin" : Str))) (fCons (fVar 2) fNil))) (fCons (fTup (fCons (fC (.str ("part" : Str))) (fCons (fVar 2) (fCons (fTup (fCons (fC (.int 0)) fNil)) fNil)))) (fCons (fTup (fCons (fC (.str ("lump" : Str))) (fCons (fVar 2) (fCons (fTup (fCons (fC (.int 0)) (fCons (fC (.int 1)) (fCons (fC (.int 1)) fNil)))) fNil)))) (fCons (fTup (fCons (fC (.str ("product" : Str))) (fCons (fVar 4) (fCons (fVar 2) fNil)))) fNil)))))))
  (gSeq (gSet 2 (fzF (fFn g__law_one 0 (lLoan 0 (lCons (fzF (fOp kAdd (fVar 5) (fzF (fLst (fCons (fTup (fCons (fC (.str ("product" : Str))) (fCons (fVar 2) (fCons (fVar 4) fNil)))) fNil))))) lNil)))))
  gNx)))) (wp := [3, 4, 5])
    (fun i S => ∃ (s : Sk) (jr : List D), S = [some (.par 0 jr), some (.dat (.int m)), some (.dat s.toD), none, none, none] ∧ s.ok ∧ s.deep = i + 1 ∧ s.sz ≤ 2 * i + 1 ∧ J (k + 4 + 5 * i) jr) (m - 1) (rangeD 0 (m - 1)) 0
    [some (.par 0 j1), some (.dat (.int m)), some (.dat s1.toD), none, none, none] (by rw [rangeD_len]; omega) ⟨s1, j1, rfl, hs, by omega, by omega, c1⟩ (fun i S d hi hd hI => by
      obtain ⟨s, jr, rfl, g1, g2, g2', g3⟩ := hI
      obtain ⟨d2, j2, e1, ⟨s2, rfl, f1, f2, f3⟩, e2⟩ := e_leaf_drawn g3 (by omega)
      obtain ⟨x, j3, e3, e4, e5⟩ := e_one e2 (by omega) (ds := [.tuple [.str ("twin" : Str), s.toD], .tuple [.str ("part" : Str), s.toD, .tuple [.int 0]], .tuple [.str ("lump" : Str), s.toD, .tuple [.int 0, .int 1, .int 1]], .tuple [.str ("product" : Str), s2.toD, s.toD], .tuple [.str ("product" : Str), s.toD, s2.toD]]) (by simp) (by simp)
      have hx : ∃ s' : Sk, x = s'.toD ∧ s'.ok ∧ s'.deep = i + 2 ∧ s'.sz ≤ 2 * i + 3 := by
        simp only [List.mem_cons, List.not_mem_nil, or_false] at e4
        rcases e4 with h | h | h | h | h
        · exact ⟨.tw s, h, g1, by simp only [Sk.deep]; omega, by simp only [Sk.sz]; omega⟩
        · exact ⟨.pt wP s [0], h, ⟨g1, ls0⟩, by simp only [Sk.deep]; omega, by simp only [Sk.sz]; omega⟩
        · exact ⟨.pt wL s [0, 1, 1], h, ⟨g1, ls011⟩, by simp only [Sk.deep]; omega, by simp only [Sk.sz]; omega⟩
        · exact ⟨.pr s2 s, h, ⟨f1, g1⟩, by simp only [Sk.deep]; omega, by simp only [Sk.sz]; omega⟩
        · exact ⟨.pr s s2, h, ⟨g1, f1⟩, by simp only [Sk.deep]; omega, by simp only [Sk.sz]; omega⟩
      obtain ⟨s', rfl, p1, p2, p3⟩ := hx
      refine ⟨_, [some (.par 0 j3), some (.dat (.int m)), some (.dat s'.toD), some (.dat d), some (.dat s2.toD), some (.dat (.list [.tuple [.str ("twin" : Str), s.toD], .tuple [.str ("part" : Str), s.toD, .tuple [.int 0]], .tuple [.str ("lump" : Str), s.toD, .tuple [.int 0, .int 1, .int 1]], .tuple [.str ("product" : Str), s2.toD, s.toD]]))], rfl, ?_, s', j3, by simp, p1, p2, by omega, e5.mono (by omega)⟩
      simp [e1, e3])
  obtain ⟨s, jr, rfl, g1, g2, g2', g3⟩ := h3
  rw [rangeD_len] at g2 g3 g2'
  refine ⟨s, jr, ?_, g1, by omega, by omega, g3.mono (by omega)⟩
  rw [h2]
  simp
theorem e_wide : ∀ (n m : Nat), 1 ≤ m → m ≤ 2 ^ n → ∃ s : Sk, g__law_sx_wide (n + 1) [some (.int m)] [] = .ok (.dat s.toD) [] ∧ s.ok ∧ s.deep ≤ n + 1 ∧ s.leaves = m ∧ s.sz + 1 = 2 * m
  | 0, m, h1, h2 => by
    have : m = 1 := by simp at h2; omega
    subst this
    refine ⟨.nm wD 2, ?_, ⟨by decide +kernel, by omega, by decide +kernel⟩, by simp [Sk.deep], rfl, rfl⟩
    unfold g__law_sx_wide
    simp [q_wide, fb__law_sx_wide, Sk.toD]
  | n + 1, m, h1, h2 => by
    by_cases c : m = 1
    · subst c
      refine ⟨.nm wD 2, ?_, ⟨by decide +kernel, by omega, by decide +kernel⟩, by simp [Sk.deep], rfl, rfl⟩
      unfold g__law_sx_wide
      simp [q_wide, fb__law_sx_wide, Sk.toD]
    · have hp : 2 ^ (n + 1) = 2 * 2 ^ n := by rw [Nat.pow_succ]; omega
      obtain ⟨x, e1, x1, x2, x3, x4⟩ := e_wide n (m - m / 2) (by omega) (by omega)
      obtain ⟨y, e2, y1, y2, y3, y4⟩ := e_wide n (m / 2) (by omega) (by omega)
      unfold g__law_sx_wide at e1 e2 ⊢
      refine ⟨.pr x y, ?_, ⟨x1, y1⟩, by simp only [Sk.deep]; omega, by simp only [Sk.leaves]; omega, by simp only [Sk.sz]; omega⟩
      have f1 : ((m : Int) - (m : Int) / 2) = ((m - m / 2 : Nat) : Int) := by omega
      have f2 : ((m : Int) / 2) = ((m / 2 : Nat) : Int) := by omega
      have hlog : Nat.log2 2 < 9000 := by decide +kernel
      rw [q_wide]
      simp [fb__law_sx_wide, Sk.toD, show ¬ ((m : Int) = 1) by omega, hlog, f1, e1]
      rw [f2, e2]
      simp
end K78

set_option maxRecDepth 100000
set_option maxHeartbeats 4000000
/-! PL24: what is printed is read again -/
namespace K78
open PySem PySem.Spec PyProof.Rows L2 LamX DL
theorem map_SX (ws : List Str) : (ws.map fun w => w.cps.toList).map SX.S = ws := by
  rw [List.map_map]
  conv => rhs; rw [← List.map_id ws]
  exact List.map_congr_left fun w _ => SX.S_tl w
theorem split_join {c : Nat} (hc : c < 256) {ws : List Str} (h : ws ≠ []) (hw : ∀ w ∈ ws, c ∉ w.cps.toList) : Txt.split (Txt.join ⟨#[c]⟩ ws) ⟨#[c]⟩ = ws := by
  have e1 := SX.join_S [c] (ws.map fun w => w.cps.toList)
  rw [map_SX] at e1
  rw [show (⟨#[c]⟩ : Str) = SX.S [c] from rfl, e1, SX.split_S (by simp) (by simpa using hc), SX.spl_join (by simpa using h) (by simpa using hw), map_SX]
theorem join_tl {c : Nat} (ws : List Str) : (Txt.join ⟨#[c]⟩ ws).cps.toList = TL.joinL [c] (ws.map fun w => w.cps.toList) := by
  have e1 := SX.join_S [c] (ws.map fun w => w.cps.toList)
  rw [map_SX] at e1
  rw [show (⟨#[c]⟩ : Str) = SX.S [c] from rfl, e1]
theorem jl_mem {Sp : List Nat} {c : Nat} : ∀ (ps : List (List Nat)), c ∈ TL.joinL Sp ps → c ∈ Sp ∨ ∃ p ∈ ps, c ∈ p
  | [], h => by cases h
  | [p], h => .inr ⟨p, by simp, h⟩
  | p :: q :: r, h => by
    have h' : c ∈ p ++ (Sp ++ TL.joinL Sp (q :: r)) := h
    rcases List.mem_append.mp h' with h | h
    · exact .inr ⟨p, by simp, h⟩
    · rcases List.mem_append.mp h with h | h
      · exact .inl h
      · rcases jl_mem (q :: r) h with h | ⟨z, hz, h⟩
        · exact .inl h
        · exact .inr ⟨z, by simp [hz], h⟩
theorem join_mem {c x : Nat} {ws : List Str} (h : x ∈ (Txt.join ⟨#[c]⟩ ws).cps.toList) : x = c ∨ ∃ w ∈ ws, x ∈ w.cps.toList := by
  rw [join_tl] at h
  rcases jl_mem _ h with h | ⟨p, hp, h⟩
  · exact .inl (by simpa using h)
  · obtain ⟨w, hw, rfl⟩ := List.mem_map.mp hp
    exact .inr ⟨w, hw, h⟩
theorem split_none {c : Nat} (hc : c < 256) {T : Str} (h : c ∉ T.cps.toList) : Txt.split T ⟨#[c]⟩ = [T] := by
  rw [split_eq hc, TL.spl_last1 h]
  simp [SX.S_tl]
/-- words without blanks and line feeds -/
def cl (w : Str) : Prop := 32 ∉ w.cps.toList ∧ 10 ∉ w.cps.toList
theorem wsOf_join {ws : List Str} (h : ws ≠ []) (hw : ∀ w ∈ ws, cl w) : lnsT (Txt.join " " ws) = [Txt.join " " ws] ∧ wsOf (Txt.join " " ws) = ws := by
  have e1 : lnsT (Txt.join " " ws) = [Txt.join " " ws] := by
    unfold lnsT
    rw [lit_nl]
    refine split_none (by decide) fun hm => ?_
    rw [lit_sp] at hm
    rcases join_mem hm with e | ⟨w, hw2, e⟩
    · cases e
    · exact (hw w hw2).2 e
  refine ⟨e1, ?_⟩
  unfold wsOf
  rw [e1]
  show Txt.split (Txt.join " " ws) " " = ws
  rw [lit_sp]
  exact split_join (by decide) h fun w h2 => (hw w h2).1
/-! ### signs -/
theorem num_cases {n : Int} (h0 : 0 ≤ n) (h1 : n ≤ 13) : n = 0 ∨ n = 1 ∨ n = 2 ∨ n = 3 ∨ n = 4 ∨ n = 5 ∨ n = 6 ∨ n = 7 ∨ n = 8 ∨ n = 9 ∨ n = 10 ∨ n = 11 ∨ n = 12 ∨ n = 13 := by omega
theorem numS_dig {n : Int} (h0 : 0 ≤ n) (h1 : n ≤ 13) : ∀ c ∈ (numS n).cps.toList, 48 ≤ c ∧ c ≤ 57 := by
  rcases num_cases h0 h1 with h | h | h | h | h | h | h | h | h | h | h | h | h | h <;> subst h <;> decide +kernel
theorem numS_back {n : Int} (h0 : 0 ≤ n) (h1 : n ≤ 13) : nmW (numS n) = some n := by
  rcases num_cases h0 h1 with h | h | h | h | h | h | h | h | h | h | h | h | h | h <;> subst h <;> decide +kernel
theorem lsT_dig {ks : List Int} (h : lsIn ks = true) : ∀ c ∈ (lsT ks).cps.toList, c = 44 ∨ 48 ≤ c ∧ c ≤ 57 := by
  intro c hc
  unfold lsT at hc
  rw [lit_comma] at hc
  rcases join_mem hc with e | ⟨w, hw, e⟩
  · exact .inl e
  · obtain ⟨k, hk, rfl⟩ := List.mem_map.mp hw
    have h2 := List.all_eq_true.mp h k hk
    simp only [Bool.and_eq_true, decide_eq_true_eq] at h2
    exact .inr (numS_dig h2.1 (by omega) c e)
theorem head_sign {w : Str} (h : isLf w = true ∨ isNm w = true) : ∃ c ∈ w.cps.toList, 97 ≤ c := by
  rcases h with h | h
  · rcases isLf_iff.mp h with h | h | h <;> subst h
    · exact ⟨111, by decide +kernel, by omega⟩
    · exact ⟨110, by decide +kernel, by omega⟩
    · exact ⟨115, by decide +kernel, by omega⟩
  · rcases isNm_iff.mp h with h | h | h <;> subst h
    · exact ⟨102, by decide +kernel, by omega⟩
    · exact ⟨114, by decide +kernel, by omega⟩
    · exact ⟨100, by decide +kernel, by omega⟩
theorem num_nohead {n : Int} (h0 : 0 ≤ n) (h1 : n ≤ 13) : ¬ (isLf (numS n) = true ∨ isNm (numS n) = true) := fun h => by
  obtain ⟨c, hc, h2⟩ := head_sign h
  have := numS_dig h0 h1 c hc
  omega
theorem ls_nohead {ks : List Int} (hk : lsIn ks = true) : ¬ (isLf (lsT ks) = true ∨ isNm (lsT ks) = true) := fun h => by
  obtain ⟨c, hc, h2⟩ := head_sign h
  have := lsT_dig hk c hc
  omega
theorem cl_dig {w : Str} (h : ∀ c ∈ w.cps.toList, c = 44 ∨ 48 ≤ c ∧ c ≤ 57) : cl w :=
  ⟨fun e => by have := h _ e; omega, fun e => by have := h _ e; omega⟩
theorem cl_num {n : Int} (h0 : 0 ≤ n) (h1 : n ≤ 13) : cl (numS n) := cl_dig fun c hc => .inr (numS_dig h0 h1 c hc)
theorem cl_head {w : Str} (h : isLf w = true ∨ isNm w = true) : cl w := by
  rcases h with h | h
  · rcases isLf_iff.mp h with h | h | h <;> subst h <;> constructor <;> decide +kernel
  · rcases isNm_iff.mp h with h | h | h <;> subst h <;> constructor <;> decide +kernel
theorem cl_T : cl wT := by constructor <;> decide +kernel
theorem cl_M : cl wM := by constructor <;> decide +kernel
theorem cl_A : cl wA := by constructor <;> decide +kernel
theorem cl_Z : cl wZ := by constructor <;> decide +kernel
theorem cl_PL {w : Str} (h : w = wP ∨ w = wL) : cl w := by
  rcases h with h | h <;> subst h <;> constructor <;> decide +kernel
theorem lsOk_w {w : Str} {ks : List Int} (h : lsOk w ks) : w = wP ∨ w = wL := by
  obtain ⟨_, _, _, h4 | h4⟩ := h
  · exact .inl h4.1
  · exact .inr h4
theorem nm_bd {w : Str} {n : Int} (h : (Sk.nm w n).ok) : 0 ≤ n ∧ n ≤ 13 := by
  have := h.2.1; have := h.2.2; have := top_le (w := w); omega
theorem cl_wds : ∀ {s : Sk}, s.ok → ∀ w ∈ s.wds, cl w
  | .lf w, h, v, hv => by simp [Sk.wds] at hv; subst hv; exact cl_head (.inl h)
  | .nm w n, h, v, hv => by
    simp [Sk.wds] at hv
    rcases hv with rfl | rfl
    · exact cl_head (.inr h.1)
    · exact cl_num (nm_bd h).1 (nm_bd h).2
  | .tw x, h, v, hv => by
    simp [Sk.wds] at hv
    rcases hv with hv | rfl
    · exact cl_wds (s := x) h v hv
    · exact cl_T
  | .pr x y, h, v, hv => by
    simp only [Sk.wds, List.mem_append, List.mem_cons] at hv
    rcases hv with hv | rfl | hv
    · exact cl_wds h.1 v hv
    · exact cl_M
    · split at hv
      · exact cl_wds h.2 v hv
      · simp only [List.mem_append, List.mem_cons, List.not_mem_nil, or_false] at hv
        rcases hv with (rfl | hv) | rfl
        · exact cl_A
        · exact cl_wds h.2 v hv
        · exact cl_Z
  | .pt w x ks, h, v, hv => by
    simp [Sk.wds] at hv
    rcases hv with hv | rfl | rfl
    · exact cl_wds h.1 v hv
    · exact cl_PL (lsOk_w h.2)
    · exact cl_dig (lsT_dig h.2.2.2.1)
theorem allI_back : ∀ {ks : List Int}, lsIn ks = true → allI (ks.map numS) = some ks
  | [], _ => rfl
  | k :: ks, h => by
    simp only [lsIn, List.all_cons, Bool.and_eq_true, decide_eq_true_eq] at h
    have ih := allI_back (ks := ks) h.2
    simp only [List.map_cons, allI, numS_back h.1.1 (by omega), ih]
theorem foldl_max_lt : ∀ (l : List Int) (a : Int), a ≤ 12 → (∀ i ∈ l, i ≤ 12) → l.foldl max a ≤ 12
  | [], a, h, _ => h
  | x :: l, a, h, h2 => by
    rw [List.foldl_cons]
    exact foldl_max_lt l _ (by have := h2 x (by simp); omega) (fun i hi => h2 i (by simp [hi]))
theorem lst_back {w : Str} {ks : List Int} (h : lsOk w ks) : lstW w (lsT ks) = some ks := by
  obtain ⟨h1, h2, h3, h4⟩ := h
  have hb : ∀ i ∈ ks, i ≤ 12 := fun i hi => by
    have := List.all_eq_true.mp h3 i hi
    simp only [Bool.and_eq_true, decide_eq_true_eq] at this
    omega
  have e1 : pcs (lsT ks) = ks.map numS := by
    unfold pcs lsT
    rw [lit_comma]
    refine split_join (by decide) (by simpa using h1) fun w hw => ?_
    obtain ⟨k, hk, rfl⟩ := List.mem_map.mp hw
    have h5 := List.all_eq_true.mp h3 k hk
    simp only [Bool.and_eq_true, decide_eq_true_eq] at h5
    intro e
    have := numS_dig h5.1 (by omega) _ e
    omega
  have hm : maxI ks < 13 := by
    cases ks with
    | nil => exact absurd rfl h1
    | cons a l =>
      have := foldl_max_lt l a (hb a (by simp)) (fun i hi => hb i (by simp [hi]))
      show l.foldl max a < 13
      omega
  rw [lst_some (by rw [e1]; exact allI_back h3), if_pos ⟨hm, h2, fun e => by
    rcases h4 with h4 | h4
    · exact h4.2
    · rw [h4] at e; exact absurd e (by decide +kernel)⟩]
/-! ### printing -/
mutual
inductive UnP : Nat → Sk → List Str → Prop
  | lf {k : Nat} {w : Str} (h : isLf w = true) : UnP k (.lf w) [w]
  | nm {k : Nat} {w : Str} {n : Int} (h : isNm w = true) (h1 : 1 ≤ n) (h2 : n ≤ topOf w) : UnP k (.nm w n) [w, numS n]
  | br {k : Nat} {s : Sk} {ws : List Str} (h : PrP k s ws) : UnP (k + 1) s (wA :: (ws ++ [wZ]))
inductive PrP : Nat → Sk → List Str → Prop
  | un {k : Nat} {s : Sk} {ws : List Str} (h : UnP k s ws) : PrP k s ws
  | tw {k : Nat} {x : Sk} {ws : List Str} (h : PrP k x ws) : PrP k (.tw x) (ws ++ [wT])
  | pt {k : Nat} {x : Sk} {ws : List Str} {w : Str} {ks : List Int} (h : PrP k x ws) (hl : lsOk w ks) : PrP k (.pt w x ks) (ws ++ [w, lsT ks])
  | pr {k : Nat} {x y : Sk} {ws vs : List Str} (h : PrP k x ws) (h2 : UnP k y vs) : PrP k (.pr x y) (ws ++ wM :: vs)
end
theorem sl_T {pu : List Str → Rd} {m : Nat} {s : Sk} {r : List Str} : slW pu (m + 1) s (wT :: r) = slW pu m (.tw s) r := by
  simp only [slW]; rw [if_pos trivial]
theorem sl_M {pu : List Str → Rd} {m : Nat} {s y : Sk} {r r' : List Str} (h : pu r = .told y r') : slW pu (m + 1) s (wM :: r) = slW pu m (.pr s y) r' := by
  simp only [slW]; rw [if_neg (by decide +kernel), if_pos trivial, h]
theorem sl_P {pu : List Str → Rd} {m : Nat} {s : Sk} {w v : Str} {r : List Str} {ks : List Int} (hw : w = wP ∨ w = wL) (h : lstW w v = some ks) : slW pu (m + 1) s (w :: v :: r) = slW pu m (.pt w s ks) r := by
  simp only [slW]
  rw [if_neg (by rcases hw with e | e <;> subst e <;> decide +kernel), if_neg (by rcases hw with e | e <;> subst e <;> decide +kernel), if_pos hw, h]
theorem sl_Z {pu : List Str → Rd} {m : Nat} {s : Sk} {r : List Str} : slW pu (m + 1) s (wZ :: r) = .told s (wZ :: r) := by
  simp only [slW]; rw [if_neg (by decide +kernel), if_neg (by decide +kernel), if_neg (by decide +kernel)]
mutual
theorem unP_len : ∀ {k : Nat} {s : Sk} {ws : List Str}, UnP k s ws → 1 ≤ ws.length
  | _, _, _, .lf h => by simp
  | _, _, _, .nm h h1 h2 => by simp
  | _, _, _, .br h => by simp
theorem prP_len : ∀ {k : Nat} {s : Sk} {ws : List Str}, PrP k s ws → 1 ≤ ws.length
  | _, _, _, .un h => unP_len h
  | _, _, _, .tw h => by simp
  | _, _, _, .pt h hl => by simp
  | _, _, _, .pr h h2 => by simp; omega
end
mutual
theorem unP_read {N : Nat} : ∀ {k n : Nat} {s : Sk} {ws : List Str}, UnP k s ws → k ≤ n → ws.length ≤ N → ∀ rest, puW N n (ws ++ rest) = .told s rest
  | k, n, _, _, .lf (w := w) h, hn, hN, rest => by
    have : puW N n (w :: rest) = unL w rest := by cases n <;> (simp only [puW]; rw [if_pos (.inl h)])
    show puW N n (w :: rest) = _
    rw [this]; unfold unL; rw [if_pos h]
  | k, n, _, _, .nm (w := w) (n := m) h h1 h2, hn, hN, rest => by
    have h0 : isLf w = false := by
      cases q : isLf w with
      | false => rfl
      | true => have := (wd_disj (w := w)).1 q; rw [this.1] at h; cases h
    have : puW N n (w :: numS m :: rest) = unL w (numS m :: rest) := by cases n <;> (simp only [puW]; rw [if_pos (.inr h)])
    show puW N n (w :: numS m :: rest) = _
    have ht := top_le (w := w)
    rw [this]; unfold unL; rw [h0, if_neg (by simp)]
    simp only [numS_back (n := m) (by omega) (by omega)]
    rw [if_pos ⟨h1, h2⟩]
  | _, n, s, _, .br (k := k) (ws := ws) h, hn, hN, rest => by
    cases n with
    | zero => omega
    | succ n =>
      simp only [List.length_cons, List.length_append, List.length_nil] at hN
      obtain ⟨j, hj, hr⟩ := prP_read (N := N) (n := n) h (by omega) (by omega)
      have e := hr (wZ :: rest)
      have hsl : slW (puW N n) (N - j) s (wZ :: rest) = .told s (wZ :: rest) := by
        obtain ⟨m, hm⟩ : ∃ m, N - j = m + 1 := ⟨N - j - 1, by omega⟩
        rw [hm]; exact sl_Z
      rw [hsl] at e
      show puW N (n + 1) (wA :: ((ws ++ [wZ]) ++ rest)) = _
      rw [List.append_assoc, List.singleton_append]
      simp only [puW]
      rw [if_neg (by decide +kernel), if_pos trivial]
      unfold psW at e
      cases q : puW N n (ws ++ wZ :: rest) with
      | wrong e2 => rw [q] at e; cases e
      | told s1 r1 =>
        rw [q] at e
        simp only at e ⊢
        rw [e]
        simp
theorem prP_read {N : Nat} : ∀ {k n : Nat} {s : Sk} {ws : List Str}, PrP k s ws → k ≤ n → ws.length ≤ N → ∃ j, j < ws.length ∧ ∀ rest, psW N n (ws ++ rest) = slW (puW N n) (N - j) s rest
  | k, n, s, ws, .un h, hn, hN => by
    refine ⟨0, by have := unP_len h; omega, fun rest => ?_⟩
    unfold psW
    rw [unP_read h hn hN rest]; rfl
  | k, n, _, _, .tw (x := x) (ws := ws) h, hn, hN => by
    simp only [List.length_append, List.length_cons, List.length_nil] at hN
    obtain ⟨j, hj, hr⟩ := prP_read (N := N) (n := n) h hn (by omega)
    refine ⟨j + 1, by simp; omega, fun rest => ?_⟩
    rw [List.append_assoc, hr]
    obtain ⟨m, hm⟩ : ∃ m, N - j = m + 1 := ⟨N - j - 1, by omega⟩
    rw [hm, show N - (j + 1) = m by omega]
    exact sl_T
  | k, n, _, _, .pt (x := x) (ws := ws) (w := w) (ks := ks) h hl, hn, hN => by
    simp only [List.length_append, List.length_cons, List.length_nil] at hN
    obtain ⟨j, hj, hr⟩ := prP_read (N := N) (n := n) h hn (by omega)
    refine ⟨j + 1, by simp; omega, fun rest => ?_⟩
    rw [List.append_assoc, hr]
    obtain ⟨m, hm⟩ : ∃ m, N - j = m + 1 := ⟨N - j - 1, by omega⟩
    rw [hm, show N - (j + 1) = m by omega]
    exact sl_P (lsOk_w hl) (lst_back hl)
  | k, n, _, _, .pr (x := x) (y := y) (ws := ws) (vs := vs) h h2, hn, hN => by
    simp only [List.length_append, List.length_cons] at hN
    obtain ⟨j, hj, hr⟩ := prP_read (N := N) (n := n) h hn (by omega)
    refine ⟨j + 1, by simp; omega, fun rest => ?_⟩
    rw [List.append_assoc, hr]
    obtain ⟨m, hm⟩ : ∃ m, N - j = m + 1 := ⟨N - j - 1, by omega⟩
    rw [hm, show N - (j + 1) = m by omega, List.cons_append]
    exact sl_M (unP_read h2 hn (by omega) rest)
end
theorem prP_all {k : Nat} {s : Sk} {ws : List Str} (h : PrP k s ws) (hk : k ≤ 20) : psW ws.length 20 ws = .told s [] := by
  obtain ⟨j, hj, hr⟩ := prP_read (N := ws.length) (n := 20) h hk (Nat.le_refl _)
  have := hr []
  rw [List.append_nil] at this
  rw [this]
  obtain ⟨m, hm⟩ : ∃ m, ws.length - j = m + 1 := ⟨ws.length - j - 1, by omega⟩
  rw [hm]
  rfl
theorem un_leaf {s : Sk} (h : s.ok) (hl : s.isLeaf = true) (k : Nat) : UnP k s s.wds := by
  cases s with
  | lf w => exact .lf h
  | nm w n => exact .nm h.1 h.2.1 h.2.2
  | _ => cases hl
theorem pr_own : ∀ {s : Sk} {k : Nat}, s.ok → s.deep ≤ k + 1 → PrP k s s.wds
  | .lf w, k, h, hk => .un (.lf h)
  | .nm w n, k, h, hk => .un (.nm h.1 h.2.1 h.2.2)
  | .tw x, k, h, hk => .tw (pr_own (s := x) h (by simp only [Sk.deep] at hk; omega))
  | .pt w x ks, k, h, hk => .pt (pr_own h.1 (by simp only [Sk.deep] at hk; omega)) h.2
  | .pr x y, k, h, hk => by
    simp only [Sk.deep] at hk
    refine .pr (pr_own h.1 (by omega)) ?_
    cases hy : y.isLeaf with
    | true => simp only [if_true]; exact un_leaf h.2 hy k
    | false =>
      have := deep_pos y
      obtain ⟨k', rfl⟩ : ∃ k', k = k' + 1 := ⟨k - 1, by omega⟩
      simp only [Bool.false_eq_true, if_false]
      exact .br (pr_own h.2 (by omega))
theorem rdT_prP {k : Nat} {s : Sk} {ws : List Str} (h : PrP k s ws) (hk : k ≤ 20) (hc : ∀ w ∈ ws, cl w) : rdT (Txt.join " " ws) = .told s [] ∧ (lnsT (Txt.join " " ws)).length = 1 := by
  have hne : ws ≠ [] := fun e => by have := prP_len h; subst e; simp at this
  have ⟨h1, h2⟩ := wsOf_join hne hc
  unfold rdT
  rw [h2, h1]
  exact ⟨prP_all h hk, rfl⟩
theorem rdT_txt {s : Sk} (h : s.ok) (hd : s.deep ≤ 21) : rdT s.txt = .told s [] ∧ (lnsT s.txt).length = 1 :=
  rdT_prP (pr_own (k := 20) h (by omega)) (by omega) (cl_wds h)
end K78

set_option maxRecDepth 100000
set_option maxHeartbeats 4000000
/-! PL25: brackets that need not stand -/
namespace K78
open PySem PySem.Spec PyProof.Rows L2 LamX DL
def hdW (w : Str) : Prop := isLf w = true ∨ isNm w = true
/-- a leaf within -/
def Occ (s : Sk) (i : Nat) (h : Str) : Prop := ∃ (pre : List Str) (l : Sk) (post : List Str), pre.length = i ∧ l.isLeaf = true ∧ l.ok ∧ l.wds.head? = some h ∧ s.wds = pre ++ (l.wds ++ post) ∧
  ∀ k, s.deep + 1 ≤ k → (PrP k s (pre ++ (wA :: (l.wds ++ (wZ :: post)))) ∧ (s.isLeaf = true → UnP k s (pre ++ (wA :: (l.wds ++ (wZ :: post))))))
theorem occ_leaf {s : Sk} (h : s.ok) (hl : s.isLeaf = true) {w : Str} (hw : s.wds.head? = some w) : Occ s 0 w := by
  refine ⟨[], s, [], rfl, hl, h, hw, by simp, fun k hk => ?_⟩
  obtain ⟨k', rfl⟩ : ∃ k', k = k' + 1 := ⟨k - 1, by omega⟩
  have e := UnP.br (.un (un_leaf h hl k'))
  exact ⟨.un e, fun _ => e⟩
theorem not_hd {w : Str} (h : hdW w) (hw : w = wT ∨ w = wM ∨ w = wA ∨ w = wZ ∨ w = wP ∨ w = wL) : False := by
  rcases hw with e | e | e | e | e | e <;> subst e <;> revert h <;> unfold hdW <;> decide +kernel
theorem occ : ∀ {s : Sk} {i : Nat} {w : Str}, s.ok → s.wds[i]? = some w → hdW w → Occ s i w
  | .lf v, i, w, h, hi, hw => by
    cases i with
    | zero => exact occ_leaf h rfl (by simpa [Sk.wds] using hi)
    | succ i => simp [Sk.wds] at hi
  | .nm v n, i, w, h, hi, hw => by
    match i with
    | 0 => exact occ_leaf h rfl (by simpa [Sk.wds] using hi)
    | 1 =>
      simp [Sk.wds] at hi
      subst hi
      exact absurd hw (num_nohead (nm_bd h).1 (nm_bd h).2)
    | i + 2 => simp [Sk.wds] at hi
  | .tw x, i, w, h, hi, hw => by
    by_cases c : i < x.wds.length
    · have hi2 : x.wds[i]? = some w := by simp only [Sk.wds] at hi; rwa [List.getElem?_append_left c] at hi
      obtain ⟨pre, l, post, h1, h2, h3, h4, h5, h6⟩ := occ (s := x) h hi2 hw
      refine ⟨pre, l, post ++ [wT], h1, h2, h3, h4, by simp [Sk.wds, h5], fun k hk => ⟨?_, fun z => by cases z⟩⟩
      simp only [Sk.deep] at hk
      have e := PrP.tw (h6 k (by omega)).1
      simpa using e
    · simp only [Sk.wds] at hi
      rw [List.getElem?_append_right (by omega)] at hi
      exfalso
      cases q : i - x.wds.length with
      | zero => rw [q] at hi; simp at hi; exact not_hd hw (.inl hi.symm)
      | succ j => rw [q] at hi; simp at hi
  | .pt v x ks, i, w, h, hi, hw => by
    by_cases c : i < x.wds.length
    · have hi2 : x.wds[i]? = some w := by simp only [Sk.wds] at hi; rwa [List.getElem?_append_left c] at hi
      obtain ⟨pre, l, post, h1, h2, h3, h4, h5, h6⟩ := occ h.1 hi2 hw
      refine ⟨pre, l, post ++ [v, lsT ks], h1, h2, h3, h4, by simp [Sk.wds, h5], fun k hk => ⟨?_, fun z => by cases z⟩⟩
      simp only [Sk.deep] at hk
      have e := PrP.pt (h6 k (by omega)).1 h.2
      simpa using e
    · simp only [Sk.wds] at hi
      rw [List.getElem?_append_right (by omega)] at hi
      exfalso
      match q : i - x.wds.length with
      | 0 =>
        rw [q] at hi; simp at hi
        rcases lsOk_w h.2 with e | e
        · exact not_hd hw (.inr (.inr (.inr (.inr (.inl (by rw [← hi, e]))))))
        · exact not_hd hw (.inr (.inr (.inr (.inr (.inr (by rw [← hi, e]))))))
      | 1 => rw [q] at hi; simp at hi; rw [← hi] at hw; exact ls_nohead h.2.2.2.1 hw
      | j + 2 => rw [q] at hi; simp at hi
  | .pr x y, i, w, h, hi, hw => by
    by_cases c : i < x.wds.length
    · have hi2 : x.wds[i]? = some w := by simp only [Sk.wds] at hi; rwa [List.getElem?_append_left c] at hi
      obtain ⟨pre, l, post, h1, h2, h3, h4, h5, h6⟩ := occ h.1 hi2 hw
      refine ⟨pre, l, post ++ (wM :: (if y.isLeaf = true then y.wds else (wA :: y.wds) ++ [wZ])), h1, h2, h3, h4, by simp [Sk.wds, h5], fun k hk => ⟨?_, fun z => by cases z⟩⟩
      simp only [Sk.deep] at hk
      have hu : UnP k y (if y.isLeaf = true then y.wds else (wA :: y.wds) ++ [wZ]) := by
        cases hy : y.isLeaf with
        | true => simp only [if_true]; exact un_leaf h.2 hy k
        | false =>
          have := deep_pos y
          obtain ⟨k', rfl⟩ : ∃ k', k = k' + 1 := ⟨k - 1, by omega⟩
          simp only [Bool.false_eq_true, if_false]
          exact .br (pr_own h.2 (by omega))
      have e := PrP.pr (h6 k (by omega)).1 hu
      simpa using e
    · simp only [Sk.wds] at hi
      rw [List.getElem?_append_right (by omega)] at hi
      cases q : i - x.wds.length with
      | zero => rw [q] at hi; simp at hi; exact (not_hd hw (.inr (.inl hi.symm))).elim
      | succ j =>
        rw [q] at hi
        simp only [List.getElem?_cons_succ] at hi
        cases hy : y.isLeaf with
        | true =>
          rw [hy] at hi
          simp only [if_true] at hi
          obtain ⟨pre, l, post, h1, h2, h3, h4, h5, h6⟩ := occ h.2 hi hw
          refine ⟨x.wds ++ wM :: pre, l, post, by simp; omega, h2, h3, h4, by simp [Sk.wds, hy, h5], fun k hk => ⟨?_, fun z => by cases z⟩⟩
          simp only [Sk.deep] at hk
          have e := PrP.pr (pr_own (k := k) h.1 (by omega)) ((h6 k (by omega)).2 hy)
          simpa using e
        | false =>
          rw [hy] at hi
          simp only [Bool.false_eq_true, if_false, List.cons_append] at hi
          cases j with
          | zero => simp at hi; exact (not_hd hw (.inr (.inr (.inl hi.symm)))).elim
          | succ j =>
            simp only [List.getElem?_cons_succ] at hi
            by_cases c2 : j < y.wds.length
            · rw [List.getElem?_append_left c2] at hi
              obtain ⟨pre, l, post, h1, h2, h3, h4, h5, h6⟩ := occ h.2 hi hw
              refine ⟨x.wds ++ wM :: wA :: pre, l, post ++ [wZ], by simp; omega, h2, h3, h4, by simp [Sk.wds, hy, h5], fun k hk => ⟨?_, fun z => by cases z⟩⟩
              simp only [Sk.deep] at hk
              obtain ⟨k', rfl⟩ : ∃ k', k = k' + 1 := ⟨k - 1, by omega⟩
              have e := PrP.pr (pr_own (k := k' + 1) h.1 (by omega)) (UnP.br (h6 k' (by omega)).1)
              simpa using e
            · rw [List.getElem?_append_right (by omega)] at hi
              cases q2 : j - y.wds.length with
              | zero => rw [q2] at hi; simp at hi; exact (not_hd hw (.inr (.inr (.inr (.inl hi.symm))))).elim
              | succ j => rw [q2] at hi; simp at hi
theorem wds_head : ∀ {s : Sk}, s.ok → ∃ w r, s.wds = w :: r ∧ hdW w
  | .lf w, h => ⟨w, [], rfl, .inl h⟩
  | .nm w n, h => ⟨w, [numS n], rfl, .inr h.1⟩
  | .tw x, h => by obtain ⟨w, r, e, h2⟩ := wds_head (s := x) h; exact ⟨w, r ++ [wT], by simp [Sk.wds, e], h2⟩
  | .pr x y, h => by obtain ⟨w, r, e, h2⟩ := wds_head h.1; exact ⟨w, r ++ wM :: (if y.isLeaf = true then y.wds else (wA :: y.wds) ++ [wZ]), by simp only [Sk.wds, e, List.cons_append], h2⟩
  | .pt v x ks, h => by obtain ⟨w, r, e, h2⟩ := wds_head h.1; exact ⟨w, r ++ [v, lsT ks], by simp [Sk.wds, e], h2⟩
theorem leaf_wds {l : Sk} (hl : l.isLeaf = true) (h : l.ok) {w : Str} (hw : l.wds.head? = some w) : l.wds.length = if isLf w = true then 1 else 2 := by
  cases l with
  | lf v => simp [Sk.wds] at hw ⊢; subst hw; simp only [Sk.ok] at h; simp [h]
  | nm v n =>
    simp [Sk.wds] at hw ⊢; subst hw
    have : isLf v = false := by
      cases q : isLf v with
      | false => rfl
      | true => have := (wd_disj (w := v)).1 q; have h1 := h.1; rw [this.1] at h1; cases h1
    simp [this]
  | _ => cases hl
theorem wds_num_le : ∀ {s : Sk}, s.wds.length + 3 ≤ 5 * 2 ^ (s.deep - 1)
  | .lf w => by simp [Sk.wds, Sk.deep]
  | .nm w n => by simp [Sk.wds, Sk.deep]
  | .tw x => by
    have h := wds_num_le (s := x)
    have := deep_pos x
    obtain ⟨m, hm⟩ : ∃ m, x.deep = m + 1 := ⟨x.deep - 1, by omega⟩
    simp only [Sk.wds, Sk.deep, hm, List.length_append, List.length_cons, List.length_nil, Nat.add_sub_cancel] at h ⊢
    rw [Nat.pow_succ]; omega
  | .pt w x ks => by
    have h := wds_num_le (s := x)
    have := deep_pos x
    obtain ⟨m, hm⟩ : ∃ m, x.deep = m + 1 := ⟨x.deep - 1, by omega⟩
    simp only [Sk.wds, Sk.deep, hm, List.length_append, List.length_cons, List.length_nil, Nat.add_sub_cancel] at h ⊢
    rw [Nat.pow_succ]; omega
  | .pr x y => by
    have h1 := wds_num_le (s := x)
    have h2 := wds_num_le (s := y)
    have := deep_pos x
    have := deep_pos y
    have a1 : 2 ^ (x.deep - 1) ≤ 2 ^ (max x.deep y.deep - 1) := Nat.pow_le_pow_right (by omega) (by omega)
    have a2 : 2 ^ (y.deep - 1) ≤ 2 ^ (max x.deep y.deep - 1) := Nat.pow_le_pow_right (by omega) (by omega)
    obtain ⟨m, hm⟩ : ∃ m, max x.deep y.deep = m + 1 := ⟨max x.deep y.deep - 1, by omega⟩
    rw [hm] at a1 a2
    simp only [Nat.add_sub_cancel] at a1 a2
    have hl : (if y.isLeaf = true then y.wds else (wA :: y.wds) ++ [wZ]).length ≤ y.wds.length + 2 := by split <;> simp
    simp only [Sk.wds, Sk.deep, hm, List.length_append, List.length_cons, Nat.add_sub_cancel]
    rw [Nat.pow_succ]
    omega
theorem leaves_le : ∀ {s : Sk}, s.leaves ≤ 2 ^ (s.deep - 1)
  | .lf w => by simp [Sk.leaves, Sk.deep]
  | .nm w n => by simp [Sk.leaves, Sk.deep]
  | .tw x => by
    have h := leaves_le (s := x)
    have := deep_pos x
    have a1 : 2 ^ (x.deep - 1) ≤ 2 ^ (x.deep + 1 - 1) := Nat.pow_le_pow_right (by omega) (by omega)
    simp only [Sk.leaves, Sk.deep]; omega
  | .pt w x ks => by
    have h := leaves_le (s := x)
    have := deep_pos x
    have a1 : 2 ^ (x.deep - 1) ≤ 2 ^ (x.deep + 1 - 1) := Nat.pow_le_pow_right (by omega) (by omega)
    simp only [Sk.leaves, Sk.deep]; omega
  | .pr x y => by
    have h1 := leaves_le (s := x)
    have h2 := leaves_le (s := y)
    have := deep_pos x
    have := deep_pos y
    have a1 : 2 ^ (x.deep - 1) ≤ 2 ^ (max x.deep y.deep - 1) := Nat.pow_le_pow_right (by omega) (by omega)
    have a2 : 2 ^ (y.deep - 1) ≤ 2 ^ (max x.deep y.deep - 1) := Nat.pow_le_pow_right (by omega) (by omega)
    obtain ⟨m, hm⟩ : ∃ m, max x.deep y.deep = m + 1 := ⟨max x.deep y.deep - 1, by omega⟩
    rw [hm] at a1 a2
    simp only [Nat.add_sub_cancel] at a1 a2
    simp only [Sk.leaves, Sk.deep, hm, Nat.add_sub_cancel]
    rw [Nat.pow_succ]; omega
end K78

set_option maxRecDepth 100000
set_option maxHeartbeats 4000000
/-! PL26: more brackets, in data -/
namespace K78
open PySem PySem.Spec PyProof.Rows L2 LamX DL
theorem wdsT_join {ws : List Str} (h : ws ≠ []) (hw : ∀ w ∈ ws, cl w) : wdsT (Txt.join " " ws) = ws := by
  unfold wdsT
  rw [lit_sp]
  exact split_join (by decide) h fun w h2 => (hw w h2).1
@[simp] theorem cut_to3 {α : Type} {xs : List α} : DL.cutD xs none (some 3) = xs.take 3 := cut_to (k := 3)
@[simp] theorem cut_two {α : Type} {xs : List α} {k : Nat} : DL.cutD xs (some (k : Int)) (some ((k : Int) + 2)) = (xs.drop k).take 2 := by
  rw [show ((k : Int) + 2) = ((k + 2 : Nat) : Int) by omega, cut_mid]; simp
@[simp] theorem cut_f1 {α : Type} {xs : List α} {k : Nat} : DL.cutD xs (some ((k : Int) + 1)) none = xs.drop (k + 1) := by
  rw [show ((k : Int) + 1) = ((k + 1 : Nat) : Int) by omega, cut_from]
@[simp] theorem cut_f2 {α : Type} {xs : List α} {k : Nat} : DL.cutD xs (some ((k : Int) + 2)) none = xs.drop (k + 2) := by
  rw [show ((k : Int) + 2) = ((k + 2 : Nat) : Int) by omega, cut_from]
structure TxOk (X : Str) (ws : List Str) : Prop where
  eq : X = Txt.join " " ws
  ne : ws ≠ []
  cl : ∀ w ∈ ws, cl w
  num : ws.length ≤ 180
  len : X.length ≤ 40000
def hdB (w : Str) : Bool := isLf w || isNm w
def atD (i : Nat) : D := .int (i : Int)
theorem range0 {n : Nat} : rangeD 0 n = (List.range n).map atD := by
  unfold rangeD atD; simp
theorem join_sum {ws : List Str} (h : ws ≠ []) : (Txt.join " " ws).length + 1 = (ws.map (·.length)).sum + ws.length := join_len (c := 32) h
theorem kJoin_w {ws : List Str} {S : AS} (h : ws ≠ []) (hl : (Txt.join " " ws).length ≤ 16777200) : kJoin (.str (" " : Str)) (.list (ws.map .str)) S = .ok (.dat (.str (Txt.join " " ws))) S := by
  have := join_sum h
  exact kJoinL (by rw [show (" " : Str).length = 1 from rfl]; omega)
theorem kIn6 {w : Str} {S : AS} {g : Bool → Bool} : kIn0 g (.str w) (.list [.str ("order" : Str), .str ("nest" : Str), .str ("span" : Str), .str ("far" : Str), .str ("rank" : Str), .str ("dial" : Str)]) S = .ok (.dat (.bool (g (hdB w)))) S := by
  rw [k_inL, inD_6, six_eq]; simp [hdB]
theorem kIn3 {w : Str} {S : AS} {g : Bool → Bool} : kIn0 g (.str w) (.list [.str ("order" : Str), .str ("nest" : Str), .str ("span" : Str)]) S = .ok (.dat (.bool (g (isLf w)))) S := by
  rw [k_inL, isLf_d]; simp
theorem txOk_txt {s : Sk} (h : s.ok) (hd : s.deep ≤ 6) : TxOk s.txt s.wds := by
  have h1 := wds_num_le (s := s)
  have h2 := txt_len h
  have h3 := (sz_le s).1
  have h4 := leaves_le (s := s)
  have a1 : 2 ^ (s.deep - 1) ≤ 2 ^ 5 := Nat.pow_le_pow_right (by omega) (by omega)
  have h5 : s.leaves * s.deep ≤ 32 * 6 := Nat.mul_le_mul (by omega) hd
  exact ⟨rfl, s.wds_ne, cl_wds h, by omega, by omega⟩
theorem txt6_len {s : Sk} (h : s.ok) (hd : s.deep ≤ 6) : s.txt.length ≤ 12288 ∧ s.wds.length ≤ 157 := by
  have h1 := wds_num_le (s := s)
  have h2 := txt_len h
  have h3 := (sz_le s).1
  have h4 := leaves_le (s := s)
  have a1 : 2 ^ (s.deep - 1) ≤ 2 ^ 5 := Nat.pow_le_pow_right (by omega) (by omega)
  have h5 : s.leaves * s.deep ≤ 32 * 6 := Nat.mul_le_mul (by omega) hd
  omega
def wg (ws : List Str) (q : Nat) : Str := ws.getD q ""
theorem hdB_iff {w : Str} : hdB w = true ↔ hdW w := by simp [hdB, hdW]
theorem e_more {jar : List D} {k : Nat} {s : Sk} (hj : J k jar) (hk : k ≤ 900000000) (h : s.ok) (hd : s.deep ≤ 6) :
    ∃ (T : Str) (jar' : List D) (ws : List Str), g__law_tt_more_brackets [none, some (.str s.txt)] jar = .ok (.dat (.str T)) jar' ∧ TxOk T ws ∧ rdT T = .told s [] ∧ (lnsT T).length = 1 ∧ J (k + 2) jar' := by
  have ⟨hl1, hl2⟩ := txt6_len h hd
  have hsp : wdsT s.txt = s.wds := wdsT_join s.wds_ne (cl_wds h)
  obtain ⟨w0, r0, hw0, hh0⟩ := wds_head h
  obtain ⟨ps, hps⟩ : ∃ ps, ps = (List.range s.wds.length).filter fun i => hdB (wg s.wds i) := ⟨_, rfl⟩
  have hin : (0 : Nat) ∈ ps := by
    rw [hps, List.mem_filter]
    refine ⟨by rw [hw0]; simp, ?_⟩
    rw [hw0]; exact hdB_iff.mpr hh0
  have hpl : ps.length ≤ s.wds.length := by rw [hps]; have := List.length_filter_le (fun i => hdB (wg s.wds i)) (List.range s.wds.length); simpa using this
  obtain ⟨x, j1, e1, e2, e3⟩ := e_one hj (by omega) (ds := ps.map atD) (by intro e; simp at e; subst e; simp at hin) (by simp; omega)
  obtain ⟨i, hi, rfl⟩ := List.mem_map.mp e2
  have hi2 : i < s.wds.length ∧ hdB (wg s.wds i) = true := by
    rw [hps, List.mem_filter] at hi
    exact ⟨by simpa using hi.1, hi.2⟩
  obtain ⟨w, hw⟩ : ∃ w, w = s.wds[i]'hi2.1 := ⟨_, rfl⟩
  have hgw : s.wds[i]? = some w := by rw [List.getElem?_eq_getElem hi2.1, hw]
  have hhw : hdB w = true := by
    have := hi2.2
    unfold wg at this
    rwa [List.getD_eq_getElem?_getD, hgw] at this
  have hat : atI (s.wds.map PyData.str) (i : Int) = some (.str w) := by rw [at_nat, List.getElem?_map, hgw]; rfl
  obtain ⟨pre, l, post, o1, o2, o3, o4, o5, o6⟩ := occ h hgw (hdB_iff.mp hhw)
  have hlw := leaf_wds o2 o3 o4
  obtain ⟨r2, j2, f1, f2, f3, f4⟩ := e_take e3 (by omega) (n := 2) (by omega) (by omega)
  have hP := (o6 8 (by omega)).1
  obtain ⟨W, hW⟩ : ∃ W, W = pre ++ (wA :: (l.wds ++ (wZ :: post))) := ⟨_, rfl⟩
  rw [← hW] at hP
  have hclW : ∀ v ∈ W, cl v := fun v hv => by
    have hc := cl_wds h
    rw [o5] at hc
    rw [hW] at hv
    simp only [List.mem_append, List.mem_cons] at hv
    rcases hv with hv | rfl | hv | rfl | hv
    · exact hc v (by simp [hv])
    · exact cl_A
    · exact hc v (by simp [hv])
    · exact cl_Z
    · exact hc v (by simp [hv])
  have hneW : W ≠ [] := by rw [hW]; simp
  have hlenW : W.length = s.wds.length + 2 := by rw [hW, o5]; simp; omega
  have hTl : (Txt.join " " W).length ≤ 12292 := by
    have a1 := join_sum hneW
    have a2 := join_sum s.wds_ne
    have a3 : (W.map (·.length)).sum = (s.wds.map (·.length)).sum + 2 := by
      rw [hW, o5]
      simp only [List.map_append, List.map_cons, List.sum_append, List.sum_cons, show wA.length = 1 from rfl, show wZ.length = 1 from rfl]
      omega
    have a4 : s.txt = Txt.join " " s.wds := rfl
    rw [← a4] at a2
    omega
  -- the words cut
  have t1 : s.wds.take i = pre := by rw [o5, ← o1]; simp
  have t2 : s.wds.drop i = l.wds ++ post := by rw [o5, ← o1]; simp
  have hrange : rgOk (s.wds.length : Int) = true := rg_nat (by omega)
  have hcomp : ∀ (S : AS), True := fun _ => trivial
  have hW2 : Txt.join " " (wA :: (W ++ [wZ])) = "( " ++ Txt.join " " W ++ " )" := by
    rw [join_cons (by simp), join_app hneW (by simp), join_one, show ("( " : Str) = wA ++ " " from by decide +kernel, show (" )" : Str) = " " ++ wZ from by decide +kernel]
    simp only [str_app_assoc]
  have hfin : ∀ m : Nat, l.wds.length = m → (s.wds.map PyData.str).take i ++ (PyData.str wA :: (((s.wds.map PyData.str).drop i).take m ++ [PyData.str wZ])) ++ (s.wds.map PyData.str).drop (i + m) = W.map PyData.str := by
    intro m hm
    rw [← List.map_take, t1, ← List.map_drop, t2, ← List.map_take, ← List.map_drop, ← List.drop_drop, t2, hW, ← hm]
    simp
  have hmain : ∀ m : Nat, (if isLf w = true then (1 : Nat) else 2) = m → l.wds.length = m := fun m hm => by rw [hlw]; exact hm
  have hm1 := hmain
  by_cases c2 : r2 = 0
  · refine ⟨Txt.join " " W, j2, W, ?_, ⟨rfl, hneW, hclW, by omega, by omega⟩, (rdT_prP hP (by omega) hclW).1, (rdT_prP hP (by omega) hclW).2, f4⟩
    simp [g__law_tt_more_brackets, fb__law_tt_more_brackets, show s.txt.length ≤ 16777214 by omega, hsp, hrange]
    rw [range0, fComp_filM atD (fun i => hdB (wg s.wds i))]
    rotate_left
    · intro q hq
      have hq2 := List.mem_range.mp hq
      have hqa : atI (s.wds.map PyData.str) (q : Int) = some (.str (wg s.wds q)) := by
        unfold wg
        rw [at_nat, List.getElem?_map, List.getD_eq_getElem?_getD, List.getElem?_eq_getElem hq2]; rfl
      have hin6 : inD (.str (wg s.wds q)) [.str ("order" : Str), .str ("nest" : Str), .str ("span" : Str), .str ("far" : Str), .str ("rank" : Str), .str ("dial" : Str)] = hdB (wg s.wds q) := by rw [inD_6, six_eq]; rfl
      refine ⟨_, _, rfl, (by simp [atD, hqa, hin6]; exact rfl), fun _ => ?_, ?_⟩
      · simp [atD]
      · simp
    · simp; omega
    rw [← hps]
    have hkj : ∀ S, kJoin (.str (" " : Str)) (.list (W.map PyData.str)) S = .ok (.dat (.str (Txt.join " " W))) S := fun S => kJoin_w hneW (by omega)
    have hWm : pre.map PyData.str ++ PyData.str wA :: (l.wds.map PyData.str ++ PyData.str wZ :: post.map PyData.str) = W.map PyData.str := by rw [hW]; simp
    have hpo : pre.length + l.wds.length + post.length ≤ 157 := by rw [o5] at hl2; simp at hl2; omega
    cases hlf : isLf w with
    | true =>
      have hm := hmain 1 (by rw [hlf]; rfl)
      have k1 : (s.wds.map PyData.str).take i = pre.map PyData.str := by rw [← List.map_take, t1]
      have k2 : ((s.wds.map PyData.str).drop i).take 1 = l.wds.map PyData.str := by rw [← List.map_drop, t2, ← List.map_take, ← hm]; simp
      have k3 : (s.wds.map PyData.str).drop (i + 1) = post.map PyData.str := by rw [← List.map_drop, ← List.drop_drop, t2, ← hm]; simp
      simp [e1, hat, isLf_d, hlf, atD, f1, c2, k1, k2, k3, hm, o1, show i ≤ 16777213 by omega, show i + 3 + post.length ≤ 16777216 by omega, hWm, hkj]
    | false =>
      have hm := hmain 2 (by rw [hlf]; rfl)
      have k1 : (s.wds.map PyData.str).take i = pre.map PyData.str := by rw [← List.map_take, t1]
      have k2 : ((s.wds.map PyData.str).drop i).take 2 = l.wds.map PyData.str := by rw [← List.map_drop, t2, ← List.map_take, ← hm]; simp
      have k3 : (s.wds.map PyData.str).drop (i + 2) = post.map PyData.str := by rw [← List.map_drop, ← List.drop_drop, t2, ← hm]; simp
      simp [e1, hat, isLf_d, hlf, atD, f1, c2, k1, k2, k3, hm, o1, show i ≤ 16777212 by omega, show i + 4 + post.length ≤ 16777216 by omega, hWm, hkj]
  · refine ⟨"( " ++ Txt.join " " W ++ " )", j2, wA :: (W ++ [wZ]), ?_, ⟨hW2.symm, by simp, fun v hv => ?_, by simp; omega, by simp [show ("( " : Str).length = 2 from rfl, show (" )" : Str).length = 2 from rfl]; omega⟩, ?_, ?_, f4⟩
    rotate_left
    · simp only [List.mem_cons, List.mem_append, List.not_mem_nil, or_false] at hv
      rcases hv with rfl | hv | rfl
      · exact cl_A
      · exact hclW v hv
      · exact cl_Z
    · rw [← hW2]
      exact (rdT_prP (PrP.un (UnP.br hP)) (by omega) (fun v hv => by
        simp only [List.mem_cons, List.mem_append, List.not_mem_nil, or_false] at hv
        rcases hv with rfl | hv | rfl
        · exact cl_A
        · exact hclW v hv
        · exact cl_Z)).1
    · rw [← hW2]
      exact (rdT_prP (PrP.un (UnP.br hP)) (by omega) (fun v hv => by
        simp only [List.mem_cons, List.mem_append, List.not_mem_nil, or_false] at hv
        rcases hv with rfl | hv | rfl
        · exact cl_A
        · exact hclW v hv
        · exact cl_Z)).2
    simp [g__law_tt_more_brackets, fb__law_tt_more_brackets, show s.txt.length ≤ 16777214 by omega, hsp, hrange]
    rw [range0, fComp_filM atD (fun i => hdB (wg s.wds i))]
    rotate_left
    · intro q hq
      have hq2 := List.mem_range.mp hq
      have hqa : atI (s.wds.map PyData.str) (q : Int) = some (.str (wg s.wds q)) := by
        unfold wg
        rw [at_nat, List.getElem?_map, List.getD_eq_getElem?_getD, List.getElem?_eq_getElem hq2]; rfl
      have hin6 : inD (.str (wg s.wds q)) [.str ("order" : Str), .str ("nest" : Str), .str ("span" : Str), .str ("far" : Str), .str ("rank" : Str), .str ("dial" : Str)] = hdB (wg s.wds q) := by rw [inD_6, six_eq]; rfl
      refine ⟨_, _, rfl, (by simp [atD, hqa, hin6]; exact rfl), fun _ => ?_, ?_⟩
      · simp [atD]
      · simp
    · simp; omega
    rw [← hps]
    have hkj : ∀ S, kJoin (.str (" " : Str)) (.list (W.map PyData.str)) S = .ok (.dat (.str (Txt.join " " W))) S := fun S => kJoin_w hneW (by omega)
    have hWm : pre.map PyData.str ++ PyData.str wA :: (l.wds.map PyData.str ++ PyData.str wZ :: post.map PyData.str) = W.map PyData.str := by rw [hW]; simp
    have hpo : pre.length + l.wds.length + post.length ≤ 157 := by rw [o5] at hl2; simp at hl2; omega
    cases hlf : isLf w with
    | true =>
      have hm := hmain 1 (by rw [hlf]; rfl)
      have k1 : (s.wds.map PyData.str).take i = pre.map PyData.str := by rw [← List.map_take, t1]
      have k2 : ((s.wds.map PyData.str).drop i).take 1 = l.wds.map PyData.str := by rw [← List.map_drop, t2, ← List.map_take, ← hm]; simp
      have k3 : (s.wds.map PyData.str).drop (i + 1) = post.map PyData.str := by rw [← List.map_drop, ← List.drop_drop, t2, ← hm]; simp
      simp [e1, hat, isLf_d, hlf, atD, f1, c2, k1, k2, k3, hm, o1, show i ≤ 16777213 by omega, show i + 3 + post.length ≤ 16777216 by omega, hWm, hkj, show ("( " : Str).length = 2 from rfl, show (" )" : Str).length = 2 from rfl, show 2 + (Txt.join " " W).length ≤ 16777216 by omega, show 2 + (Txt.join " " W).length ≤ 16777214 by omega]
    | false =>
      have hm := hmain 2 (by rw [hlf]; rfl)
      have k1 : (s.wds.map PyData.str).take i = pre.map PyData.str := by rw [← List.map_take, t1]
      have k2 : ((s.wds.map PyData.str).drop i).take 2 = l.wds.map PyData.str := by rw [← List.map_drop, t2, ← List.map_take, ← hm]; simp
      have k3 : (s.wds.map PyData.str).drop (i + 2) = post.map PyData.str := by rw [← List.map_drop, ← List.drop_drop, t2, ← hm]; simp
      simp [e1, hat, isLf_d, hlf, atD, f1, c2, k1, k2, k3, hm, o1, show i ≤ 16777212 by omega, show i + 4 + post.length ≤ 16777216 by omega, hWm, hkj, show ("( " : Str).length = 2 from rfl, show (" )" : Str).length = 2 from rfl, show 2 + (Txt.join " " W).length ≤ 16777216 by omega, show 2 + (Txt.join " " W).length ≤ 16777214 by omega]
end K78

set_option maxRecDepth 100000
set_option maxHeartbeats 8000000
/-! PL27: a text otherwise -/
namespace K78
open PySem PySem.Spec PyProof.Rows L2 LamX DL
def drawnW : List Str := [("" : Str), ("0" : Str), ("1" : Str), ("2" : Str), ("3" : Str), ("12" : Str), ("13" : Str), ("19" : Str), ("20" : Str), ("21" : Str), ("00" : Str), ("-1" : Str), ("x" : Str), ("0,1" : Str), ("0,1,2" : Str), ("1,0" : Str), ("1,1" : Str), ("," : Str), ("0," : Str), (repS ("9" : Str) 20), (("1" : Str) ++ repS ("0" : Str) 20), ("book" : Str), ("turns" : Str), ("then" : Str), ("web" : Str), ("tie" : Str), ("vague" : Str), ("lot" : Str), ("views" : Str), ("view" : Str), ("told" : Str), ("ring" : Str), ("path" : Str), ("fold" : Str), ("four" : Str), ("row" : Str), ("rows" : Str), ("steps" : Str), ("step" : Str), ("hard" : Str), ("turn" : Str), ("looks" : Str), ("thing" : Str), ("teller" : Str), ("gone" : Str), ("tell" : Str), ("hush" : Str), ("undo" : Str), ("redo" : Str), ("chain" : Str), ("all" : Str), ("star" : Str), ("order" : Str), ("nest" : Str), ("span" : Str), ("far" : Str), ("rank" : Str), ("dial" : Str), ("twin" : Str), ("part" : Str), ("lump" : Str), ("*" : Str), ("(" : Str), (")" : Str)]
def drawnD : List D := [.str ("" : Str), .str ("0" : Str), .str ("1" : Str), .str ("2" : Str), .str ("3" : Str), .str ("12" : Str), .str ("13" : Str), .str ("19" : Str), .str ("20" : Str), .str ("21" : Str), .str ("00" : Str), .str ("-1" : Str), .str ("x" : Str), .str ("0,1" : Str), .str ("0,1,2" : Str), .str ("1,0" : Str), .str ("1,1" : Str), .str ("," : Str), .str ("0," : Str), .str (repS ("9" : Str) 20), .str (("1" : Str) ++ repS ("0" : Str) 20), .str ("book" : Str), .str ("turns" : Str), .str ("then" : Str), .str ("web" : Str), .str ("tie" : Str), .str ("vague" : Str), .str ("lot" : Str), .str ("views" : Str), .str ("view" : Str), .str ("told" : Str), .str ("ring" : Str), .str ("path" : Str), .str ("fold" : Str), .str ("four" : Str), .str ("row" : Str), .str ("rows" : Str), .str ("steps" : Str), .str ("step" : Str), .str ("hard" : Str), .str ("turn" : Str), .str ("looks" : Str), .str ("thing" : Str), .str ("teller" : Str), .str ("gone" : Str), .str ("tell" : Str), .str ("hush" : Str), .str ("undo" : Str), .str ("redo" : Str), .str ("chain" : Str), .str ("all" : Str), .str ("star" : Str), .str ("order" : Str), .str ("nest" : Str), .str ("span" : Str), .str ("far" : Str), .str ("rank" : Str), .str ("dial" : Str), .str ("twin" : Str), .str ("part" : Str), .str ("lump" : Str), .str ("*" : Str), .str ("(" : Str), .str (")" : Str)]
theorem drawnD_eq : drawnD = drawnW.map PyData.str := rfl
theorem drawn_all : (drawnW.all fun w => decide (w.length ≤ 21) && !decide (32 ∈ w.cps.toList)) = true := by decide +kernel
theorem e_word_drawn {jar : List D} {k : Nat} (hj : J k jar) (hk : k ≤ 900000000) : ∃ (w : Str) (jar' : List D), g__law_tt_word_drawn [none] jar = .ok (.dat (.str w)) jar' ∧ w.length ≤ 21 ∧ 32 ∉ w.cps.toList ∧ J (k + 1) jar' := by
  obtain ⟨x, j1, h1, h2, h3⟩ := e_one hj (by omega) (ds := drawnD) (by simp [drawnD]) (by simp [drawnD])
  rw [drawnD_eq] at h2
  obtain ⟨w, hw, rfl⟩ := List.mem_map.mp h2
  have := List.all_eq_true.mp drawn_all w hw
  simp only [Bool.and_eq_true, decide_eq_true_eq, Bool.not_eq_true', decide_eq_false_iff_not] at this
  refine ⟨w, j1, ?_, this.1, this.2, h3⟩
  simp only [drawnD] at h1
  simp [g__law_tt_word_drawn, fb__law_tt_word_drawn, show ("9" : Str).length = 1 from rfl, show ("0" : Str).length = 1 from rfl, show ("1" : Str).length = 1 from rfl, show (repS ("0" : Str) 20).length = 20 from by decide +kernel, h1]

/-! ### how many words -/
def cb (w : Str) : Nat := w.cps.toList.count 32
theorem spl_cnt : ∀ (l acc : List Nat), 32 ∉ acc → (TL.spl [32] 0 acc l).length = l.count 32 + 1
  | [], acc, _ => by rw [TL.spl_nil]; rfl
  | x :: l, acc, h => by
    by_cases hx : x = 32
    · subst hx
      rw [TL.spl_hit (by simp [TL.pre]), List.length_cons]
      have := spl_cnt l [] (by simp)
      simp only [List.length_cons, List.length_nil, Nat.zero_add, Nat.sub_self] at this ⊢
      rw [this]; simp
    · rw [TL.spl_miss (by simp [TL.pre]; exact hx)]
      rw [spl_cnt l (acc ++ [x]) (by simp [h]; exact fun e => hx e.symm)]
      simp [List.count_cons, hx]
theorem wdsT_cnt (l : Str) : (wdsT l).length = cb l + 1 := by
  unfold wdsT cb
  rw [lit_sp, split_eq (by decide), List.length_map, spl_cnt _ _ (by simp)]
theorem spl_piece {c : Nat} : ∀ (l acc : List Nat), ∀ p ∈ TL.spl [c] 0 acc l, p.count 32 ≤ acc.count 32 + l.count 32
  | [], acc, p, h => by rw [TL.spl_nil] at h; simp at h; subst h; simp
  | x :: l, acc, p, h => by
    cases hx : TL.pre [c] (x :: l) with
    | true =>
      rw [TL.spl_hit hx] at h
      simp only [List.mem_cons] at h
      rcases h with rfl | h
      · omega
      · have := spl_piece l [] p h
        rw [List.count_nil] at this; rw [List.count_cons]; omega
    | false =>
      rw [TL.spl_miss hx] at h
      have := spl_piece l (acc ++ [x]) p h
      rw [List.count_append, List.count_cons, List.count_nil] at this; rw [List.count_cons]; omega
theorem wsOf_cnt (T : Str) : (wsOf T).length ≤ cb T + 1 := by
  obtain ⟨l0, ls, hls⟩ : ∃ l0 ls, lnsT T = l0 :: ls := by
    cases q : lnsT T with
    | nil => exact absurd q lns_ne
    | cons a b => exact ⟨a, b, rfl⟩
  unfold wsOf
  rw [hls, List.headD_cons, wdsT_cnt]
  have hm : l0 ∈ lnsT T := by rw [hls]; simp
  unfold lnsT at hm
  rw [lit_nl, split_eq (by decide)] at hm
  obtain ⟨q, hq, rfl⟩ := List.mem_map.mp hm
  have := spl_piece _ _ q hq
  rw [List.count_nil] at this
  show q.count 32 + 1 ≤ cb T + 1
  unfold cb; omega
theorem app_tl (a b : Str) : (a ++ b).cps.toList = a.cps.toList ++ b.cps.toList := TL.tl_append a b
theorem wsOf_first {A B : Str} (h : 10 ∉ A.cps.toList) : (wsOf (A ++ "\n" ++ B)).length = cb A + 1 := by
  unfold wsOf lnsT
  rw [lit_nl, split_eq (by decide), app_tl, app_tl, List.append_assoc, show (⟨#[10]⟩ : Str).cps.toList = [10] from rfl, TL.spl_part1 h]
  rw [List.map_cons, List.headD_cons, List.nil_append, SX.S_tl, wdsT_cnt]
theorem cb_app (a b : Str) : cb (a ++ b) = cb a + cb b := by unfold cb; rw [app_tl, List.count_append]
theorem cb_join : ∀ {ws : List Str}, (∀ w ∈ ws, 32 ∉ w.cps.toList) → cb (Txt.join " " ws) ≤ ws.length
  | [], _ => by decide +kernel
  | [x], h => by
    rw [join_one]
    have : cb x = 0 := List.count_eq_zero.mpr (h x (by simp))
    simp; omega
  | x :: y :: r, h => by
    rw [join_cons (by simp), cb_app, cb_app]
    have h1 : cb x = 0 := List.count_eq_zero.mpr (h x (by simp))
    have h2 : cb (" " : Str) = 1 := by decide +kernel
    have ih := cb_join (ws := y :: r) (fun w hw => h w (by simp [hw]))
    simp only [List.length_cons] at ih ⊢; omega
theorem deep_words {T : Str} {n : Nat} (h : (wsOf T).length ≤ n) {s : Sk} {r : List Str} (hs : rdT T = .told s r) : s.deep ≤ n := by
  have := psW_sz (wsOf T).length 20 (wsOf T)
  rw [← rdT, hs] at this
  simp only [Rd.szP] at this
  have := deep_sz s
  omega
/-- a text that may be asked -/
def askT (T : Str) : Prop := T.length ≤ 100000 ∧ (wsOf T).length ≤ 200
theorem askT_ok {T : Str} (h : askT T) : g__law_sx_text_right [some (.str T)] [] = .ok (.dat (.bool true)) [] :=
  e_text_right h.1 fun s r hs => deep_words h.2 hs
def tot (ws : List Str) : Nat := (ws.map (·.length)).sum + ws.length
theorem tot_join {ws : List Str} : (Txt.join " " ws).length ≤ tot ws := by
  by_cases h : ws = []
  · subst h; decide +kernel
  · have := join_sum h; unfold tot; omega
theorem ask_join {ws : List Str} (h : ∀ w ∈ ws, 32 ∉ w.cps.toList) (hn : ws.length ≤ 190) (ht : tot ws ≤ 90000) : askT (Txt.join " " ws) := by
  have h1 := wsOf_cnt (Txt.join " " ws)
  have h2 := cb_join h
  have h3 := tot_join (ws := ws)
  exact ⟨by omega, by omega⟩
theorem sum_take (n : Nat) (ws : List Str) : ((ws.take n).map (·.length)).sum + ((ws.drop n).map (·.length)).sum = (ws.map (·.length)).sum := by
  rw [← List.sum_append, ← List.map_append, List.take_append_drop]
theorem sum_drop1 (n : Nat) (ws : List Str) : ((ws.drop (n + 1)).map (·.length)).sum ≤ ((ws.drop n).map (·.length)).sum := by
  rw [← List.drop_drop]
  cases ws.drop n with
  | nil => simp
  | cons a b => simp
theorem kJoin_t {ws : List Str} {S : AS} (h : tot ws ≤ 1000000) : kJoin (.str (" " : Str)) (.list (ws.map .str)) S = .ok (.dat (.str (Txt.join " " ws))) S :=
  kJoinL (by rw [show (" " : Str).length = 1 from rfl]; unfold tot at h; omega)
theorem tx_cb {X : Str} {ws : List Str} (h : TxOk X ws) : cb X + 1 = ws.length ∧ 10 ∉ X.cps.toList ∧ lnsT X = [X] ∧ wdsT X = ws ∧ tot ws = X.length + 1 := by
  have ⟨h1, h2⟩ := wsOf_join h.ne h.cl
  have h3 := wdsT_join h.ne h.cl
  rw [← h.eq] at h1 h2 h3
  refine ⟨by rw [← wdsT_cnt, h3], fun hm => ?_, h1, h3, ?_⟩
  · rw [h.eq, lit_sp] at hm
    rcases join_mem hm with e | ⟨w, hw2, e⟩
    · cases e
    · exact (h.cl w hw2).2 e
  · have := join_sum h.ne
    rw [← h.eq] at this
    unfold tot; omega
end K78

set_option maxRecDepth 100000
set_option maxHeartbeats 8000000
/-! PL28: a text otherwise, in data -/
namespace K78
open PySem PySem.Spec PyProof.Rows L2 LamX DL
theorem mapS_take {n : Nat} {ws : List Str} : (ws.map PyData.str).take n = (ws.take n).map PyData.str := by rw [List.map_take]
theorem mapS_drop {n : Nat} {ws : List Str} : (ws.map PyData.str).drop n = (ws.drop n).map PyData.str := by rw [List.map_drop]
@[simp] theorem cut_to0 {α : Type} {xs : List α} : DL.cutD xs none (some 0) = [] := by
  have := cut_to (xs := xs) (k := 0); simpa using this
@[simp] theorem cut_from0 {α : Type} {xs : List α} : DL.cutD xs (some 0) none = xs := by
  have := cut_from (xs := xs) (k := 0); simpa using this
@[simp] theorem cut_to1 {α : Type} {xs : List α} : DL.cutD xs none (some 1) = xs.take 1 := cut_to (k := 1)
theorem kJn0 {S : AS} : kJoin (.str ("\n" : Str)) (.list []) S = .ok (.dat (.str "")) S := by
  have := kJoinL (a := ("\n" : Str)) (ys := []) (S := S) (by simp)
  rw [show Txt.join ("\n" : Str) [] = "" from by decide +kernel] at this
  exact this
theorem kJn1 {T : Str} {S : AS} (h : T.length ≤ 1000000) : kJoin (.str ("\n" : Str)) (.list [.str T]) S = .ok (.dat (.str T)) S := by
  have := kJoinL (a := ("\n" : Str)) (ys := [T]) (S := S) (by simp [show ("\n" : Str).length = 1 from rfl]; omega)
  rw [join_one] at this
  exact this
theorem kJn2 {A B : Str} {S : AS} (h : A.length ≤ 1000000) (h2 : B.length ≤ 1000000) : kJoin (.str ("\n" : Str)) (.list [.str A, .str B]) S = .ok (.dat (.str (A ++ "\n" ++ B))) S := by
  have := kJoinL (a := ("\n" : Str)) (ys := [A, B]) (S := S) (by simp [show ("\n" : Str).length = 1 from rfl]; omega)
  rw [join_cons (by simp), join_one] at this
  exact this
theorem cutS_eq (z : Str) (lo hi : Option Int) : cutS z lo hi = SX.S (DL.cutD z.cps.toList lo hi) := by
  unfold cutS DL.cutD
  rw [len_tl]
theorem cutS_to {z : Str} {n : Nat} : cutS z none (some (n : Int)) = SX.S (z.cps.toList.take n) := by rw [cutS_eq, cut_to]
theorem cutS_from {z : Str} {n : Nat} : cutS z (some (n : Int)) none = SX.S (z.cps.toList.drop n) := by rw [cutS_eq, cut_from]
theorem putL0 {d e : D} : putL 0 d [e] = some (.none, [d]) := by simp [putL, ixN]
theorem inD45 {f : Int} (h : f ≠ 4) (h2 : f ≠ 5) : inD (.int f) [.int 4, .int 5] = false := by
  simp [inD, PyData.eqv]; omega
theorem kSl_s {X : Str} {lo hi : Option Int} {S : AS} (h : X.length ≤ 16777216) : kSlice (.str X) lo hi S = .ok (.dat (.str (cutS X lo hi))) S := by
  simp only [kSlice]; rw [if_pos (by simpa using h)]; rfl
theorem ask_two {A B : Str} (h : 10 ∉ A.cps.toList) (h2 : cb A ≤ 190) (h3 : A.length ≤ 49000) (h4 : B.length ≤ 50000) : askT (A ++ "\n" ++ B) :=
  ⟨by simp only [str_len_app, show ("\n" : Str).length = 1 from rfl]; omega, by rw [wsOf_first h]; omega⟩
structure OtC (jar : List D) (k : Nat) (X : Str) (ws : List Str) (f : Int) (p q : Nat) (v : Str) (A B C E : List Str) (j1 j2 j3 j4 j5 : List D) : Prop where
  hXs : X.length ≤ 16777214
  hXl : X.length ≤ 40000
  hls : lnsT X = [X]
  hwd : wdsT X = ws
  h10 : 10 ∉ X.cps.toList
  hcb : cb X + 1 = ws.length
  hnum : ws.length ≤ 180
  h1 : g__law_take [none, some (.int 12)] jar = .ok (.dat (.int f)) j1
  h2 : g__law_take [none, some (.int 1)] j1 = .ok (.dat (.int 0)) j2
  h3 : g__law_take [none, some (.int 1)] j2 = .ok (.dat (.int 0)) j3
  h4 : g__law_take [none, some (.int (ws.length : Int))] j3 = .ok (.dat (.int (p : Int))) j4
  h5 : g__law_take [none, some (.int ((ws.length : Int) + 1))] j4 = .ok (.dat (.int (q : Int))) j5
  hatp : atI (ws.map PyData.str) (p : Int) = some (.str v)
  hvm : v ∈ ws
  hvl : v.length ≤ X.length + 1
  k1 : (ws.map PyData.str).take p = A.map PyData.str
  k2 : (ws.map PyData.str).drop (p + 1) = B.map PyData.str
  k3 : (ws.map PyData.str).take q = C.map PyData.str
  k4 : (ws.map PyData.str).drop q = E.map PyData.str
  lA : A.length ≤ 180
  lB : B.length ≤ 180
  lC : C.length ≤ 180
  lE : E.length ≤ 180
  lAB : A.length + B.length + 1 = ws.length
  lCE : C.length + E.length = ws.length
  sAB : (A.map (·.length)).sum + (B.map (·.length)).sum ≤ X.length + 1
  sCE : (C.map (·.length)).sum + (E.map (·.length)).sum ≤ X.length + 1
  hcl : ∀ w ∈ ws, 32 ∉ w.cps.toList
  cA : ∀ w ∈ A, 32 ∉ w.cps.toList
  cB : ∀ w ∈ B, 32 ∉ w.cps.toList
  cC : ∀ w ∈ C, 32 ∉ w.cps.toList
  cE : ∀ w ∈ E, 32 ∉ w.cps.toList
  cCn : ∀ w ∈ C, 10 ∉ w.cps.toList
  sC : (C.map (·.length)).sum ≤ X.length + 1
  d5 : J (k + 5) j5
  hk : k ≤ 800000000
  f0 : 0 ≤ f
  f1 : f < 12
theorem e_ctx {jar : List D} {k : Nat} {X : Str} {ws : List Str} (hj : J k jar) (hk : k ≤ 800000000) (hX : TxOk X ws) (hXl : X.length ≤ 40000) :
    ∃ (f : Int) (p q : Nat) (v : Str) (A B C E : List Str) (j1 j2 j3 j4 j5 : List D), OtC jar k X ws f p q v A B C E j1 j2 j3 j4 j5 := by
  have hlen := hX.len
  have hnum := hX.num
  have ⟨hcb, h10, hls, hwd, htot⟩ := tx_cb hX
  have hcl : ∀ w ∈ ws, 32 ∉ w.cps.toList := fun w hw => (hX.cl w hw).1
  have hpos : 0 < ws.length := List.length_pos_iff.mpr hX.ne
  obtain ⟨f, j1, h1, f0, f1, d1⟩ := e_take hj (by omega) (n := 12) (by omega) (by omega)
  obtain ⟨a, j2, h2, a0, a1, d2⟩ := e_take d1 (by omega) (n := 1) (by omega) (by omega)
  obtain ⟨b, j3, h3, b0, b1, d3⟩ := e_take d2 (by omega) (n := 1) (by omega) (by omega)
  obtain ⟨p, j4, h4, p0, p1, d4⟩ := e_take d3 (by omega) (n := (ws.length : Int)) (by omega) (by omega)
  obtain ⟨q, j5, h5, q0, q1, d5⟩ := e_take d4 (by omega) (n := (ws.length : Int) + 1) (by omega) (by omega)
  have ha : a = 0 := by omega
  have hb : b = 0 := by omega
  subst ha hb
  obtain ⟨p, rfl⟩ := Int.eq_ofNat_of_zero_le p0
  obtain ⟨q, rfl⟩ := Int.eq_ofNat_of_zero_le q0
  have hp : p < ws.length := by omega
  have hq : q ≤ ws.length := by omega
  obtain ⟨v, hv⟩ : ∃ v, v = ws[p]'hp := ⟨_, rfl⟩
  have hatp : atI (ws.map PyData.str) (p : Int) = some (.str v) := by rw [at_nat]; simp [hp, hv]
  have hvm : v ∈ ws := by rw [hv]; exact List.getElem_mem hp
  have hst := sum_take p ws
  have hst2 := sum_take q ws
  have hsd := sum_drop1 p ws
  have htot' : (ws.map (·.length)).sum + ws.length = X.length + 1 := htot
  have hvl : v.length ≤ X.length + 1 := by
    have : v.length ≤ (ws.map (·.length)).sum := by
      have : ∀ {l : List Str}, v ∈ l → v.length ≤ (l.map (·.length)).sum := by
        intro l hl
        induction l with
        | nil => simp at hl
        | cons x l ih =>
          simp only [List.map_cons, List.sum_cons]
          rcases List.mem_cons.mp hl with e | e
          · rw [e]; omega
          · have := ih e; omega
      exact this hvm
    omega
  have hXs : X.length ≤ 16777214 := by omega
  -- the pieces
  obtain ⟨A, hA⟩ : ∃ A, A = ws.take p := ⟨_, rfl⟩
  obtain ⟨B, hB⟩ : ∃ B, B = ws.drop (p + 1) := ⟨_, rfl⟩
  obtain ⟨C, hC⟩ : ∃ C, C = ws.take q := ⟨_, rfl⟩
  obtain ⟨E, hE⟩ : ∃ E, E = ws.drop q := ⟨_, rfl⟩
  have k1 : (ws.map PyData.str).take p = A.map PyData.str := by rw [mapS_take, hA]
  have k2 : (ws.map PyData.str).drop (p + 1) = B.map PyData.str := by rw [mapS_drop, hB]
  have k3 : (ws.map PyData.str).take q = C.map PyData.str := by rw [mapS_take, hC]
  have k4 : (ws.map PyData.str).drop q = E.map PyData.str := by rw [mapS_drop, hE]
  have lA : A.length ≤ 180 := by rw [hA]; simp; omega
  have lB : B.length ≤ 180 := by rw [hB]; simp; omega
  have lC : C.length ≤ 180 := by rw [hC]; simp; omega
  have lE : E.length ≤ 180 := by rw [hE]; simp; omega
  have lAB : A.length + B.length + 1 = ws.length := by rw [hA, hB]; simp; omega
  have lCE : C.length + E.length = ws.length := by rw [hC, hE]; simp; omega
  have sAB : (A.map (·.length)).sum + (B.map (·.length)).sum ≤ X.length + 1 := by rw [hA, hB]; omega
  have sCE : (C.map (·.length)).sum + (E.map (·.length)).sum ≤ X.length + 1 := by rw [hC, hE]; omega
  have cA : ∀ w ∈ A, 32 ∉ w.cps.toList := fun w hw => hcl w (List.mem_of_mem_take (by rw [← hA]; exact hw))
  have cB : ∀ w ∈ B, 32 ∉ w.cps.toList := fun w hw => hcl w (List.mem_of_mem_drop (by rw [← hB]; exact hw))
  have cC : ∀ w ∈ C, 32 ∉ w.cps.toList := fun w hw => hcl w (List.mem_of_mem_take (by rw [← hC]; exact hw))
  have cE : ∀ w ∈ E, 32 ∉ w.cps.toList := fun w hw => hcl w (List.mem_of_mem_drop (by rw [← hE]; exact hw))
  have sC : (C.map (·.length)).sum ≤ X.length + 1 := by omega
  have cCn : ∀ w ∈ C, 10 ∉ w.cps.toList := fun w hw => (hX.cl w (List.mem_of_mem_take (by rw [← hC]; exact hw))).2
  exact ⟨f, p, q, v, A, B, C, E, j1, j2, j3, j4, j5, ⟨hXs, hXl, hls, hwd, h10, hcb, hnum, h1, h2, h3, h4, h5, hatp, hvm, hvl, k1, k2, k3, k4, lA, lB, lC, lE, lAB, lCE, sAB, sCE, hcl, cA, cB, cC, cE, cCn, sC, d5, hk, f0, f1⟩⟩
theorem ot_lt {jar : List D} {k : Nat} {X : Str} {ws : List Str} {f : Int} {p q : Nat} {v : Str} {A B C E : List Str} {j1 j2 j3 j4 j5 : List D} (c : OtC jar k X ws f p q v A B C E j1 j2 j3 j4 j5) (c4 : f < 4) :
    ∃ (T : Str) (jar' : List D), g__law_tt_otherwise [none, some (.str X)] jar = .ok (.dat (.str T)) jar' ∧ askT T ∧ J (k + 12) jar' := by
  obtain ⟨hXs, hXl, hls, hwd, h10, hcb, hnum, h1, h2, h3, h4, h5, hatp, hvm, hvl, k1, k2, k3, k4, lA, lB, lC, lE, lAB, lCE, sAB, sCE, hcl, cA, cB, cC, cE, cCn, sC, d5, hk, f0, f1⟩ := c
  obtain ⟨w, j6, e6, wl, wc, d6⟩ := e_word_drawn d5 (by omega)
  have ht : tot (A ++ w :: B) ≤ 90000 := by unfold tot; simp only [List.map_append, List.map_cons, List.sum_append, List.sum_cons, List.length_append, List.length_cons]; omega
  have hm : A.map PyData.str ++ PyData.str w :: B.map PyData.str = (A ++ w :: B).map PyData.str := by simp
  have hkj : ∀ S, kJoin (.str (" " : Str)) (.list ((A ++ w :: B).map PyData.str)) S = .ok (.dat (.str (Txt.join " " (A ++ w :: B)))) S := fun S => kJoin_t (by omega)
  have hjl := tot_join (ws := A ++ w :: B)
  refine ⟨Txt.join " " (A ++ w :: B), j6, ?_, ask_join (fun x hx => ?_) (by simp; omega) ht, d6.mono (by omega)⟩
  · rw [← hm] at hkj
    simp [g__law_tt_otherwise, fb__law_tt_otherwise, hXs, hls, h1, h2, h3, hwd, h4, h5, c4, e6, k1, k2, show A.length ≤ 16777215 by omega, show A.length + 1 + B.length ≤ 16777216 by omega, hkj, putL0, inD45 (show f ≠ 4 by omega) (show f ≠ 5 by omega), show ¬ f = 6 by omega, show ¬ f = 7 by omega, show ¬ f = 8 by omega, show ¬ f = 9 by omega, show f < 10 by omega, kJn1 (show (Txt.join " " (A ++ w :: B)).length ≤ 1000000 by omega)]
  · simp only [List.mem_append, List.mem_cons] at hx
    rcases hx with hx | rfl | hx
    · exact cA x hx
    · exact wc
    · exact cB x hx
theorem ot_4 {jar : List D} {k : Nat} {X : Str} {ws : List Str} {f : Int} {p q : Nat} {v : Str} {A B C E : List Str} {j1 j2 j3 j4 j5 : List D} (c : OtC jar k X ws f p q v A B C E j1 j2 j3 j4 j5) (hf : f = 4) :
    ∃ (T : Str) (jar' : List D), g__law_tt_otherwise [none, some (.str X)] jar = .ok (.dat (.str T)) jar' ∧ askT T ∧ J (k + 12) jar' := by
  obtain ⟨hXs, hXl, hls, hwd, h10, hcb, hnum, h1, h2, h3, h4, h5, hatp, hvm, hvl, k1, k2, k3, k4, lA, lB, lC, lE, lAB, lCE, sAB, sCE, hcl, cA, cB, cC, cE, cCn, sC, d5, hk, f0, f1⟩ := c
  subst hf
  obtain ⟨w, j6, e6, wl, wc, d6⟩ := e_word_drawn d5 (by omega)
  have ht : tot (C ++ w :: E) ≤ 90000 := by unfold tot; simp only [List.map_append, List.map_cons, List.sum_append, List.sum_cons, List.length_append, List.length_cons]; omega
  have hm : C.map PyData.str ++ PyData.str w :: E.map PyData.str = (C ++ w :: E).map PyData.str := by simp
  have hkj : ∀ S, kJoin (.str (" " : Str)) (.list ((C ++ w :: E).map PyData.str)) S = .ok (.dat (.str (Txt.join " " (C ++ w :: E)))) S := fun S => kJoin_t (by omega)
  have hjl := tot_join (ws := C ++ w :: E)
  refine ⟨Txt.join " " (C ++ w :: E), j6, ?_, ask_join (fun x hx => ?_) (by simp; omega) ht, d6.mono (by omega)⟩
  · rw [← hm] at hkj
    simp [g__law_tt_otherwise, fb__law_tt_otherwise, hXs, hls, h1, h2, h3, hwd, h4, h5, e6, k3, k4, show C.length ≤ 16777215 by omega, show C.length + 1 + E.length ≤ 16777216 by omega, hkj, putL0, inD, kJn1 (show (Txt.join " " (C ++ w :: E)).length ≤ 1000000 by omega)]
  · simp only [List.mem_append, List.mem_cons] at hx
    rcases hx with hx | rfl | hx
    · exact cC x hx
    · exact wc
    · exact cE x hx
theorem ot_5 {jar : List D} {k : Nat} {X : Str} {ws : List Str} {f : Int} {p q : Nat} {v : Str} {A B C E : List Str} {j1 j2 j3 j4 j5 : List D} (c : OtC jar k X ws f p q v A B C E j1 j2 j3 j4 j5) (hf : f = 5) :
    ∃ (T : Str) (jar' : List D), g__law_tt_otherwise [none, some (.str X)] jar = .ok (.dat (.str T)) jar' ∧ askT T ∧ J (k + 12) jar' := by
  obtain ⟨hXs, hXl, hls, hwd, h10, hcb, hnum, h1, h2, h3, h4, h5, hatp, hvm, hvl, k1, k2, k3, k4, lA, lB, lC, lE, lAB, lCE, sAB, sCE, hcl, cA, cB, cC, cE, cCn, sC, d5, hk, f0, f1⟩ := c
  subst hf
  have ht : tot (C ++ v :: E) ≤ 90000 := by unfold tot; simp only [List.map_append, List.map_cons, List.sum_append, List.sum_cons, List.length_append, List.length_cons]; omega
  have hm : C.map PyData.str ++ PyData.str v :: E.map PyData.str = (C ++ v :: E).map PyData.str := by simp
  have hkj : ∀ S, kJoin (.str (" " : Str)) (.list ((C ++ v :: E).map PyData.str)) S = .ok (.dat (.str (Txt.join " " (C ++ v :: E)))) S := fun S => kJoin_t (by omega)
  have hjl := tot_join (ws := C ++ v :: E)
  refine ⟨Txt.join " " (C ++ v :: E), j5, ?_, ask_join (fun x hx => ?_) (by simp; omega) ht, d5.mono (by omega)⟩
  · rw [← hm] at hkj
    simp [g__law_tt_otherwise, fb__law_tt_otherwise, hXs, hls, h1, h2, h3, hwd, h4, h5, hatp, k3, k4, show C.length ≤ 16777215 by omega, show C.length + 1 + E.length ≤ 16777216 by omega, hkj, putL0, inD, kJn1 (show (Txt.join " " (C ++ v :: E)).length ≤ 1000000 by omega)]
  · simp only [List.mem_append, List.mem_cons] at hx
    rcases hx with hx | rfl | hx
    · exact cC x hx
    · exact hcl _ hvm
    · exact cE x hx
theorem ot_6 {jar : List D} {k : Nat} {X : Str} {ws : List Str} {f : Int} {p q : Nat} {v : Str} {A B C E : List Str} {j1 j2 j3 j4 j5 : List D} (c : OtC jar k X ws f p q v A B C E j1 j2 j3 j4 j5) (hf : f = 6) :
    ∃ (T : Str) (jar' : List D), g__law_tt_otherwise [none, some (.str X)] jar = .ok (.dat (.str T)) jar' ∧ askT T ∧ J (k + 12) jar' := by
  obtain ⟨hXs, hXl, hls, hwd, h10, hcb, hnum, h1, h2, h3, h4, h5, hatp, hvm, hvl, k1, k2, k3, k4, lA, lB, lC, lE, lAB, lCE, sAB, sCE, hcl, cA, cB, cC, cE, cCn, sC, d5, hk, f0, f1⟩ := c
  subst hf
  have ht : tot (A ++ B) ≤ 90000 := by unfold tot; simp only [List.map_append, List.sum_append, List.length_append]; omega
  have hm : A.map PyData.str ++ B.map PyData.str = (A ++ B).map PyData.str := by simp
  have hkj : ∀ S, kJoin (.str (" " : Str)) (.list ((A ++ B).map PyData.str)) S = .ok (.dat (.str (Txt.join " " (A ++ B)))) S := fun S => kJoin_t (by omega)
  have hjl := tot_join (ws := A ++ B)
  refine ⟨Txt.join " " (A ++ B), j5, ?_, ask_join (fun x hx => ?_) (by simp; omega) ht, d5.mono (by omega)⟩
  · rw [← hm] at hkj
    simp [g__law_tt_otherwise, fb__law_tt_otherwise, hXs, hls, h1, h2, h3, hwd, h4, h5, k1, k2, show A.length + B.length ≤ 16777216 by omega, hkj, putL0, inD, kJn1 (show (Txt.join " " (A ++ B)).length ≤ 1000000 by omega)]
  · simp only [List.mem_append] at hx
    rcases hx with hx | hx
    · exact cA x hx
    · exact cB x hx
theorem ot_7 {jar : List D} {k : Nat} {X : Str} {ws : List Str} {f : Int} {p q : Nat} {v : Str} {A B C E : List Str} {j1 j2 j3 j4 j5 : List D} (c : OtC jar k X ws f p q v A B C E j1 j2 j3 j4 j5) (hf : f = 7) :
    ∃ (T : Str) (jar' : List D), g__law_tt_otherwise [none, some (.str X)] jar = .ok (.dat (.str T)) jar' ∧ askT T ∧ J (k + 12) jar' := by
  obtain ⟨hXs, hXl, hls, hwd, h10, hcb, hnum, h1, h2, h3, h4, h5, hatp, hvm, hvl, k1, k2, k3, k4, lA, lB, lC, lE, lAB, lCE, sAB, sCE, hcl, cA, cB, cC, cE, cCn, sC, d5, hk, f0, f1⟩ := c
  subst hf
  obtain ⟨r, j6, e6, r0, r1, d6⟩ := e_take d5 (by omega) (n := 2) (by omega) (by omega)
  by_cases c : r = 0
  · refine ⟨"", j6, ?_, by constructor <;> decide +kernel, d6.mono (by omega)⟩
    simp [g__law_tt_otherwise, fb__law_tt_otherwise, hXs, hls, h1, h2, h3, hwd, h4, h5, e6, c, inD, kJn0]
  · refine ⟨X ++ "\n" ++ X, j6, ?_, ask_two h10 (by omega) (by omega) (by omega), d6.mono (by omega)⟩
    simp [g__law_tt_otherwise, fb__law_tt_otherwise, hXs, hls, h1, h2, h3, hwd, h4, h5, e6, c, inD, kJn2 (show X.length ≤ 1000000 by omega) (show X.length ≤ 1000000 by omega)]
theorem ot_8 {jar : List D} {k : Nat} {X : Str} {ws : List Str} {f : Int} {p q : Nat} {v : Str} {A B C E : List Str} {j1 j2 j3 j4 j5 : List D} (c : OtC jar k X ws f p q v A B C E j1 j2 j3 j4 j5) (hf : f = 8) :
    ∃ (T : Str) (jar' : List D), g__law_tt_otherwise [none, some (.str X)] jar = .ok (.dat (.str T)) jar' ∧ askT T ∧ J (k + 12) jar' := by
  obtain ⟨hXs, hXl, hls, hwd, h10, hcb, hnum, h1, h2, h3, h4, h5, hatp, hvm, hvl, k1, k2, k3, k4, lA, lB, lC, lE, lAB, lCE, sAB, sCE, hcl, cA, cB, cC, cE, cCn, sC, d5, hk, f0, f1⟩ := c
  subst hf
  refine ⟨X, j5, ?_, ⟨by omega, by have := wsOf_cnt X; omega⟩, d5.mono (by omega)⟩
  simp [g__law_tt_otherwise, fb__law_tt_otherwise, hXs, hls, h1, h2, h3, hwd, h4, h5, inD, gPut2, put1, putL0, kJn1 (show X.length ≤ 1000000 by omega)]
theorem ot_9 {jar : List D} {k : Nat} {X : Str} {ws : List Str} {f : Int} {p q : Nat} {v : Str} {A B C E : List Str} {j1 j2 j3 j4 j5 : List D} (c : OtC jar k X ws f p q v A B C E j1 j2 j3 j4 j5) (hf : f = 9) :
    ∃ (T : Str) (jar' : List D), g__law_tt_otherwise [none, some (.str X)] jar = .ok (.dat (.str T)) jar' ∧ askT T ∧ J (k + 12) jar' := by
  obtain ⟨hXs, hXl, hls, hwd, h10, hcb, hnum, h1, h2, h3, h4, h5, hatp, hvm, hvl, k1, k2, k3, k4, lA, lB, lC, lE, lAB, lCE, sAB, sCE, hcl, cA, cB, cC, cE, cCn, sC, d5, hk, f0, f1⟩ := c
  subst hf
  have hm : C.map PyData.str = C.map PyData.str := rfl
  have hkj : ∀ S, kJoin (.str (" " : Str)) (.list (C.map PyData.str)) S = .ok (.dat (.str (Txt.join " " C))) S := fun S => kJoin_t (by unfold tot; omega)
  have hjl := tot_join (ws := C)
  have htC : tot C ≤ 49000 := by unfold tot; omega
  obtain ⟨x, j6, e6, m6, d6⟩ := e_one d5 (by omega) (ds := [.str ("" : Str), .str (" " : Str), .str ("x" : Str), .str (X ++ " "), .str (Txt.join " " C)]) (by simp) (by simp)
  have hx : ∃ y : Str, x = .str y ∧ 10 ∉ y.cps.toList ∧ cb y ≤ 190 ∧ y.length ≤ 49000 := by
    simp only [List.mem_cons, List.not_mem_nil, or_false] at m6
    rcases m6 with h | h | h | h | h
    · exact ⟨_, h, by decide +kernel, by decide +kernel, by decide +kernel⟩
    · exact ⟨_, h, by decide +kernel, by decide +kernel, by decide +kernel⟩
    · exact ⟨_, h, by decide +kernel, by decide +kernel, by decide +kernel⟩
    · refine ⟨_, h, ?_, ?_, ?_⟩
      · rw [app_tl]; simp only [List.mem_append, not_or]; exact ⟨h10, by decide +kernel⟩
      · rw [cb_app, show cb (" " : Str) = 1 from by decide +kernel]; omega
      · simp [show (" " : Str).length = 1 from rfl]; omega
    · refine ⟨_, h, fun hm => ?_, by have := cb_join cC; omega, by omega⟩
      rw [lit_sp] at hm
      rcases join_mem hm with e | ⟨w, hw2, e⟩
      · cases e
      · exact (cCn w hw2) e
  obtain ⟨y, rfl, y1, y2, y3⟩ := hx
  refine ⟨y ++ "\n" ++ X, j6, ?_, ask_two y1 y2 y3 (by omega), d6.mono (by omega)⟩
  simp [g__law_tt_otherwise, fb__law_tt_otherwise, hXs, hls, h1, h2, h3, hwd, h4, h5, k3, hkj, show (" " : Str).length = 1 from rfl, show X.length ≤ 16777215 by omega, inD, e6, kJn2 (show y.length ≤ 1000000 by omega) (show X.length ≤ 1000000 by omega)]
theorem ot_10 {jar : List D} {k : Nat} {X : Str} {ws : List Str} {f : Int} {p q : Nat} {v : Str} {A B C E : List Str} {j1 j2 j3 j4 j5 : List D} (c : OtC jar k X ws f p q v A B C E j1 j2 j3 j4 j5) (hf : 10 ≤ f) :
    ∃ (T : Str) (jar' : List D), g__law_tt_otherwise [none, some (.str X)] jar = .ok (.dat (.str T)) jar' ∧ askT T ∧ J (k + 12) jar' := by
  obtain ⟨hXs, hXl, hls, hwd, h10, hcb, hnum, h1, h2, h3, h4, h5, hatp, hvm, hvl, k1, k2, k3, k4, lA, lB, lC, lE, lAB, lCE, sAB, sCE, hcl, cA, cB, cC, cE, cCn, sC, d5, hk, f0, f1⟩ := c
  obtain ⟨r, j6, e6, r0, r1, d6⟩ := e_take d5 (by omega) (n := (X.length : Int) + 1) (by omega) (by omega)
  obtain ⟨x, j7, e7, m7, d7⟩ := e_one d6 (by omega) (ds := [.str ("" : Str), .str (" " : Str), .str ("\n" : Str), .str ("0" : Str), .str ("1" : Str), .str ("," : Str), .str ("-" : Str), .str ("\t" : Str)]) (by simp) (by simp)
  obtain ⟨z, j8, e8, z0, z1, d8⟩ := e_take d7 (by omega) (n := 3) (by omega) (by omega)
  obtain ⟨r, rfl⟩ := Int.eq_ofNat_of_zero_le r0
  obtain ⟨z, rfl⟩ := Int.eq_ofNat_of_zero_le z0
  have hx : ∃ y : Str, x = .str y ∧ cb y ≤ 1 ∧ y.length ≤ 1 := by
    simp only [List.mem_cons, List.not_mem_nil, or_false] at m7
    rcases m7 with h | h | h | h | h | h | h | h <;> exact ⟨_, h, by decide +kernel, by decide +kernel⟩
  obtain ⟨y, rfl, y1, y2⟩ := hx
  have hs1 : ∀ S, kSlice (.str X) none (some (r : Int)) S = .ok (.dat (.str (SX.S (X.cps.toList.take r)))) S := fun S => by rw [kSl_s (by omega), cutS_to]
  have hs2 : ∀ S, kSlice (.str X) (some ((r : Int) + (z : Int))) none S = .ok (.dat (.str (SX.S (X.cps.toList.drop (r + z))))) S := fun S => by rw [kSl_s (by omega), show ((r : Int) + (z : Int)) = ((r + z : Nat) : Int) by omega, cutS_from]
  have hl1 : (SX.S (X.cps.toList.take r)).length ≤ X.length := by rw [SX.S_len, len_tl]; simp; omega
  have hl2 : (SX.S (X.cps.toList.drop (r + z))).length ≤ X.length := by rw [SX.S_len, len_tl]; simp
  have hcc : cb (SX.S (X.cps.toList.take r)) + cb (SX.S (X.cps.toList.drop (r + z))) ≤ cb X := by
    have e1 : (X.cps.toList.take r).count 32 + (X.cps.toList.drop r).count 32 = X.cps.toList.count 32 := by rw [← List.count_append, List.take_append_drop]
    have e2 : ((X.cps.toList.drop r).drop z).count 32 ≤ (X.cps.toList.drop r).count 32 := List.Sublist.count_le _ (List.drop_sublist _ _)
    rw [List.drop_drop] at e2
    show (X.cps.toList.take r).count 32 + (X.cps.toList.drop (r + z)).count 32 ≤ X.cps.toList.count 32
    omega
  generalize hP : SX.S (X.cps.toList.take r) = P at *
  generalize hQ : SX.S (X.cps.toList.drop (r + z)) = Q at *
  refine ⟨P ++ y ++ Q, j8, ?_, ⟨by simp; omega, ?_⟩, d8.mono (by omega)⟩
  · simp [g__law_tt_otherwise, fb__law_tt_otherwise, hXs, hls, h1, h2, h3, hwd, h4, h5, inD45 (show f ≠ 4 by omega) (show f ≠ 5 by omega), show ¬ f < 4 by omega, show ¬ f = 6 by omega, show ¬ f = 7 by omega, show ¬ f = 8 by omega, show ¬ f = 9 by omega, show ¬ f < 10 by omega, show X.length ≤ 16777216 by omega, e6, e7, e8, hs1, hs2, show P.length + y.length ≤ 16777216 by omega, show P.length + y.length + Q.length ≤ 16777216 by omega]
  · have := wsOf_cnt (P ++ y ++ Q)
    rw [cb_app, cb_app] at this
    omega
theorem e_otherwise {jar : List D} {k : Nat} {X : Str} {ws : List Str} (hj : J k jar) (hk : k ≤ 800000000) (hX : TxOk X ws) (hXl : X.length ≤ 40000) :
    ∃ (T : Str) (jar' : List D), g__law_tt_otherwise [none, some (.str X)] jar = .ok (.dat (.str T)) jar' ∧ askT T ∧ J (k + 12) jar' := by
  obtain ⟨f, p, q, v, A, B, C, E, j1, j2, j3, j4, j5, c⟩ := e_ctx hj hk hX hXl
  have f0 := c.f0
  have f1 := c.f1
  have hf : f < 4 ∨ f = 4 ∨ f = 5 ∨ f = 6 ∨ f = 7 ∨ f = 8 ∨ f = 9 ∨ 10 ≤ f := by omega
  rcases hf with h | h | h | h | h | h | h | h
  · exact ot_lt c h
  · exact ot_4 c h
  · exact ot_5 c h
  · exact ot_6 c h
  · exact ot_7 c h
  · exact ot_8 c h
  · exact ot_9 c h
  · exact ot_10 c h
end K78

set_option maxRecDepth 100000
set_option maxHeartbeats 4000000
/-! PL29: bent ones -/
namespace K78
open PySem PySem.Spec PyProof.Rows L2 LamX DL
mutual
def nsz : D → Nat
  | .tuple ds => 1 + nszs ds
  | .list ds => 1 + nszs ds
  | _ => 1
def nszs : List D → Nat
  | [] => 0
  | d :: ds => nsz d + nszs ds
end
theorem nszs_app : ∀ a b : List D, nszs (a ++ b) = nszs a + nszs b
  | [], b => by simp [nszs]
  | x :: a, b => by simp [nszs, nszs_app a b]; omega
theorem dep_app : ∀ a b : List D, PyData.depthAll (a ++ b) = max (PyData.depthAll a) (PyData.depthAll b)
  | [], b => by simp [PyData.depthAll]
  | x :: a, b => by simp only [List.cons_append, PyData.depthAll, dep_app a b]; omega
theorem nsz_pos (d : D) : 1 ≤ nsz d := by cases d <;> simp [nsz]
theorem cnt_nsz : ∀ (n : Nat) (d : D), sizeOf d < n → cnt d ≤ nsz d
  | 0, d, h => by omega
  | n + 1, d, h => by
    unfold cnt
    split
    · rename_i w x
      have := cnt_nsz n x (by simp at h; omega)
      simp only [nsz, nszs]; omega
    · rename_i w x y
      have := cnt_nsz n x (by simp at h; omega)
      have := cnt_nsz n y (by simp at h; omega)
      simp only [nsz, nszs]; omega
    · exact nsz_pos d
theorem cnt_le (d : D) : cnt d ≤ nsz d := cnt_nsz _ d (Nat.lt_succ_self _)
inductive Ti : D → Prop
  | str (x : Str) : Ti (.str x)
  | int (i : Int) : Ti (.int i)
  | tup (ds : List D) (h : ∀ e ∈ ds, Ti e) (hl : ds.length ≤ 100) : Ti (.tuple ds)
theorem ti_toD : ∀ s : Sk, s.ok → Ti s.toD
  | .lf w, _ => .tup _ (by simp; exact .str w) (by simp)
  | .nm w n, _ => .tup _ (by simp; exact ⟨.str w, .int n⟩) (by simp)
  | .tw x, h => .tup _ (by simp; exact ⟨.str _, ti_toD x h⟩) (by simp)
  | .pr x y, h => .tup _ (by simp; exact ⟨.str _, ti_toD x h.1, ti_toD y h.2⟩) (by simp)
  | .pt w x ks, h => .tup _ (by
      simp
      refine ⟨.str w, ti_toD x h.1, .tup _ (fun e he => ?_) (by have := h.2.2.1; simp; omega)⟩
      obtain ⟨i, _, rfl⟩ := List.mem_map.mp he
      exact .int i) (by simp)
theorem nszs_ints (ks : List Int) : nszs (ks.map PyData.int) = ks.length := by
  induction ks with
  | nil => rfl
  | cons k ks ih => simp [nszs, nsz, ih]; omega
theorem nsz_toD : ∀ s : Sk, s.ok → nsz s.toD ≤ 17 * s.sz
  | .lf w, _ => by simp [Sk.toD, nsz, nszs, Sk.sz]
  | .nm w n, _ => by simp [Sk.toD, nsz, nszs, Sk.sz]
  | .tw x, h => by have := nsz_toD x h; simp [Sk.toD, nsz, nszs, Sk.sz]; omega
  | .pr x y, h => by have := nsz_toD x h.1; have := nsz_toD y h.2; simp [Sk.toD, nsz, nszs, Sk.sz]; omega
  | .pt w x ks, h => by have := nsz_toD x h.1; have := h.2.2.1; simp [Sk.toD, nsz, nszs, Sk.sz, nszs_ints]; omega
/-- what may come of it -/
def Bt (d d' : D) : Prop := nsz d' ≤ 2 * nsz d + 10 ∧ d'.depth ≤ d.depth + 1
theorem at_tup {ds : List D} {p : Nat} (hp : p < ds.length) : nszs (ds.take p) + nsz (ds[p]'hp) + nszs (ds.drop (p + 1)) = nszs ds ∧ PyData.depthAll (ds.take p) ≤ PyData.depthAll ds ∧ PyData.depthAll (ds.drop (p + 1)) ≤ PyData.depthAll ds ∧ (ds[p]'hp).depth ≤ PyData.depthAll ds ∧ ds.drop p = ds[p]'hp :: ds.drop (p + 1) := by
  have e : ds.drop p = ds[p]'hp :: ds.drop (p + 1) := List.drop_eq_getElem_cons hp
  have e2 : ds.take p ++ ds[p]'hp :: ds.drop (p + 1) = ds := by rw [← e]; exact List.take_append_drop p ds
  have h1 := congrArg nszs e2
  have h2 := congrArg PyData.depthAll e2
  rw [nszs_app] at h1
  rw [dep_app] at h2
  simp only [nszs, PyData.depthAll] at h1 h2
  exact ⟨by omega, by omega, by omega, by omega, e⟩
theorem e_bent : ∀ (n : Nat) {jar : List D} {k : Nat} {d : D}, J k jar → k + 4 * n ≤ 800000000 → Ti d → d.depth < n →
    ∃ (d' : D) (jar' : List D), g__law_sx_bent n [none, some d] jar = .ok (.dat d') jar' ∧ Bt d d' ∧ J (k + 4 * n) jar'
  | 0, _, _, d, _, _, _, h => by omega
  | n + 1, jar, k, d, hj, hk, ht, hd => by
    have ih := fun {jar : List D} {k : Nat} {d : D} => e_bent n (jar := jar) (k := k) (d := d)
    unfold g__law_sx_bent at ih ⊢
    cases ht with
    | str x =>
      obtain ⟨y, j1, h1, m1, d1⟩ := e_one hj (by omega) (ds := [.str ("order" : Str), .str ("nest" : Str), .str ("span" : Str), .str ("far" : Str), .str ("rank" : Str), .str ("dial" : Str), .str ("twin" : Str), .str ("product" : Str), .str ("part" : Str), .str ("lump" : Str), .str ("" : Str), .none]) (by simp) (by simp)
      refine ⟨y, j1, by simp [q_bent, fb__law_sx_bent, h1], ?_, d1.mono (by omega)⟩
      simp only [List.mem_cons, List.not_mem_nil, or_false] at m1
      rcases m1 with h | h | h | h | h | h | h | h | h | h | h | h <;> subst h <;> exact ⟨by simp [nsz], by simp⟩
    | int i =>
      obtain ⟨y, j1, h1, m1, d1⟩ := e_one hj (by omega) (ds := [.int (i + 1), .int (i - 1), .int 0, .int 12, .int 13, .int (-1), .bool true, .none, .str ("1" : Str), .tuple [.int i]]) (by simp) (by simp)
      refine ⟨y, j1, by simp [q_bent, fb__law_sx_bent, h1], ?_, d1.mono (by omega)⟩
      simp only [List.mem_cons, List.not_mem_nil, or_false] at m1
      rcases m1 with h | h | h | h | h | h | h | h | h | h <;> subst h <;> exact ⟨by simp [nsz, nszs], by simp [PyData.depth, PyData.depthAll]⟩
    | tup ds h hl =>
      have hone : ∀ {jar : List D} {k : Nat}, J k jar → k ≤ 900000000 → ∃ (y : D) (j1 : List D), g__law_one [none, some (.list [.none, .tuple [], .str ("order" : Str), .tuple [.str ("order" : Str)], .list ds, .tuple [.str ("far" : Str)], .tuple [.str ("dial" : Str), .int 13], .tuple [.int 0, .int 1], .int 5])] jar = .ok (.dat y) j1 ∧ Bt (.tuple ds) y ∧ J (k + 1) j1 := by
        intro jar k hj hk
        obtain ⟨y, j1, h1, m1, d1⟩ := e_one hj (by omega) (ds := [.none, .tuple [], .str ("order" : Str), .tuple [.str ("order" : Str)], .list ds, .tuple [.str ("far" : Str)], .tuple [.str ("dial" : Str), .int 13], .tuple [.int 0, .int 1], .int 5]) (by simp) (by simp)
        refine ⟨y, j1, h1, ?_, d1⟩
        simp only [List.mem_cons, List.not_mem_nil, or_false] at m1
        rcases m1 with h | h | h | h | h | h | h | h | h <;> subst h <;> refine ⟨by simp [nsz, nszs] <;> omega, by simp [PyData.depth, PyData.depthAll] <;> omega⟩
      by_cases c0 : ds = []
      · subst c0
        obtain ⟨y, j1, h1, m1, d1⟩ := hone hj (by omega)
        exact ⟨y, j1, by simp [q_bent, fb__law_sx_bent, h1], m1, d1.mono (by omega)⟩
      · obtain ⟨r, j1, h1, r0, r1, d1⟩ := e_take hj (by omega) (n := 9) (by omega) (by omega)
        by_cases c1 : r = 0
        · obtain ⟨y, j2, h2, m2, d2⟩ := hone d1 (by omega)
          exact ⟨y, j2, by simp [q_bent, fb__law_sx_bent, c0, h1, c1, h2], m2, d2.mono (by omega)⟩
        · have hpos : 0 < ds.length := List.length_pos_iff.mpr c0
          obtain ⟨p, j2, h2, p0, p1, d2⟩ := e_take d1 (by omega) (n := (ds.length : Int)) (by omega) (by omega)
          obtain ⟨f, j3, h3, f0, f1, d3⟩ := e_take d2 (by omega) (n := 8) (by omega) (by omega)
          obtain ⟨p, rfl⟩ := Int.eq_ofNat_of_zero_le p0
          have hp : p < ds.length := by omega
          have ⟨z1, z2, z3, z4, z5⟩ := at_tup hp
          rw [dep_tup] at hd
          have hdt : PyData.depth (.tuple ds) = PyData.depthAll ds + 1 := dep_tup
          by_cases c2 : f = 0
          · refine ⟨.tuple (ds.take p ++ ds.drop (p + 1)), j3, ?_, ⟨?_, ?_⟩, d3.mono (by omega)⟩
            · simp [q_bent, fb__law_sx_bent, c0, h1, c1, h2, h3, c2, show min p ds.length + (ds.length - (p + 1)) ≤ 16777216 by omega]
            · simp only [nsz, nszs_app]; omega
            · rw [dep_tup, dep_app]; omega
          · by_cases c3 : f = 1
            · refine ⟨.tuple (ds ++ (ds.drop p).take 1), j3, ?_, ⟨?_, ?_⟩, d3.mono (by omega)⟩
              · subst c3
                simp [q_bent, fb__law_sx_bent, c0, h1, c1, h2, h3, show ds.length + min 1 (ds.length - p) ≤ 16777216 by omega]
              · rw [z5]; simp only [nsz, nszs_app, nszs, List.take_succ_cons, List.take_zero]; omega
              · rw [z5, dep_tup, dep_app]; simp only [PyData.depthAll, List.take_succ_cons, List.take_zero]; omega
            · obtain ⟨y, j4, h4, m4, d4⟩ := ih d3 (by omega) (h _ (List.getElem_mem hp)) (by omega)
              refine ⟨.tuple (ds.take p ++ y :: ds.drop (p + 1)), j4, ?_, ⟨?_, ?_⟩, d4.mono (by omega)⟩
              · have hat : atI ds (p : Int) = some (ds[p]'hp) := by rw [at_nat]; simp [hp]
                have hlt : min p ds.length = p := by omega
                simp [q_bent, fb__law_sx_bent, c0, h1, c1, h2, h3, c2, c3, hat, h4, hlt, show p ≤ 16777215 by omega, show p + 1 + (ds.length - (p + 1)) ≤ 16777216 by omega]
              · simp only [nsz, nszs_app, nszs]; have := m4.1; omega
              · rw [dep_tup, dep_app]; simp only [PyData.depthAll]; have := m4.2; omega
end K78

set_option maxRecDepth 100000
set_option maxHeartbeats 8000000
/-! PL30: planted ones -/
namespace K78
open PySem PySem.Spec PyProof.Rows L2 LamX DL
theorem repl_len (a : Str) (n : Nat) : (repS a n).length = n * a.length := by
  rw [len_tl, len_tl]
  show (List.replicate n a.cps.toList).flatten.toArray.toList.length = _
  simp [List.length_flatten]
theorem ask_short {T : Str} (h : T.length ≤ 199) : askT T := by
  have h1 := wsOf_cnt T
  have h2 : cb T ≤ T.cps.toList.length := List.count_le_length
  rw [← len_tl] at h2
  exact ⟨by omega, by omega⟩
theorem leaf_len {s : Sk} (h : s.ok) (hd : s.deep = 1) : s.txt.length ≤ 7 := by
  cases s with
  | lf w => simp only [Sk.txt, Sk.wds, join_one]; have := isLf_len h; omega
  | nm w n =>
    have := isNm_len h.1
    have := numS_len (nm_bd h).1 (nm_bd h).2
    simp only [Sk.txt, Sk.wds]
    rw [join_cons (by simp), join_one]
    simp only [str_len_app, show (" " : Str).length = 1 from rfl]; omega
  | tw x => simp only [Sk.deep] at hd; have := deep_pos x; omega
  | pr x y => simp only [Sk.deep] at hd; have := deep_pos x; omega
  | pt w x ks => simp only [Sk.deep] at hd; have := deep_pos x; omega
/-- a thing that is planted -/
theorem planted_thing {s : Sk} (h : s.ok) (hd : s.deep ≤ 21) (hz : s.sz ≤ 300) : g__law_sx_thing_right [some s.toD] [] = .ok (.dat (.bool true)) [] ∧ g__law_tt_sketch 24 [some s.toD] [] = .ok (.dat (.str s.txt)) [] ∧ g__law_sx_text_right [some (.str s.txt)] [] = .ok (.dat (.bool true)) [] := by
  have hc := cnt_toD s
  have hdp := dep_toD s
  have hl := txt_len h
  refine ⟨e_thing_right (by omega) (by omega), e_tsk 24 s h (by omega) (by omega), e_text_right (by omega) fun s2 r2 hs => ?_⟩
  have := (rdT_txt h (by omega)).1
  rw [this] at hs
  cases hs
  omega
theorem fComp_none {bd : D → AS → Option AS} {t : AS → Rs Bool} {f : AS → Rs D} {vs : List Nat} (ds : List D) (S : AS)
    (h : ∀ d ∈ ds, ∃ S1 S2, bd d S = some S1 ∧ t S1 = .ok false S2 ∧ wipeS S2 vs = S) : fComp bd t f vs ds S [] = .ok [] S := by
  induction ds with
  | nil => rfl
  | cons d ds ih =>
    obtain ⟨S1, S2, h1, h2, h3⟩ := h d (by simp)
    simp only [fComp, h1, h2, h3]
    exact ih fun e he => h e (by simp [he])
theorem kJoin_seven {m : Nat} {S : AS} (h : m ≤ 20) : kJoin (.str ("," : Str)) (.list (List.replicate m (.str ("7" : Str)))) S = .ok (.dat (.str (Txt.join "," (List.replicate m "7")))) S := by
  have := kJoinL (a := ("," : Str)) (ys := List.replicate m "7") (S := S) (by
    rw [List.map_replicate, List.sum_replicate_nat, List.length_replicate, show ("7" : Str).length = 1 from rfl, show ("," : Str).length = 1 from rfl]; omega)
  rw [List.map_replicate] at this
  exact this
end K78

set_option maxRecDepth 100000
set_option maxHeartbeats 8000000
/-! PL31: planted ones, in data -/
namespace K78
open PySem PySem.Spec PyProof.Rows L2 LamX DL
def nmF (i : Nat) : Str := numS (i : Int)
def nmFD (i : Nat) : D := .str (nmF i)
theorem kJoin_nums {m : Nat} {S : AS} (h : m ≤ 13) : kJoin (.str ("," : Str)) (.list ((List.range m).map nmFD)) S = .ok (.dat (.str (Txt.join "," ((List.range m).map nmF)))) S := by
  have e : ((List.range m).map nmFD) = ((List.range m).map nmF).map PyData.str := by rw [List.map_map]; rfl
  rw [e]
  refine kJoinL ?_
  rw [List.length_map, List.length_range, show ("," : Str).length = 1 from rfl]
  have : ∀ n, n ≤ 13 → (((List.range n).map nmF).map (·.length)).sum ≤ 2 * n := by
    intro n
    induction n with
    | zero => intro _; simp
    | succ n ih =>
      intro hn
      have := ih (by omega)
      have : (nmF n).length ≤ 2 := numS_len (n := (n : Int)) (by omega) (by omega)
      rw [List.range_succ]
      simp only [List.map_append, List.map_cons, List.map_nil, List.sum_append, List.sum_cons, List.sum_nil]
      omega
  have := this m h
  omega
theorem join_nums_len {m : Nat} (h : m ≤ 13) : (Txt.join "," ((List.range m).map nmF)).length ≤ 3 * 13 := by
  have : m = 0 ∨ m = 1 ∨ m = 2 ∨ m = 3 ∨ m = 4 ∨ m = 5 ∨ m = 6 ∨ m = 7 ∨ m = 8 ∨ m = 9 ∨ m = 10 ∨ m = 11 ∨ m = 12 ∨ m = 13 := by omega
  rcases this with h | h | h | h | h | h | h | h | h | h | h | h | h | h <;> subst h <;> decide +kernel
theorem e_planted {jar : List D} {k : Nat} (hj : J k jar) (hk : k ≤ 700000000) : ∃ jar', g__law_sx_planted_right [none] jar = .ok (.dat (.bool true)) jar' := by
  obtain ⟨s1, j1, h1, a1, b1, c1, d1⟩ := e_deep_drawn (m := 20) hj (by omega) (by omega) (by omega)
  obtain ⟨s2, j2, h2, a2, b2, c2, d2⟩ := e_deep_drawn (m := 21) d1 (by omega) (by omega) (by omega)
  obtain ⟨s3, h3, a3, b3, c3, e3⟩ := e_wide 11 100 (by omega) (by omega)
  obtain ⟨s4, h4, a4, b4, c4, e4⟩ := e_wide 11 101 (by omega) (by omega)
  have p1 := planted_thing a1 (by omega) (by omega)
  have p2 := planted_thing a2 (by omega) (by omega)
  have p3 := planted_thing a3 (by omega) (by omega)
  have p4 := planted_thing a4 (by omega) (by omega)
  simp at h1 h2 h3 h4
  obtain ⟨m, j3, h5, m5, d3⟩ := e_one d2 (by omega) (ds := [.int 20, .int 21]) (by simp) (by simp)
  obtain ⟨dl, j4, h6, ⟨sl, rfl, al, bl, cl_⟩, d4⟩ := e_leaf_drawn d3 (by omega)
  have h7 := e_tsk 24 sl al (by omega) (by omega)
  have hL := leaf_len al bl
  generalize sl.txt = L at h7 hL
  refine ⟨j4, ?_⟩
  have q1 : ∀ c C : Nat, c ≤ 1000 → 16000000 ≤ C → (c + L.length ≤ C) = True := fun c C h h' => eq_true (by omega)
  have q2 : ∀ C : Nat, 16000000 ≤ C → (L.length ≤ C) = True := fun C h => eq_true (by omega)
  have q3 : ∀ c C : Nat, c ≤ 1000 → 16000000 ≤ C → (L.length + c + L.length ≤ C) = True := fun c C h h' => eq_true (by omega)
  have q4 : ∀ c d C : Nat, c ≤ 1000 → d ≤ 1000 → 16000000 ≤ C → (L.length + c + L.length + d + L.length ≤ C) = True := fun c d C h h' h2 => eq_true (by omega)
  have q5 : ∀ c d C : Nat, c ≤ 1000 → d ≤ 1000 → 16000000 ≤ C → (c + L.length + d ≤ C) = True := fun c d C h h' h2 => eq_true (by omega)
  have hfin : ∀ (ls : List D) (S : AS), (∀ d ∈ ls, ∃ T : Str, d = .str T ∧ T.length ≤ 199) → ∀ d ∈ ls, ∃ T : Str, d = .str T ∧ g__law_sx_text_right [some (.str T)] [] = .ok (.dat (.bool true)) [] := fun ls S h d hd => by
    obtain ⟨T, e, hT⟩ := h d hd
    exact ⟨T, e, askT_ok (ask_short hT)⟩
  have n12 := join_nums_len (m := 12) (by omega)
  have n13 := join_nums_len (m := 13) (by omega)
  simp only [List.mem_cons, List.not_mem_nil, or_false] at m5
  rcases m5 with rfl | rfl
  · have kJ7 : ∀ S, kJoin (.str ("," : Str)) (.list [.str ("7" : Str), .str ("7" : Str), .str ("7" : Str), .str ("7" : Str), .str ("7" : Str), .str ("7" : Str), .str ("7" : Str), .str ("7" : Str), .str ("7" : Str), .str ("7" : Str), .str ("7" : Str), .str ("7" : Str), .str ("7" : Str)]) S = .ok (.dat (.str (Txt.join "," [("7" : Str), ("7" : Str), ("7" : Str), ("7" : Str), ("7" : Str), ("7" : Str), ("7" : Str), ("7" : Str), ("7" : Str), ("7" : Str), ("7" : Str), ("7" : Str), ("7" : Str)]))) S := fun S => kJoin_seven (m := 13) (by omega)
    simp [g__law_sx_planted_right, fb__law_sx_planted_right, h1, h2, h3, h4, gFor, p1.1, p1.2.1, p1.2.2, p2.1, p2.2.1, p2.2.2, p3.1, p3.2.1, p3.2.2, p4.1, p4.2.1, p4.2.2, h5, h6, h7, repl_len, show ("( " : Str).length = 2 from rfl, show (" )" : Str).length = 2 from rfl, show (" twin" : Str).length = 5 from rfl, show (" part 0" : Str).length = 7 from rfl, show (" lump " : Str).length = 6 from rfl, show ("\n" : Str).length = 1 from rfl, show (" part " : Str).length = 6 from rfl, show (" " : Str).length = 1 from rfl, q1, q2, q3, q4, q5, kRepL, kJ7, appL, extL, show ("7" : Str).length = 1 from rfl, show ("," : Str).length = 1 from rfl, rg_int, show (Txt.join ("," : Str) [("7" : Str), ("7" : Str), ("7" : Str), ("7" : Str), ("7" : Str), ("7" : Str), ("7" : Str), ("7" : Str), ("7" : Str), ("7" : Str), ("7" : Str), ("7" : Str), ("7" : Str)]).length = 25 from by decide +kernel]
    rw [range0, fComp_allM atD nmFD]
    rotate_left
    · intro i hi
      refine ⟨_, _, rfl, rfl, ?_⟩
      have := List.mem_range.mp hi
      have hlog : i.log2 < 1920 := by
        have := log_small (n := (i : Int)) (by omega) (by omega)
        simpa using this
      simp [atD, nmFD, nmF, hlog]
    · simp
    have hkj := fun S => kJoin_nums (m := 12) (S := S) (by omega)
    generalize hJ : Txt.join "," ((List.range 12).map nmF) = Jn at *
    generalize hR : (List.range 12).map nmFD = Rn at *
    have q6 : ∀ c C : Nat, c ≤ 1000 → 16000000 ≤ C → (L.length + c + Jn.length ≤ C) = True := fun c C h h' => eq_true (by omega)
    have hkj2 : ∀ S, kJoin (.str ("," : Str)) (.list Rn) S = .ok (.dat (.str Jn)) S := hkj
    clear hkj
    simp [hkj2, repl_len, show ("( " : Str).length = 2 from rfl, show (" )" : Str).length = 2 from rfl, show (" twin" : Str).length = 5 from rfl, show (" part 0" : Str).length = 7 from rfl, show (" lump " : Str).length = 6 from rfl, show ("\n" : Str).length = 1 from rfl, show (" part " : Str).length = 6 from rfl, show (" " : Str).length = 1 from rfl, show (" * ( " : Str).length = 5 from rfl, show (" twin ) part 0 * " : Str).length = 17 from rfl, show (" part 1,0" : Str).length = 9 from rfl, show (" lump 0,1,1" : Str).length = 11 from rfl, show (" lump 0,13" : Str).length = 10 from rfl, show (" part 0,0" : Str).length = 9 from rfl, show (" part" : Str).length = 5 from rfl, show (" *" : Str).length = 2 from rfl, q1, q2, q3, q4, q5, q6, appL, extL]
    rw [fComp_none]
    · simp
    · intro d hd
      have hT : ∃ T : Str, d = .str T ∧ T.length ≤ 199 := by
        simp only [List.mem_cons, List.not_mem_nil, or_false] at hd
        rcases hd with h | h | h | h | h | h | h | h | h | h | h | h | h | h | h | h | h | h | h | h | h | h | h | h | h <;> exact ⟨_, h, by simp only [str_len_app, repl_len, show ("( " : Str).length = 2 from rfl, show (" )" : Str).length = 2 from rfl, show (" twin" : Str).length = 5 from rfl, show (" part 0" : Str).length = 7 from rfl, show (" lump " : Str).length = 6 from rfl, show ("\n" : Str).length = 1 from rfl, show (" part " : Str).length = 6 from rfl, show (" " : Str).length = 1 from rfl, show (" * ( " : Str).length = 5 from rfl, show (" twin ) part 0 * " : Str).length = 17 from rfl, show (" part 1,0" : Str).length = 9 from rfl, show (" lump 0,1,1" : Str).length = 11 from rfl, show (" lump 0,13" : Str).length = 10 from rfl, show (" part 0,0" : Str).length = 9 from rfl, show (" part" : Str).length = 5 from rfl, show (" *" : Str).length = 2 from rfl, show ("" : Str).length = 0 from rfl, show ("( )" : Str).length = 3 from rfl, show ("*" : Str).length = 1 from rfl, show ("twin" : Str).length = 4 from rfl, show ("far 0" : Str).length = 5 from rfl, show ("far 13" : Str).length = 6 from rfl, show ("dial 13" : Str).length = 7 from rfl, show (Txt.join ("," : Str) [("7" : Str), ("7" : Str), ("7" : Str), ("7" : Str), ("7" : Str), ("7" : Str), ("7" : Str), ("7" : Str), ("7" : Str), ("7" : Str), ("7" : Str), ("7" : Str), ("7" : Str)]).length = 25 from by decide +kernel]; omega⟩
      obtain ⟨T, rfl, hT⟩ := hT
      have he := askT_ok (ask_short hT)
      refine ⟨_, _, rfl, (by simp [he]; exact rfl), ?_⟩
      simp
  · have kJ7 : ∀ S, kJoin (.str ("," : Str)) (.list [.str ("7" : Str), .str ("7" : Str), .str ("7" : Str), .str ("7" : Str), .str ("7" : Str), .str ("7" : Str), .str ("7" : Str), .str ("7" : Str), .str ("7" : Str), .str ("7" : Str), .str ("7" : Str), .str ("7" : Str), .str ("7" : Str), .str ("7" : Str)]) S = .ok (.dat (.str (Txt.join "," [("7" : Str), ("7" : Str), ("7" : Str), ("7" : Str), ("7" : Str), ("7" : Str), ("7" : Str), ("7" : Str), ("7" : Str), ("7" : Str), ("7" : Str), ("7" : Str), ("7" : Str), ("7" : Str)]))) S := fun S => kJoin_seven (m := 14) (by omega)
    simp [g__law_sx_planted_right, fb__law_sx_planted_right, h1, h2, h3, h4, gFor, p1.1, p1.2.1, p1.2.2, p2.1, p2.2.1, p2.2.2, p3.1, p3.2.1, p3.2.2, p4.1, p4.2.1, p4.2.2, h5, h6, h7, repl_len, show ("( " : Str).length = 2 from rfl, show (" )" : Str).length = 2 from rfl, show (" twin" : Str).length = 5 from rfl, show (" part 0" : Str).length = 7 from rfl, show (" lump " : Str).length = 6 from rfl, show ("\n" : Str).length = 1 from rfl, show (" part " : Str).length = 6 from rfl, show (" " : Str).length = 1 from rfl, q1, q2, q3, q4, q5, kRepL, kJ7, appL, extL, show ("7" : Str).length = 1 from rfl, show ("," : Str).length = 1 from rfl, rg_int, show (Txt.join ("," : Str) [("7" : Str), ("7" : Str), ("7" : Str), ("7" : Str), ("7" : Str), ("7" : Str), ("7" : Str), ("7" : Str), ("7" : Str), ("7" : Str), ("7" : Str), ("7" : Str), ("7" : Str), ("7" : Str)]).length = 27 from by decide +kernel]
    rw [range0, fComp_allM atD nmFD]
    rotate_left
    · intro i hi
      refine ⟨_, _, rfl, rfl, ?_⟩
      have := List.mem_range.mp hi
      have hlog : i.log2 < 1920 := by
        have := log_small (n := (i : Int)) (by omega) (by omega)
        simpa using this
      simp [atD, nmFD, nmF, hlog]
    · simp
    have hkj := fun S => kJoin_nums (m := 13) (S := S) (by omega)
    generalize hJ : Txt.join "," ((List.range 13).map nmF) = Jn at *
    generalize hR : (List.range 13).map nmFD = Rn at *
    have q6 : ∀ c C : Nat, c ≤ 1000 → 16000000 ≤ C → (L.length + c + Jn.length ≤ C) = True := fun c C h h' => eq_true (by omega)
    have hkj2 : ∀ S, kJoin (.str ("," : Str)) (.list Rn) S = .ok (.dat (.str Jn)) S := hkj
    clear hkj
    simp [hkj2, repl_len, show ("( " : Str).length = 2 from rfl, show (" )" : Str).length = 2 from rfl, show (" twin" : Str).length = 5 from rfl, show (" part 0" : Str).length = 7 from rfl, show (" lump " : Str).length = 6 from rfl, show ("\n" : Str).length = 1 from rfl, show (" part " : Str).length = 6 from rfl, show (" " : Str).length = 1 from rfl, show (" * ( " : Str).length = 5 from rfl, show (" twin ) part 0 * " : Str).length = 17 from rfl, show (" part 1,0" : Str).length = 9 from rfl, show (" lump 0,1,1" : Str).length = 11 from rfl, show (" lump 0,13" : Str).length = 10 from rfl, show (" part 0,0" : Str).length = 9 from rfl, show (" part" : Str).length = 5 from rfl, show (" *" : Str).length = 2 from rfl, q1, q2, q3, q4, q5, q6, appL, extL]
    rw [fComp_none]
    · simp
    · intro d hd
      have hT : ∃ T : Str, d = .str T ∧ T.length ≤ 199 := by
        simp only [List.mem_cons, List.not_mem_nil, or_false] at hd
        rcases hd with h | h | h | h | h | h | h | h | h | h | h | h | h | h | h | h | h | h | h | h | h | h | h | h | h <;> exact ⟨_, h, by simp only [str_len_app, repl_len, show ("( " : Str).length = 2 from rfl, show (" )" : Str).length = 2 from rfl, show (" twin" : Str).length = 5 from rfl, show (" part 0" : Str).length = 7 from rfl, show (" lump " : Str).length = 6 from rfl, show ("\n" : Str).length = 1 from rfl, show (" part " : Str).length = 6 from rfl, show (" " : Str).length = 1 from rfl, show (" * ( " : Str).length = 5 from rfl, show (" twin ) part 0 * " : Str).length = 17 from rfl, show (" part 1,0" : Str).length = 9 from rfl, show (" lump 0,1,1" : Str).length = 11 from rfl, show (" lump 0,13" : Str).length = 10 from rfl, show (" part 0,0" : Str).length = 9 from rfl, show (" part" : Str).length = 5 from rfl, show (" *" : Str).length = 2 from rfl, show ("" : Str).length = 0 from rfl, show ("( )" : Str).length = 3 from rfl, show ("*" : Str).length = 1 from rfl, show ("twin" : Str).length = 4 from rfl, show ("far 0" : Str).length = 5 from rfl, show ("far 13" : Str).length = 6 from rfl, show ("dial 13" : Str).length = 7 from rfl, show (Txt.join ("," : Str) [("7" : Str), ("7" : Str), ("7" : Str), ("7" : Str), ("7" : Str), ("7" : Str), ("7" : Str), ("7" : Str), ("7" : Str), ("7" : Str), ("7" : Str), ("7" : Str), ("7" : Str), ("7" : Str)]).length = 27 from by decide +kernel]; omega⟩
      obtain ⟨T, rfl, hT⟩ := hT
      have he := askT_ok (ask_short hT)
      refine ⟨_, _, rfl, (by simp [he]; exact rfl), ?_⟩
      simp
end K78

set_option maxRecDepth 100000
set_option maxHeartbeats 8000000
/-! PL32: the law -/
namespace K78
open PySem PySem.Spec PyProof.Rows L2 LamX DL
theorem e_read_bad {d : D} (h : ∀ T, d ≠ .str T) : g_read_sketch [some d] [] = .exc "BadText" (.int (-1)) [] := by
  cases d with
  | str T => exact absurd rfl (h T)
  | _ => simp [g_read_sketch, fb_read_sketch, g_lines_of, fb_lines_of, g_asked_text, fb_asked_text]
theorem e_read_long {T : Str} (h : T.length = 1000001) : g_read_sketch [some (.str T)] [] = .exc "TooMany" (.int 1000001) [] := by
  simp [g_read_sketch, fb_read_sketch, g_lines_of, fb_lines_of, g_asked_text, fb_asked_text, h]
theorem bd8 : Bd 8 = 10220 := by decide +kernel
def inB : AS → Out := (gSeq (gSet 7 (fzF (fFn g__law_tt_otherwise 1 (lLoan 1 (lCons (fzF (fIf (toBF (fOp kLt (fVar 6) (fC (.int 3)))) (inF (fVar 4)) (inF (fVar 5)))) lNil)))))
  (gSeq (gIf (fOr (fNot (fTru (fzF (fFn g__law_sx_text_right 0 (lCons (fVar 4) lNil))))) (fNot (fTru (fzF (fFn g__law_sx_text_right 0 (lCons (fVar 7) lNil)))))) (gSeq (gRet (inF (fC (.bool false))))
  gNx) gNx)
  (gSeq (gIf (fNot (fTru (fzF (fFn g__law_sx_thing_right 0 (lCons (fzF (fIf (toBF (fOp kEq (fVar 6) (fC (.int 0)))) (inF (fVar 3)) (fFn (g__law_sx_bent 30) 1 (lLoan 1 (lCons (fVar 3) lNil))))) lNil))))) (gSeq (gRet (inF (fC (.bool false))))
  gNx) gNx)
  gNx)))
theorem in_loop {k : Nat} {sc gd : D} {s : Sk} {M : Str} {wsM : List Str} {jr : List D} (hj : J k jr) (hk : k ≤ 700000000) (h : s.ok) (hd : s.deep ≤ 6) (hM : TxOk M wsM) :
    ∃ jr', gFor (bName 6) inB [6, 7] (rangeD 0 5) [some (.dat sc), some (.own jr), some (.dat gd), some (.dat s.toD), some (.dat (.str s.txt)), some (.dat (.str M)), none, none, none, none] =
      .nx [some (.dat sc), some (.own jr'), some (.dat gd), some (.dat s.toD), some (.dat (.str s.txt)), some (.dat (.str M)), none, none, none, none] ∧ J (k + 1000) jr' := by
  have hX := txOk_txt h hd
  have htr : g__law_sx_text_right [some (.str s.txt)] [] = .ok (.dat (.bool true)) [] := e_text_right (by have := hX.len; omega) fun s2 r2 hs => by
    have := (rdT_txt h (by omega)).1
    rw [this] at hs
    cases hs
    omega
  have hsz : s.sz ≤ 192 := by
    have h3 := (sz_le s).1
    have h4 := leaves_le (s := s)
    have a1 : 2 ^ (s.deep - 1) ≤ 2 ^ 5 := Nat.pow_le_pow_right (by omega) (by omega)
    have h5 : s.leaves * s.deep ≤ 32 * 6 := Nat.mul_le_mul (by omega) hd
    omega
  have hdp := dep_toD s
  have hth : g__law_sx_thing_right [some s.toD] [] = .ok (.dat (.bool true)) [] := e_thing_right (by have := cnt_toD s; omega) (by omega)
  obtain ⟨S', h1, h2⟩ := gFor_ex2 (bd := bName 6) (b := inB) (wp := [6, 7])
    (fun i S => ∃ jr, S = [some (.dat sc), some (.own jr), some (.dat gd), some (.dat s.toD), some (.dat (.str s.txt)), some (.dat (.str M)), none, none, none, none] ∧ J (k + 200 * i) jr) 5 (rangeD 0 5) 0
    [some (.dat sc), some (.own jr), some (.dat gd), some (.dat s.toD), some (.dat (.str s.txt)), some (.dat (.str M)), none, none, none, none] (by rw [rangeD_len]; omega) ⟨jr, rfl, hj⟩ (fun i S d hi hd2 hI => by
      obtain ⟨jr, rfl, g⟩ := hI
      obtain ⟨t, ht, rfl⟩ := mem_range hd2
      have hot : ∃ (T : Str) (jar' : List D), g__law_tt_otherwise [none, some (if t < 3 then .str s.txt else .str M)] jr = .ok (.dat (.str T)) jar' ∧ askT T ∧ J (k + 200 * i + 12) jar' := by
        by_cases c : t < 3
        · rw [if_pos c]; exact e_otherwise g (by omega) hX hX.len
        · rw [if_neg c]; exact e_otherwise g (by omega) hM hM.len
      obtain ⟨T, j2, e1, e2, e3⟩ := hot
      have e4 := askT_ok e2
      by_cases c0 : t = 0
      · subst c0
        simp at e1
        refine ⟨_, [some (.dat sc), some (.own j2), some (.dat gd), some (.dat s.toD), some (.dat (.str s.txt)), some (.dat (.str M)), some (.dat (.int 0)), some (.dat (.str T)), none, none], rfl, ?_, j2, by simp, e3.mono (by omega)⟩
        simp [inB, e1, e4, htr, hth]
      · obtain ⟨d', j3, f1, f2, f3⟩ := e_bent 30 e3 (by omega) (ti_toD s h) (by omega)
        have hn := nsz_toD s h
        have hth2 : g__law_sx_thing_right [some d'] [] = .ok (.dat (.bool true)) [] := e_thing_right (by have := cnt_le d'; have := f2.1; omega) (by have := f2.2; omega)
        refine ⟨_, [some (.dat sc), some (.own j3), some (.dat gd), some (.dat s.toD), some (.dat (.str s.txt)), some (.dat (.str M)), some (.dat (.int t)), some (.dat (.str T)), none, none], rfl, ?_, j3, by simp, f3.mono (by omega)⟩
        by_cases c : t < 3
        · rw [if_pos c] at e1
          simp [inB, c, c0, e1, e4, htr, f1, hth2, show (t : Int) < 3 by omega]
        · rw [if_neg c] at e1
          simp [inB, c, c0, e1, e4, htr, f1, hth2, show ¬ ((t : Int) < 3) by omega])
  obtain ⟨jr', rfl, g⟩ := h2
  exact ⟨jr', h1, by rw [rangeD_len] at g; exact g.mono (by omega)⟩
def outB : AS → Out := (gSeq (gSet 3 (fzF (fFn (g__law_tt_sketch_drawn 8) 1 (lLoan 1 (lCons (fzF (fFn g__law_one 1 (lLoan 1 (lCons (fzF (fLst (fCons (fC (.int 1)) (fCons (fC (.int 2)) (fCons (fC (.int 3)) (fCons (fC (.int 4)) (fCons (fC (.int 6)) fNil))))))) lNil)))) lNil)))))
  (gSeq (gSet 4 (fzF (fFn (g__law_tt_sketch 24) 0 (lCons (fVar 3) lNil))))
  (gSeq (gSet 5 (fzF (fFn g__law_tt_more_brackets 1 (lLoan 1 (lCons (fVar 4) lNil)))))
  (gSeq (gIf (fNot (fTru (fzF (fFn (g__law_tq_same 30) 0 (lCons (fHd (fzF (fFn g_read_sketch 0 (lCons (fVar 5) lNil)))) (lCons (fTup (fCons (fC (.str ("told" : Str))) (fCons (fVar 3) fNil))) lNil)))))) (gSeq (gRet (inF (fC (.bool false))))
  gNx) gNx)
  (gSeq (gForI (fRg1 (fC (.int 5))) (bName 6) inB [6, 7])
  gNx)))))
theorem out_loop {sc : D} {jr : List D} (hj : J 0 jr) :
    ∃ jr', gFor (bName 2) outB [2, 3, 4, 5, 6] (rangeD 0 10) [some (.dat sc), some (.own jr), none, none, none, none, none, none, none, none] =
      .nx [some (.dat sc), some (.own jr'), none, none, none, none, none, none, none, none] ∧ J 200000 jr' := by
  obtain ⟨S', h1, h2⟩ := gFor_ex2 (bd := bName 2) (b := outB) (wp := [2, 3, 4, 5, 6])
    (fun i S => ∃ jr, S = [some (.dat sc), some (.own jr), none, none, none, none, none, none, none, none] ∧ J (20000 * i) jr) 10 (rangeD 0 10) 0
    [some (.dat sc), some (.own jr), none, none, none, none, none, none, none, none] (by rw [rangeD_len]; omega) ⟨jr, rfl, hj⟩ (fun i S d hi hd2 hI => by
      obtain ⟨jr, rfl, g⟩ := hI
      obtain ⟨x, j1, e1, m1, d1⟩ := e_one g (by omega) (ds := [.int 1, .int 2, .int 3, .int 4, .int 6]) (by simp) (by simp)
      have hx : ∃ dp : Int, x = .int dp ∧ 1 ≤ dp ∧ dp ≤ 6 := by
        simp only [List.mem_cons, List.not_mem_nil, or_false] at m1
        rcases m1 with h | h | h | h | h <;> exact ⟨_, h, by omega, by omega⟩
      obtain ⟨dp, rfl, p1, p2⟩ := hx
      obtain ⟨s, j2, e2, hs, hdp, d2⟩ := e_drawn 8 d1 (by rw [bd8]; omega) (deep := dp) (by omega) (by omega)
      rw [bd8] at d2
      have hd6 : s.deep ≤ 6 := by omega
      have hsz : s.sz ≤ 192 ∧ s.leaves ≤ 32 := by
        have h3 := (sz_le s).1
        have h4 := leaves_le (s := s)
        have a1 : 2 ^ (s.deep - 1) ≤ 2 ^ 5 := Nat.pow_le_pow_right (by omega) (by omega)
        have h5 : s.leaves * s.deep ≤ 32 * 6 := Nat.mul_le_mul (by omega) hd6
        omega
      have e3 := e_tsk 24 s hs (by omega) (by omega)
      obtain ⟨M, j3, wsM, e4, hM, r1, r2, d3⟩ := e_more d2 (by omega) hs hd6
      have e5 := e_read (T := M) (by have := hM.len; omega)
      have hf : fnl (rdT M) = .told s [] := by
        rw [r1]
        simp only [fnl, endR]
        rw [if_neg (by omega)]
      rw [hf] at e5
      simp only [r2, if_true] at e5
      have hdt := dep_toD s
      have e6 := e_same 30 _ (pl_pair "told" (pl_toD s hs)) (by rw [dep_pair]; omega)
      obtain ⟨j4, e7, d4⟩ := in_loop (sc := sc) (gd := d) d3 (by omega) hs hd6 hM
      refine ⟨_, [some (.dat sc), some (.own j4), some (.dat d), some (.dat s.toD), some (.dat (.str s.txt)), some (.dat (.str M)), none, none, none, none], rfl, ?_, j4, by simp, d4.mono (by omega)⟩
      simp [outB, e1, e2, e3, e4, e5, e6, e7])
  obtain ⟨jr', rfl, g⟩ := h2
  exact ⟨jr', h1, by rw [rangeD_len] at g; exact g.mono (by omega)⟩
theorem kMul_gen {a R : Str} {n : Nat} {S : AS} (hR : repS a n = R) (h1 : n < 2 ^ 59) (h2 : a.length * n ≤ 16777216) : kMul (.str a) (.int (n : Int)) S = .ok (.dat (.str R)) S := by
  rw [k_mul2, if_pos]
  · rw [show ((n : Int)).toNat = n from rfl, hR]
  · simp only [Bool.and_eq_true, decide_eq_true_eq, p_small]
    refine ⟨⟨by omega, by omega⟩, ?_⟩
    rw [show ((n : Int)).toNat = n from rfl]
    exact h2
theorem b_ok {α β : Type} {a : α} {S : AS} {k : α → AS → Rs β} : (Rs.ok a S).bind k = k a S := rfl
theorem long_gen {a R : Str} {n : Nat} (hR : repS a n = R) (h1 : n = 1000001) (h2 : a.length = 1) (S : AS) :
    fHd (fzF (fFn g_read_sketch 0 (lCons (fzF (fOp kMul (fC (.str a)) (fC (.int (n : Int))))) lNil))) S = .ok (.tuple [.str ("TooMany" : Str), .int 1000001]) S := by
  have hm : fzF (fOp kMul (fC (.str a)) (fC (.int (n : Int)))) S = .ok (.str R) S := by
    rw [p_fzF, p_fOp, p_fC, b_ok, p_fC, b_ok, kMul_gen hR (by omega) (by rw [h2, h1]; omega)]
    rfl
  have hx : R.length = 1000001 := by rw [← hR, K78.repl_len, h2, h1]
  have h4 := e_read_long hx
  generalize fzF (fOp kMul (fC (.str a)) (fC (.int (n : Int)))) = G at hm ⊢
  simp [hm, h4]
def longF : AS → Rs D := fHd (fzF (fFn g_read_sketch 0 (lCons (fzF (fOp kMul (fC (.str ("x" : Str))) (fC (.int 1000001)))) lNil)))
theorem long_ok (S : AS) : longF S = .ok (.tuple [.str ("TooMany" : Str), .int 1000001]) S :=
  long_gen (a := "x") (n := 1000001) rfl rfl rfl S
def lawF : AS → Out := (gSeq (gSetO 1 (fFn g__law_pool 0 (lCons (fVar 0) lNil)))
    (gSeq (gForI (fRg1 (fC (.int 10))) (bName 2) outB [2, 3, 4, 5, 6])
    (gSeq (gSet 8 (fzF (fFn g__law_one 1 (lLoan 1 (lCons (fzF (fLst (fCons (fC .none) (fCons (fC (.int 5)) (fCons (fzF (fLst (fCons (fC (.str ("order" : Str))) fNil))) (fCons (fTup (fCons (fC (.str ("order" : Str))) fNil)) (fCons (fC (.bool true)) fNil))))))) lNil)))))
    (gSeq (gSetO 9 (fLst (fCons (fHd (fzF (fFn g_read_sketch 0 (lCons (fVar 8) lNil)))) fNil)))
    (gSeq (gApp 9 longF)
    (gSeq (gRet (inF (fAndV (fzF (fFn g__law_sx_planted_right 1 (lLoan 1 lNil))) (fzF (fFn (g__law_tq_same 30) 0 (lCons (fVar 9) (lCons (fzF (fLst (fCons (fTup (fCons (fC (.str ("BadText" : Str))) (fCons (fNeg (fC (.int 1))) fNil))) (fCons (fTup (fCons (fC (.str ("TooMany" : Str))) (fCons (fC (.int 1000001)) fNil))) fNil)))) lNil)))))))
    gNx))))))
theorem lawF_eq : fb_law = lawF := rfl
theorem law_gen {F : AS → Rs D} (hF : ∀ S, F S = .ok (.tuple [.str ("TooMany" : Str), .int 1000001]) S) (ns : List Int) (hl : ns.length ≤ 63) : finF [some (.list (ns.map PyData.int))] ((gSeq (gSetO 1 (fFn g__law_pool 0 (lCons (fVar 0) lNil)))
    (gSeq (gForI (fRg1 (fC (.int 10))) (bName 2) outB [2, 3, 4, 5, 6])
    (gSeq (gSet 8 (fzF (fFn g__law_one 1 (lLoan 1 (lCons (fzF (fLst (fCons (fC .none) (fCons (fC (.int 5)) (fCons (fzF (fLst (fCons (fC (.str ("order" : Str))) fNil))) (fCons (fTup (fCons (fC (.str ("order" : Str))) fNil)) (fCons (fC (.bool true)) fNil))))))) lNil)))))
    (gSeq (gSetO 9 (fLst (fCons (fHd (fzF (fFn g_read_sketch 0 (lCons (fVar 8) lNil)))) fNil)))
    (gSeq (gApp 9 F)
    (gSeq (gRet (inF (fAndV (fzF (fFn g__law_sx_planted_right 1 (lLoan 1 lNil))) (fzF (fFn (g__law_tq_same 30) 0 (lCons (fVar 9) (lCons (fzF (fLst (fCons (fTup (fCons (fC (.str ("BadText" : Str))) (fCons (fNeg (fC (.int 1))) fNil))) (fCons (fTup (fCons (fC (.str ("TooMany" : Str))) (fCons (fC (.int 1000001)) fNil))) fNil)))) lNil)))))))
    gNx)))))) (S0 10 [some (.list (ns.map PyData.int))] [])) = .ok (.dat (.bool true)) [] := by
  obtain ⟨j0, h0, d0⟩ := e_pool hl
  obtain ⟨j1, h1, d1⟩ := out_loop (sc := .list (ns.map PyData.int)) d0
  obtain ⟨od, j2, h2, m2, d2⟩ := e_one d1 (by omega) (ds := [.none, .int 5, .list [.str ("order" : Str)], .tuple [.str ("order" : Str)], .bool true]) (by simp) (by simp)
  have h3 : g_read_sketch [some od] [] = .exc "BadText" (.int (-1)) [] := e_read_bad fun T e => by
    subst e; simp at m2
  obtain ⟨j3, h5⟩ := e_planted d2 (by omega)
  have h6 := e_same 30 (.list [.tuple [.str ("BadText" : Str), .int (-1)], .tuple [.str ("TooMany" : Str), .int 1000001]]) (.lst _ (by simp; exact ⟨pl_pair _ (.int _), pl_pair _ (.int _)⟩) (by simp)) (by simp [PyData.depth, PyData.depthAll])
  simp [h0, h1, h2, h3, hF, h5, h6, appL]
theorem law_main (ns : List Int) (hl : ns.length ≤ 63) : ∃ o, g_law [some (.list (ns.map PyData.int))] [] = .ok (.dat (.bool true)) o :=
  ⟨[], by
    unfold g_law
    rw [lawF_eq]
    exact law_gen long_ok ns hl⟩
end K78

set_option maxRecDepth 100000
set_option maxHeartbeats 0
namespace K78
open PySem PySem.Spec PyProof.Rows L2 LamX DL
instance tblI : Tbl := ⟨fun K => tfs.map fun p => ((He.cT K p).2, p.1 ++ ".<locals>." ++ "<lambda>")⟩
section
variable {P : Program} {w : World} {K : PySem.W.Frag} {h : Heap} {mg : Str → Option Value} {base : Heap}
theorem facts (X : K.In h) (G : h.Ns mainGlobals mg) (c : He.SaysX faL fnL tsL tfs exB w h K) (TBh : ∀ p ∈ tfs.map (He.cT K), TabB base mg p.1 p.2) :
    ∃ fd, FunD K "law" "law" (defArgs s_law) (defBody s_law) (defScope s_law) [] [] (He.ga K "law") fd ∧ FnOk P w K mg base (L2N.CX P w) 212 (He.ga K "law") fd ["script"] (spD K mg 1 g_law) := by
  have hf : ∀ (i : Nat) (x : Str), frees[i]? = some x → mg x = none := fun i x e => He.free_ok X G (c.t.d.facts (f := .free x) (List.mem_append_right _ (List.mem_map_of_mem (List.mem_of_getElem? e))))
  have gl : ∀ (i : Nat) (x : Str), gloL[i]? = some x → mg x = some (.ref (He.ga K x)) := fun i x e => He.glo_ok X G (c.t.d.facts (f := .glo x) (List.mem_append_left _ (List.mem_map_of_mem (List.mem_of_getElem? e))))
  have ex : ∀ (i : Nat) (b : Bool), (exL K)[i]? = some b → b = true := fun i b e => by
    have := List.all_eq_true.mp c.more b (List.mem_of_getElem? e)
    simpa using this
  have c_MOST_KINDS : GC K mg ("MOST_KINDS" : Str) (.int 13) := gcB_ok X G (ex 0 _ rfl)
  have c_MOST_DEPTH : GC K mg ("MOST_DEPTH" : Str) (.int 20) := gcB_ok X G (ex 1 _ rfl)
  have c_MOST_LEAVES : GC K mg ("MOST_LEAVES" : Str) (.int 100) := gcB_ok X G (ex 2 _ rfl)
  have c_WORD_LEAVES : GC K mg ("WORD_LEAVES" : Str) d_WORD_LEAVES := gcB_ok X G (ex 3 _ rfl)
  have c_MOST_SIGNS : GC K mg ("MOST_SIGNS" : Str) (.int 1000000) := gcB_ok X G (ex 4 _ rfl)
  have c_MOST_FIGURES : GC K mg ("MOST_FIGURES" : Str) (.int 20) := gcB_ok X G (ex 5 _ rfl)
  have c_LOT_SIGN : GC K mg ("LOT_SIGN" : Str) (.str (",":Str)) := gcB_ok X G (ex 6 _ rfl)
  have c_MOST_OPEN : GC K mg ("MOST_OPEN" : Str) (.int 20) := gcB_ok X G (ex 7 _ rfl)
  have k_LEAF_TOPS : GK K w mg ("LEAF_TOPS" : Str) kv_LEAF_TOPS := gkB_ok (gl 70 _ rfl) (by
    have e := congrArg Prod.snd c.t
    have e2 := congrArg (fun l => l[0]?) e
    exact Option.some.inj e2) (ex 8 _ rfl)
  have k_PART_PLACES : GK K w mg ("PART_PLACES" : Str) kv_PART_PLACES := gkB_ok (gl 71 _ rfl) (by
    have e := congrArg Prod.snd c.t
    have e2 := congrArg (fun l => l[1]?) e
    exact Option.some.inj e2) (ex 9 _ rfl)
  have k_PART_LENGTHS : GK K w mg ("PART_LENGTHS" : Str) kv_PART_LENGTHS := gkB_ok (gl 72 _ rfl) (by
    have e := congrArg Prod.snd c.t
    have e2 := congrArg (fun l => l[2]?) e
    exact Option.some.inj e2) (ex 10 _ rfl)
  have hI := ex 15 _ rfl
  have vVK := vV_ok (ex 16 _ rfl)
  have nod := of_decide_eq_true (ex 17 _ rfl)
  simp only [tfs, List.map_cons, List.map_nil, List.nodup_cons, List.mem_cons, List.not_mem_nil, or_false, not_or] at nod
  obtain ⟨fdI, FI⟩ := c.t.d.def_ 65 (d := ddI) rfl
  have e_BadSketch := ex 11 _ rfl
  simp only [errB, Bool.and_eq_true, decide_eq_true_eq] at e_BadSketch
  have R_BadSketch : RX P w K mg base ("BadSketch" : Str) := rx_init FI (hf 16 _ rfl) vVK (gl 67 _ rfl) (oexB_ok e_BadSketch.1) e_BadSketch.2.2.2.2.1 (of_decide_eq_true hI) e_BadSketch.2.2.2.1
  have g_BadSketch := gl 67 _ rfl
  have e_BadText := ex 12 _ rfl
  simp only [errB, Bool.and_eq_true, decide_eq_true_eq] at e_BadText
  have R_BadText : RX P w K mg base ("BadText" : Str) := rx_init FI (hf 16 _ rfl) vVK (gl 68 _ rfl) (oexB_ok e_BadText.1) e_BadText.2.2.2.2.1 (of_decide_eq_true hI) e_BadText.2.2.2.1
  have g_BadText := gl 68 _ rfl
  have e_TooMany := ex 13 _ rfl
  simp only [errB, Bool.and_eq_true, decide_eq_true_eq] at e_TooMany
  have R_TooMany : RX P w K mg base ("TooMany" : Str) := rx_init FI (hf 16 _ rfl) vVK (gl 66 _ rfl) (oexB_ok e_TooMany.1) e_TooMany.2.2.2.2.1 (of_decide_eq_true hI) e_TooMany.2.2.2.1
  have g_TooMany := gl 66 _ rfl
  have e_WrongLine := ex 14 _ rfl
  simp only [errB, Bool.and_eq_true, decide_eq_true_eq] at e_WrongLine
  have R_WrongLine : RX P w K mg base ("WrongLine" : Str) := rx_init FI (hf 16 _ rfl) vVK (gl 69 _ rfl) (oexB_ok e_WrongLine.1) e_WrongLine.2.2.2.2.1 (of_decide_eq_true hI) e_WrongLine.2.2.2.1
  have g_WrongLine := gl 69 _ rfl
  have gR := gl 65 ("Refused" : Str) rfl
  have EF : ∀ c ∈ hnames, ∀ Ce, mg c = some (.ref Ce) → EFact K mg c Ce (He.ga K "Refused") := by
    intro c hc Ce hCe
    have al : ∀ n ∈ hnames, mg n = some (.ref (He.ga K n)) := by
      intro n hn
      simp only [hnames, List.mem_cons, List.not_mem_nil, or_false] at hn
      rcases hn with rfl | rfl | rfl | rfl
      · exact g_BadSketch
      · exact g_BadText
      · exact g_TooMany
      · exact g_WrongLine
    have eC : Ce = He.ga K c := by
      have := (al c hc).symm.trans hCe
      injection this with t
      injection t with t
      exact t.symm
    subst eC
    have main : errB K "Refused" hnames c = true := by
      have hc2 := hc
      simp only [hnames, List.mem_cons, List.not_mem_nil, or_false] at hc2
      rcases hc2 with rfl | rfl | rfl | rfl
      · exact ex 11 _ rfl
      · exact ex 12 _ rfl
      · exact ex 13 _ rfl
      · exact ex 14 _ rfl
    simp only [errB, Bool.and_eq_true, decide_eq_true_eq] at main
    refine ⟨excCB_ok main.2.1, xfB_ok main.2.2.1, main.2.2.2.1, main.2.2.2.2.2.1, fun n hn Cn hCn => ?_⟩
    have eN : Cn = He.ga K n := by
      have := (al n hn).symm.trans hCn
      injection this with t
      injection t with t
      exact t.symm
    subst eN
    exact of_decide_eq_true (List.all_eq_true.mp main.2.2.2.2.2.2 n hn)
  obtain ⟨fd_whole_in, D_whole_in⟩ := c.t.d.def_ 0 (d := dd "whole_in" 6) rfl
  have m_whole_in := gl 0 ("whole_in" : Str) rfl
  obtain ⟨fd_are_kind_numbers, D_are_kind_numbers⟩ := c.t.d.def_ 1 (d := dd "are_kind_numbers" 15) rfl
  have m_are_kind_numbers := gl 1 ("are_kind_numbers" : Str) rfl
  obtain ⟨fd_are_rising_kinds, D_are_rising_kinds⟩ := c.t.d.def_ 2 (d := dd "are_rising_kinds" 16) rfl
  have m_are_rising_kinds := gl 2 ("are_rising_kinds" : Str) rfl
  obtain ⟨fd_made_of, D_made_of⟩ := c.t.d.def_ 3 (d := dd "made_of" 17) rfl
  have m_made_of := gl 3 ("made_of" : Str) rfl
  obtain ⟨fd_depth_of, D_depth_of⟩ := c.t.d.def_ 4 (d := dd "depth_of" 18) rfl
  have m_depth_of := gl 4 ("depth_of" : Str) rfl
  obtain ⟨fd_is_sketch, D_is_sketch⟩ := c.t.d.def_ 5 (d := dd "is_sketch" 19) rfl
  have m_is_sketch := gl 5 ("is_sketch" : Str) rfl
  obtain ⟨fd_asked_text, D_asked_text⟩ := c.t.d.def_ 6 (d := dd "asked_text" 24) rfl
  have m_asked_text := gl 6 ("asked_text" : Str) rfl
  obtain ⟨fd_lines_of, D_lines_of⟩ := c.t.d.def_ 7 (d := dd "lines_of" 25) rfl
  have m_lines_of := gl 7 ("lines_of" : Str) rfl
  obtain ⟨fd_words_of, D_words_of⟩ := c.t.d.def_ 8 (d := dd "words_of" 26) rfl
  have m_words_of := gl 8 ("words_of" : Str) rfl
  obtain ⟨fd_number_of, D_number_of⟩ := c.t.d.def_ 9 (d := dd "number_of" 27) rfl
  have m_number_of := gl 9 ("number_of" : Str) rfl
  obtain ⟨fd_list_word, D_list_word⟩ := c.t.d.def_ 10 (d := dd "list_word" 28) rfl
  have m_list_word := gl 10 ("list_word" : Str) rfl
  obtain ⟨fd_lot_word, D_lot_word⟩ := c.t.d.def_ 11 (d := dd "lot_word" 29) rfl
  have m_lot_word := gl 11 ("lot_word" : Str) rfl
  obtain ⟨fd_lot_text, D_lot_text⟩ := c.t.d.def_ 12 (d := dd "lot_text" 30) rfl
  have m_lot_text := gl 12 ("lot_text" : Str) rfl
  obtain ⟨fd_number_from, D_number_from⟩ := c.t.d.def_ 13 (d := dd "number_from" 31) rfl
  have m_number_from := gl 13 ("number_from" : Str) rfl
  obtain ⟨fd_asked_end, D_asked_end⟩ := c.t.d.def_ 14 (d := dd "asked_end" 32) rfl
  have m_asked_end := gl 14 ("asked_end" : Str) rfl
  obtain ⟨fd_is_leaf, D_is_leaf⟩ := c.t.d.def_ 15 (d := dd "is_leaf" 35) rfl
  have m_is_leaf := gl 15 ("is_leaf" : Str) rfl
  obtain ⟨fd_told_parts, D_told_parts⟩ := c.t.d.def_ 16 (d := dd "told_parts" 36) rfl
  have m_told_parts := gl 16 ("told_parts" : Str) rfl
  obtain ⟨fd_sketch_text, D_sketch_text⟩ := c.t.d.def_ 17 (d := dd "sketch_text" 37) rfl
  have m_sketch_text := gl 17 ("sketch_text" : Str) rfl
  obtain ⟨fd_unit_from, D_unit_from⟩ := c.t.d.def_ 18 (d := dd "unit_from" 38) rfl
  have m_unit_from := gl 18 ("unit_from" : Str) rfl
  obtain ⟨fd_listed_from, D_listed_from⟩ := c.t.d.def_ 19 (d := dd "listed_from" 39) rfl
  have m_listed_from := gl 19 ("listed_from" : Str) rfl
  obtain ⟨fd_put_behind, D_put_behind⟩ := c.t.d.def_ 20 (d := dd "put_behind" 40) rfl
  have m_put_behind := gl 20 ("put_behind" : Str) rfl
  obtain ⟨fd_unit_begun, D_unit_begun⟩ := c.t.d.def_ 21 (d := dd "unit_begun" 41) rfl
  have m_unit_begun := gl 21 ("unit_begun" : Str) rfl
  obtain ⟨fd_gone_on, D_gone_on⟩ := c.t.d.def_ 22 (d := dd "gone_on" 42) rfl
  have m_gone_on := gl 22 ("gone_on" : Str) rfl
  obtain ⟨fd_sketch_words, D_sketch_words⟩ := c.t.d.def_ 23 (d := dd "sketch_words" 43) rfl
  have m_sketch_words := gl 23 ("sketch_words" : Str) rfl
  obtain ⟨fd_read_sketch, D_read_sketch⟩ := c.t.d.def_ 24 (d := dd "read_sketch" 44) rfl
  have m_read_sketch := gl 24 ("read_sketch" : Str) rfl
  obtain ⟨fd__law_tq_is_whole, D__law_tq_is_whole⟩ := c.t.d.def_ 25 (d := dd "_law_tq_is_whole" 46) rfl
  have m__law_tq_is_whole := gl 25 ("_law_tq_is_whole" : Str) rfl
  obtain ⟨fd__law_tq_same, D__law_tq_same⟩ := c.t.d.def_ 26 (d := dd "_law_tq_same" 47) rfl
  have m__law_tq_same := gl 26 ("_law_tq_same" : Str) rfl
  obtain ⟨fd__law_pool, D__law_pool⟩ := c.t.d.def_ 27 (d := dd "_law_pool" 48) rfl
  have m__law_pool := gl 27 ("_law_pool" : Str) rfl
  obtain ⟨fd__law_take, D__law_take⟩ := c.t.d.def_ 28 (d := dd "_law_take" 49) rfl
  have m__law_take := gl 28 ("_law_take" : Str) rfl
  obtain ⟨fd__law_one, D__law_one⟩ := c.t.d.def_ 29 (d := dd "_law_one" 50) rfl
  have m__law_one := gl 29 ("_law_one" : Str) rfl
  obtain ⟨fd__law_tt_figures, D__law_tt_figures⟩ := c.t.d.def_ 30 (d := dd "_law_tt_figures" 51) rfl
  have m__law_tt_figures := gl 30 ("_law_tt_figures" : Str) rfl
  obtain ⟨fd__law_tt_within, D__law_tt_within⟩ := c.t.d.def_ 31 (d := dd "_law_tt_within" 52) rfl
  have m__law_tt_within := gl 31 ("_law_tt_within" : Str) rfl
  obtain ⟨fd__law_tt_listed, D__law_tt_listed⟩ := c.t.d.def_ 32 (d := dd "_law_tt_listed" 53) rfl
  have m__law_tt_listed := gl 32 ("_law_tt_listed" : Str) rfl
  obtain ⟨fd__law_tt_line, D__law_tt_line⟩ := c.t.d.def_ 33 (d := dd "_law_tt_line" 54) rfl
  have m__law_tt_line := gl 33 ("_law_tt_line" : Str) rfl
  obtain ⟨fd__law_tt_list_word, D__law_tt_list_word⟩ := c.t.d.def_ 34 (d := dd "_law_tt_list_word" 55) rfl
  have m__law_tt_list_word := gl 34 ("_law_tt_list_word" : Str) rfl
  obtain ⟨fd__law_tt_lines, D__law_tt_lines⟩ := c.t.d.def_ 35 (d := dd "_law_tt_lines" 56) rfl
  have m__law_tt_lines := gl 35 ("_law_tt_lines" : Str) rfl
  obtain ⟨fd__law_tt_wrong, D__law_tt_wrong⟩ := c.t.d.def_ 36 (d := dd "_law_tt_wrong" 57) rfl
  have m__law_tt_wrong := gl 36 ("_law_tt_wrong" : Str) rfl
  obtain ⟨fd__law_tt_end, D__law_tt_end⟩ := c.t.d.def_ 37 (d := dd "_law_tt_end" 58) rfl
  have m__law_tt_end := gl 37 ("_law_tt_end" : Str) rfl
  obtain ⟨fd__law_tt_one_line, D__law_tt_one_line⟩ := c.t.d.def_ 38 (d := dd "_law_tt_one_line" 59) rfl
  have m__law_tt_one_line := gl 38 ("_law_tt_one_line" : Str) rfl
  obtain ⟨fd__law_tt_is_leaf, D__law_tt_is_leaf⟩ := c.t.d.def_ 39 (d := dd "_law_tt_is_leaf" 60) rfl
  have m__law_tt_is_leaf := gl 39 ("_law_tt_is_leaf" : Str) rfl
  obtain ⟨fd__law_tt_sketch, D__law_tt_sketch⟩ := c.t.d.def_ 40 (d := dd "_law_tt_sketch" 61) rfl
  have m__law_tt_sketch := gl 40 ("_law_tt_sketch" : Str) rfl
  obtain ⟨fd__law_tt_parts_of, D__law_tt_parts_of⟩ := c.t.d.def_ 41 (d := dd "_law_tt_parts_of" 62) rfl
  have m__law_tt_parts_of := gl 41 ("_law_tt_parts_of" : Str) rfl
  obtain ⟨fd__law_tt_deep, D__law_tt_deep⟩ := c.t.d.def_ 42 (d := dd "_law_tt_deep" 63) rfl
  have m__law_tt_deep := gl 42 ("_law_tt_deep" : Str) rfl
  obtain ⟨fd__law_tt_leaves, D__law_tt_leaves⟩ := c.t.d.def_ 43 (d := dd "_law_tt_leaves" 64) rfl
  have m__law_tt_leaves := gl 43 ("_law_tt_leaves" : Str) rfl
  obtain ⟨fd__law_tt_unit_in, D__law_tt_unit_in⟩ := c.t.d.def_ 44 (d := dd "_law_tt_unit_in" 65) rfl
  have m__law_tt_unit_in := gl 44 ("_law_tt_unit_in" : Str) rfl
  obtain ⟨fd__law_tt_sketch_in, D__law_tt_sketch_in⟩ := c.t.d.def_ 45 (d := dd "_law_tt_sketch_in" 66) rfl
  have m__law_tt_sketch_in := gl 45 ("_law_tt_sketch_in" : Str) rfl
  obtain ⟨fd__law_tt_sketch_read, D__law_tt_sketch_read⟩ := c.t.d.def_ 46 (d := dd "_law_tt_sketch_read" 67) rfl
  have m__law_tt_sketch_read := gl 46 ("_law_tt_sketch_read" : Str) rfl
  obtain ⟨fd__law_tt_word_drawn, D__law_tt_word_drawn⟩ := c.t.d.def_ 47 (d := dd "_law_tt_word_drawn" 68) rfl
  have m__law_tt_word_drawn := gl 47 ("_law_tt_word_drawn" : Str) rfl
  obtain ⟨fd__law_tt_otherwise, D__law_tt_otherwise⟩ := c.t.d.def_ 48 (d := dd "_law_tt_otherwise" 69) rfl
  have m__law_tt_otherwise := gl 48 ("_law_tt_otherwise" : Str) rfl
  obtain ⟨fd__law_tt_leaf_drawn, D__law_tt_leaf_drawn⟩ := c.t.d.def_ 49 (d := dd "_law_tt_leaf_drawn" 70) rfl
  have m__law_tt_leaf_drawn := gl 49 ("_law_tt_leaf_drawn" : Str) rfl
  obtain ⟨fd__law_tt_list_drawn, D__law_tt_list_drawn⟩ := c.t.d.def_ 50 (d := dd "_law_tt_list_drawn" 71) rfl
  have m__law_tt_list_drawn := gl 50 ("_law_tt_list_drawn" : Str) rfl
  obtain ⟨fd__law_tt_sketch_drawn, D__law_tt_sketch_drawn⟩ := c.t.d.def_ 51 (d := dd "_law_tt_sketch_drawn" 72) rfl
  have m__law_tt_sketch_drawn := gl 51 ("_law_tt_sketch_drawn" : Str) rfl
  obtain ⟨fd__law_tt_more_brackets, D__law_tt_more_brackets⟩ := c.t.d.def_ 52 (d := dd "_law_tt_more_brackets" 73) rfl
  have m__law_tt_more_brackets := gl 52 ("_law_tt_more_brackets" : Str) rfl
  obtain ⟨fd__law_sx_heard, D__law_sx_heard⟩ := c.t.d.def_ 53 (d := dd "_law_sx_heard" 74) rfl
  have m__law_sx_heard := gl 53 ("_law_sx_heard" : Str) rfl
  obtain ⟨fd__law_sx_is_within, D__law_sx_is_within⟩ := c.t.d.def_ 54 (d := dd "_law_sx_is_within" 75) rfl
  have m__law_sx_is_within := gl 54 ("_law_sx_is_within" : Str) rfl
  obtain ⟨fd__law_sx_is_list, D__law_sx_is_list⟩ := c.t.d.def_ 55 (d := dd "_law_sx_is_list" 76) rfl
  have m__law_sx_is_list := gl 55 ("_law_sx_is_list" : Str) rfl
  obtain ⟨fd__law_sx_is_part, D__law_sx_is_part⟩ := c.t.d.def_ 56 (d := dd "_law_sx_is_part" 77) rfl
  have m__law_sx_is_part := gl 56 ("_law_sx_is_part" : Str) rfl
  obtain ⟨fd__law_sx_is_own, D__law_sx_is_own⟩ := c.t.d.def_ 57 (d := dd "_law_sx_is_own" 78) rfl
  have m__law_sx_is_own := gl 57 ("_law_sx_is_own" : Str) rfl
  obtain ⟨fd__law_sx_bent, D__law_sx_bent⟩ := c.t.d.def_ 58 (d := dd "_law_sx_bent" 79) rfl
  have m__law_sx_bent := gl 58 ("_law_sx_bent" : Str) rfl
  obtain ⟨fd__law_sx_thing_right, D__law_sx_thing_right⟩ := c.t.d.def_ 59 (d := dd "_law_sx_thing_right" 80) rfl
  have m__law_sx_thing_right := gl 59 ("_law_sx_thing_right" : Str) rfl
  obtain ⟨fd__law_sx_text_right, D__law_sx_text_right⟩ := c.t.d.def_ 60 (d := dd "_law_sx_text_right" 81) rfl
  have m__law_sx_text_right := gl 60 ("_law_sx_text_right" : Str) rfl
  obtain ⟨fd__law_sx_deep, D__law_sx_deep⟩ := c.t.d.def_ 61 (d := dd "_law_sx_deep" 82) rfl
  have m__law_sx_deep := gl 61 ("_law_sx_deep" : Str) rfl
  obtain ⟨fd__law_sx_wide, D__law_sx_wide⟩ := c.t.d.def_ 62 (d := dd "_law_sx_wide" 83) rfl
  have m__law_sx_wide := gl 62 ("_law_sx_wide" : Str) rfl
  obtain ⟨fd__law_sx_planted_right, D__law_sx_planted_right⟩ := c.t.d.def_ 63 (d := dd "_law_sx_planted_right" 84) rfl
  have m__law_sx_planted_right := gl 63 ("_law_sx_planted_right" : Str) rfl
  obtain ⟨fd_law, D_law⟩ := c.t.d.def_ 64 (d := dd "law" 85) rfl
  have m_law := gl 64 ("law" : Str) rfl
  have TB__law_sx_thing_right : ∀ cdv, CodeOfF K (He.ga K "_law_sx_thing_right") cdv → TBC K mg base cdv (("_law_sx_thing_right" : Str) ++ ".<locals>.") := fun cdv h => ⟨_, _, code_of D__law_sx_thing_right h, TBh (He.cT K ("_law_sx_thing_right", none)) (List.mem_map_of_mem (List.mem_of_getElem? (i := 0) rfl)), List.mem_map_of_mem (f := fun p : He.Defn => ((He.cT K p).2, p.1 ++ ".<locals>." ++ "<lambda>")) (List.mem_of_getElem? (i := 0) (l := tfs) (a := ("_law_sx_thing_right", none)) rfl), fun q hq e => by
    obtain ⟨p, hp, rfl⟩ := List.mem_map.mp hq
    simp only [tfs, List.mem_cons, List.not_mem_nil, or_false] at hp
    rcases hp with rfl | rfl | rfl
    · exact rfl
    · exact absurd e.symm nod.1.1
    · exact absurd e.symm nod.1.2⟩
  have TB__law_sx_text_right : ∀ cdv, CodeOfF K (He.ga K "_law_sx_text_right") cdv → TBC K mg base cdv (("_law_sx_text_right" : Str) ++ ".<locals>.") := fun cdv h => ⟨_, _, code_of D__law_sx_text_right h, TBh (He.cT K ("_law_sx_text_right", none)) (List.mem_map_of_mem (List.mem_of_getElem? (i := 1) rfl)), List.mem_map_of_mem (f := fun p : He.Defn => ((He.cT K p).2, p.1 ++ ".<locals>." ++ "<lambda>")) (List.mem_of_getElem? (i := 1) (l := tfs) (a := ("_law_sx_text_right", none)) rfl), fun q hq e => by
    obtain ⟨p, hp, rfl⟩ := List.mem_map.mp hq
    simp only [tfs, List.mem_cons, List.not_mem_nil, or_false] at hp
    rcases hp with rfl | rfl | rfl
    · exact absurd e nod.1.1
    · exact rfl
    · exact absurd e.symm nod.2.1⟩
  have TB_law : ∀ cdv, CodeOfF K (He.ga K "law") cdv → TBC K mg base cdv (("law" : Str) ++ ".<locals>.") := fun cdv h => ⟨_, _, code_of D_law h, TBh (He.cT K ("law", none)) (List.mem_map_of_mem (List.mem_of_getElem? (i := 2) rfl)), List.mem_map_of_mem (f := fun p : He.Defn => ((He.cT K p).2, p.1 ++ ".<locals>." ++ "<lambda>")) (List.mem_of_getElem? (i := 2) (l := tfs) (a := ("law", none)) rfl), fun q hq e => by
    obtain ⟨p, hp, rfl⟩ := List.mem_map.mp hq
    simp only [tfs, List.mem_cons, List.not_mem_nil, or_false] at hp
    rcases hp with rfl | rfl | rfl
    · exact absurd e nod.1.2
    · exact absurd e nod.2.1
    · exact rfl⟩
  have H__law_sx_heard : HX P w K mg base ("_law_sx_heard" : Str) hnames := hx__law_sx_heard D__law_sx_heard m__law_sx_heard hf g_BadSketch g_BadText g_TooMany g_WrongLine gR EF
  have F_whole_in := ff_whole_in (P := P) (w := w) (base := base) D_whole_in m_whole_in hf 
  have F_are_kind_numbers := ff_are_kind_numbers (P := P) (w := w) (base := base) D_are_kind_numbers m_are_kind_numbers hf F_whole_in c_MOST_KINDS
  have F_are_rising_kinds := ff_are_rising_kinds (P := P) (w := w) (base := base) D_are_rising_kinds m_are_rising_kinds hf F_are_kind_numbers
  have F_made_of := ff_made_of (P := P) (w := w) (base := base) D_made_of m_made_of hf F_whole_in F_are_rising_kinds F_are_kind_numbers c_WORD_LEAVES k_LEAF_TOPS k_PART_LENGTHS k_PART_PLACES
  have F_depth_of := ff_depth_of (P := P) (w := w) (base := base) D_depth_of m_depth_of hf F_made_of c_MOST_DEPTH c_MOST_LEAVES
  have F_is_sketch := ff_is_sketch (P := P) (w := w) (base := base) D_is_sketch m_is_sketch hf F_depth_of
  have F_asked_text := ff_asked_text (P := P) (w := w) (base := base) D_asked_text m_asked_text hf R_BadText R_TooMany
  have F_lines_of := ff_lines_of (P := P) (w := w) (base := base) D_lines_of m_lines_of hf F_asked_text c_MOST_SIGNS
  have F_words_of := ff_words_of (P := P) (w := w) (base := base) D_words_of m_words_of hf 
  have F_number_of := ff_number_of (P := P) (w := w) (base := base) D_number_of m_number_of hf c_MOST_FIGURES
  have F_list_word := ff_list_word (P := P) (w := w) (base := base) D_list_word m_list_word hf F_number_of c_LOT_SIGN
  have F_lot_word := ff_lot_word (P := P) (w := w) (base := base) D_lot_word m_lot_word hf F_list_word
  have F_lot_text := ff_lot_text (P := P) (w := w) (base := base) D_lot_text m_lot_text hf c_LOT_SIGN
  have F_number_from := ff_number_from (P := P) (w := w) (base := base) D_number_from m_number_from hf F_number_of
  have F_asked_end := ff_asked_end (P := P) (w := w) (base := base) D_asked_end m_asked_end hf R_WrongLine
  have F_is_leaf := ff_is_leaf (P := P) (w := w) (base := base) D_is_leaf m_is_leaf hf c_WORD_LEAVES k_LEAF_TOPS
  have F_told_parts := ff_told_parts (P := P) (w := w) (base := base) D_told_parts m_told_parts hf F_is_leaf F_lot_text
  have F_sketch_text := ff_sketch_text (P := P) (w := w) (base := base) D_sketch_text m_sketch_text hf F_is_sketch F_told_parts R_BadSketch
  have F_unit_from := ff_unit_from (P := P) (w := w) (base := base) D_unit_from m_unit_from hf F_number_from c_WORD_LEAVES k_LEAF_TOPS
  have F_listed_from := ff_listed_from (P := P) (w := w) (base := base) D_listed_from m_listed_from hf F_lot_word F_list_word c_MOST_KINDS
  have F_put_behind := ff_put_behind (P := P) (w := w) (base := base) D_put_behind m_put_behind hf 
  have F_unit_begun := ff_unit_begun (P := P) (w := w) (base := base) D_unit_begun m_unit_begun hf F_unit_from F_put_behind c_MOST_OPEN
  have F_gone_on := ff_gone_on (P := P) (w := w) (base := base) D_gone_on m_gone_on hf F_listed_from F_put_behind
  have F_sketch_words := ff_sketch_words (P := P) (w := w) (base := base) D_sketch_words m_sketch_words hf F_unit_begun F_gone_on F_is_sketch
  have F_read_sketch := ff_read_sketch (P := P) (w := w) (base := base) D_read_sketch m_read_sketch hf F_lines_of F_sketch_words F_words_of F_asked_end R_WrongLine
  have F__law_tq_is_whole := ff__law_tq_is_whole (P := P) (w := w) (base := base) D__law_tq_is_whole m__law_tq_is_whole hf 
  have G_same := ff_same (P := P) (w := w) (K := K) (mg := mg) (base := base) D__law_tq_same m__law_tq_same hf F__law_tq_is_whole 30
  have F__law_tq_same : FF P w K mg base 33 ("_law_tq_same" : Str) 2 (g__law_tq_same 30) := G_same
  have F__law_pool := ff__law_pool (P := P) (w := w) (base := base) D__law_pool m__law_pool hf 
  have F__law_take := ff__law_take (P := P) (w := w) (base := base) D__law_take m__law_take hf 
  have F__law_one := ff__law_one (P := P) (w := w) (base := base) D__law_one m__law_one hf F__law_take
  have F__law_tt_figures := ff__law_tt_figures (P := P) (w := w) (base := base) D__law_tt_figures m__law_tt_figures hf 
  have F__law_tt_within := ff__law_tt_within (P := P) (w := w) (base := base) D__law_tt_within m__law_tt_within hf F__law_tt_figures
  have F__law_tt_listed := ff__law_tt_listed (P := P) (w := w) (base := base) D__law_tt_listed m__law_tt_listed hf F__law_tt_figures
  have F__law_tt_line := ff__law_tt_line (P := P) (w := w) (base := base) D__law_tt_line m__law_tt_line hf 
  have F__law_tt_list_word := ff__law_tt_list_word (P := P) (w := w) (base := base) D__law_tt_list_word m__law_tt_list_word hf 
  have F__law_tt_lines := ff__law_tt_lines (P := P) (w := w) (base := base) D__law_tt_lines m__law_tt_lines hf 
  have F__law_tt_wrong := ff__law_tt_wrong (P := P) (w := w) (base := base) D__law_tt_wrong m__law_tt_wrong hf 
  have F__law_tt_end := ff__law_tt_end (P := P) (w := w) (base := base) D__law_tt_end m__law_tt_end hf 
  have F__law_tt_one_line := ff__law_tt_one_line (P := P) (w := w) (base := base) D__law_tt_one_line m__law_tt_one_line hf F__law_tt_wrong
  have F__law_tt_is_leaf := ff__law_tt_is_leaf (P := P) (w := w) (base := base) D__law_tt_is_leaf m__law_tt_is_leaf hf 
  have G_tsk := ff_tsk (P := P) (w := w) (K := K) (mg := mg) (base := base) D__law_tt_sketch m__law_tt_sketch hf F__law_tt_is_leaf F__law_tt_line F__law_tt_list_word 24
  have F__law_tt_sketch : FF P w K mg base 27 ("_law_tt_sketch" : Str) 1 (g__law_tt_sketch 24) := G_tsk
  have F__law_tt_parts_of := ff__law_tt_parts_of (P := P) (w := w) (base := base) D__law_tt_parts_of m__law_tt_parts_of hf F__law_tt_is_leaf
  have G_deep := ff_deep (P := P) (w := w) (K := K) (mg := mg) (base := base) D__law_tt_deep m__law_tt_deep hf F__law_tt_parts_of 200
  have F__law_tt_deep : FF P w K mg base 204 ("_law_tt_deep" : Str) 1 (g__law_tt_deep 200) := G_deep
  have G_leaves := ff_leaves (P := P) (w := w) (K := K) (mg := mg) (base := base) D__law_tt_leaves m__law_tt_leaves hf F__law_tt_is_leaf F__law_tt_parts_of 200
  have F__law_tt_leaves : FF P w K mg base 204 ("_law_tt_leaves" : Str) 1 (g__law_tt_leaves 200) := G_leaves
  have G_rd := ff_rd (P := P) (w := w) (K := K) (mg := mg) (base := base) D__law_tt_unit_in m__law_tt_unit_in D__law_tt_sketch_in m__law_tt_sketch_in hf F__law_tt_within F__law_tt_listed 46
  have F__law_tt_unit_in : FF P w K mg base 50 ("_law_tt_unit_in" : Str) 3 (g__law_tt_unit_in 46) := G_rd.1
  have F__law_tt_sketch_in : FF P w K mg base 50 ("_law_tt_sketch_in" : Str) 3 (g__law_tt_sketch_in 46) := G_rd.2
  have F__law_tt_sketch_read := ff__law_tt_sketch_read (P := P) (w := w) (base := base) D__law_tt_sketch_read m__law_tt_sketch_read hf F__law_tt_lines F__law_tt_end F__law_tt_sketch_in F__law_tt_deep F__law_tt_leaves F__law_tt_one_line
  have F__law_tt_word_drawn := ff__law_tt_word_drawn (P := P) (w := w) (base := base) D__law_tt_word_drawn m__law_tt_word_drawn hf F__law_one
  have F__law_tt_otherwise := ff__law_tt_otherwise (P := P) (w := w) (base := base) D__law_tt_otherwise m__law_tt_otherwise hf F__law_take F__law_tt_word_drawn F__law_one
  have F__law_tt_leaf_drawn := ff__law_tt_leaf_drawn (P := P) (w := w) (base := base) D__law_tt_leaf_drawn m__law_tt_leaf_drawn hf F__law_take F__law_one
  have F__law_tt_list_drawn := ff__law_tt_list_drawn (P := P) (w := w) (base := base) D__law_tt_list_drawn m__law_tt_list_drawn hf F__law_take
  have G_drawn := ff_drawn (P := P) (w := w) (K := K) (mg := mg) (base := base) D__law_tt_sketch_drawn m__law_tt_sketch_drawn hf F__law_take F__law_tt_leaf_drawn F__law_tt_list_drawn 8
  have F__law_tt_sketch_drawn : FF P w K mg base 13 ("_law_tt_sketch_drawn" : Str) 2 (g__law_tt_sketch_drawn 8) := G_drawn
  have F__law_tt_more_brackets := ff__law_tt_more_brackets (P := P) (w := w) (base := base) D__law_tt_more_brackets m__law_tt_more_brackets hf F__law_one F__law_take
  have F__law_sx_is_within := ff__law_sx_is_within (P := P) (w := w) (base := base) D__law_sx_is_within m__law_sx_is_within hf F__law_tq_is_whole
  have F__law_sx_is_list := ff__law_sx_is_list (P := P) (w := w) (base := base) D__law_sx_is_list m__law_sx_is_list hf F__law_sx_is_within
  have G_ispart := ff_ispart (P := P) (w := w) (K := K) (mg := mg) (base := base) D__law_sx_is_part m__law_sx_is_part hf F__law_sx_is_within F__law_sx_is_list 30
  have F__law_sx_is_part : FF P w K mg base 35 ("_law_sx_is_part" : Str) 1 (g__law_sx_is_part 30) := G_ispart
  have F__law_sx_is_own := ff__law_sx_is_own (P := P) (w := w) (base := base) D__law_sx_is_own m__law_sx_is_own hf F__law_sx_is_part F__law_tt_deep F__law_tt_leaves
  have G_bent := ff_bent (P := P) (w := w) (K := K) (mg := mg) (base := base) D__law_sx_bent m__law_sx_bent hf F__law_one F__law_take 30
  have F__law_sx_bent : FF P w K mg base 34 ("_law_sx_bent" : Str) 2 (g__law_sx_bent 30) := G_bent
  have F__law_sx_thing_right := ff__law_sx_thing_right (P := P) (w := w) (base := base) D__law_sx_thing_right m__law_sx_thing_right hf F_is_sketch F_sketch_text F__law_sx_is_own F__law_tq_same F__law_tt_sketch H__law_sx_heard TB__law_sx_thing_right
  have F__law_sx_text_right := ff__law_sx_text_right (P := P) (w := w) (base := base) D__law_sx_text_right m__law_sx_text_right hf F__law_tt_sketch_read F__law_tq_same F_read_sketch F__law_tt_sketch F_sketch_text H__law_sx_heard TB__law_sx_text_right
  have F__law_sx_deep := ff__law_sx_deep (P := P) (w := w) (base := base) D__law_sx_deep m__law_sx_deep hf F__law_tt_leaf_drawn F__law_one
  have G_wide := ff_wide (P := P) (w := w) (K := K) (mg := mg) (base := base) D__law_sx_wide m__law_sx_wide hf  12
  have F__law_sx_wide : FF P w K mg base 14 ("_law_sx_wide" : Str) 1 (g__law_sx_wide 12) := G_wide
  have F__law_sx_planted_right := ff__law_sx_planted_right (P := P) (w := w) (base := base) D__law_sx_planted_right m__law_sx_planted_right hf F__law_sx_deep F__law_sx_wide F__law_sx_thing_right F__law_sx_text_right F__law_tt_sketch F__law_one F__law_tt_leaf_drawn
  exact ⟨fd_law, D_law, fn_d3 (k := 211) (N := ["script", "jar", "go", "sketch", "text", "more", "turn", "bent", "odd", "heard"]) (ps := ["script"]) D_law ⟨rfl, rfl, rfl, by decide +kernel, rfl, by decide +kernel, by decide +kernel⟩ fun cdv A outer s H E cd C => b_law hf F__law_pool F__law_tt_sketch_drawn F__law_one F__law_tt_sketch F__law_tt_more_brackets F__law_tq_same F_read_sketch F__law_tt_otherwise F__law_sx_text_right F__law_sx_thing_right F__law_sx_bent F__law_sx_planted_right H__law_sx_heard (TB_law cdv cd) C⟩
end
theorem funD_same {K : PySem.W.Frag} {x q : Str} {params : Arguments} {body : List Stmt} {scope : Scope} {dvs : List V} {kws : List (Str × V)} {f : Addr} {fd1 fd2 : FuncData} (D1 : FunD K x q params body scope dvs kws f fd1) (D2 : FunD K x q params body scope dvs kws f fd2) : fd1 = fd2 := by
  obtain ⟨_, _, _, _, _, _, _, _, _, _, e1, l1, _⟩ := D1.ex
  obtain ⟨_, _, _, _, _, _, _, _, _, _, e2, l2, _⟩ := D2.ex
  rw [l1] at l2
  have z := Option.some.inj l2
  exact Data.func.inj (congrArg Obj.data z)
theorem law_binds {K : PySem.W.Frag} {f : Addr} {fd : FuncData} (F : FunD K "law" "law" (defArgs s_law) (defBody s_law) (defScope s_law) [] [] f fd) (s : Shared) (v : Value) : BindsTo s fd ⟨[v], []⟩ [("script", v)] :=
  F.bindsA (ps := ["script"]) (fun _ _ _ _ _ _ us hl => match us, hl with | [_], _ => rfl) s [v] rfl
/-- what the walk's end is asked for -/
theorem law_at {w : World} {mg : Str → Option Value} {fa : Addr} {h : Heap} (main : ∀ ns : List Int, (∀ z ∈ ns, Builtin.Int.intBits z ≤ 1048576) → ns.length ≤ 63 → ∃ o, g_law [some (.list (ns.map PyData.int))] [] = .ok (.dat (.bool true)) o)
    (Y : hk.says w h) (G : h.Ns mainGlobals mg) (hmg : mg ("law" : PySem.Str) = some (.ref fa)) : ∃ K : PySem.W.Frag, K.In h ∧ LawAtS lawR w K (L2N.CX lawR.prog w) 212 63 "script" mg fa h := by
  obtain ⟨K, KX, c⟩ := Y
  have hga : fa = He.ga K "law" := by
    have := hmg.symm.trans (He.glo_ok KX G (c.t.d.facts (f := .glo "law") (List.mem_append_left _ (List.mem_map_of_mem (List.mem_of_getElem? (i := 64) rfl)))))
    injection this with t
    injection t
  subst hga
  obtain ⟨fd0, D0⟩ := c.t.d.def_ 64 (d := dd "law" 85) rfl
  refine ⟨K, KX, fd0, tfs.map (He.cT K), spD K mg 1 g_law, fun p hp => ?_, fun p hp => ?_, fun p hp => ?_, fun s v => law_binds D0 s v, fun H a ns hl hbits hT hS => sp_law (fun p hp => ?_) hS (main ns hbits hl), fun base _ _ TBh => ?_⟩
  · obtain ⟨q, hq, rfl⟩ := List.mem_map.mp hp
    exact c.empty q hq
  · obtain ⟨q, hq, rfl⟩ := List.mem_map.mp hp
    exact c.out q hq
  · obtain ⟨q, hq, rfl⟩ := List.mem_map.mp hp
    exact PySem.W.codeHd_of_K KX (c.hd q hq)
  · obtain ⟨q, hq, rfl⟩ := List.mem_map.mp hp
    exact TabS.nil (hT (He.cT K q) (List.mem_map_of_mem hq))
  · obtain ⟨fd1, D1, ok⟩ := facts (P := lawR.prog) (w := w) (base := base) KX G c TBh
    have e : fd1 = fd0 := funD_same D1 D0
    subst e
    exact ok
end K78

set_option maxRecDepth 100000
set_option maxHeartbeats 0
namespace K78
open PySem PySem.Spec PyProof.Rows L2 LamX DL
theorem k1 : PySem.W.opening R.prog = PySem.W.plainProg R.prog.main.scope.names := by kernel_rfl
theorem k2 (s : Shared) : PySem.fenceModules? R.prog s = some s := by kernel_rfl
theorem k3 : PySem.W.defOf (PySem.W.view R.prog [85]) R.name = some (HandSHeadRun.topDef R.prog 85, []) := by kernel_rfl
theorem k4 : R.prog.theDef R.name = some ((HandSHeadRun.topDef R.prog 85).params, (HandSHeadRun.topDef R.prog 85).body, (HandSHeadRun.topDef R.prog 85).scope) := by kernel_rfl
theorem k5 : PySem.W.kwWritten? (HandSHeadRun.topDef R.prog 85).params.kwonlyargs (HandSHeadRun.topDef R.prog 85).params.kw_defaults = some [] := by kernel_rfl
theorem k6 : (PySem.W.chainsOk (PySem.W.view R.prog [85]) && PySem.W.opensWell R.prog && (PySem.W.frees R.toRowW && R.within.isEmpty)) = true := by decide +kernel
theorem k7 : (HandSHeadRun.topDef R.prog 85).params.defaults = [] := by kernel_rfl
theorem k8 : (HandSHeadRun.topDef R.prog 85).name = ("law" : PySem.Str) := by kernel_rfl
theorem head_of (main : ∀ ns : List Int, (∀ z ∈ ns, Builtin.Int.intBits z ≤ 1048576) → ns.length ≤ 63 → ∃ o, g_law [some (.list (ns.map PyData.int))] [] = .ok (.dat (.bool true)) o) : lawR.Holds := by
  w_on; o_law
  refine HandSHeadRun.head_any (r := R) (q := PySem.W.view R.prog [85]) (H := hk) (ob := ob) (M := 6000) (loose := looseL) (d := HandSHeadRun.topDef R.prog 85) (kwd := []) ob_eq
    k1 k2 run k3 k4 k5 (by rfl) (by first | assumption | decide +kernel) k6 ⟨rfl, rfl, rfl, rfl, rfl, by decide +kernel⟩ ?hw ?hc
  case hw => w_witness2
  case hc =>
    refine LamX.walk_ofTsE (l := lawR) (n := 63) (k := 212) (x := "script") (CX := fun w => L2N.CX lawR.prog w) rfl (by decide) k7 ⟨rfl, by decide, by decide⟩ (fun w mg fa h Y G hmg0 => law_at main Y G (by rw [← k8]; exact hmg0)) fun w H s e s' => cx_end H s e s'
end K78

set_option maxHeartbeats 0
theorem PySem.Challenge.cw_toldties_k78_sketches_as_texts_holds : PySem.Challenge.rw_toldties_k78_sketches_as_texts.Holds :=
  K78.head_of fun ns _ hl => K78.law_main ns hl
