import PyProof.Rows.All
import Wide.All
import OpenK.AllK
import Wide.FinOn
import HandS.ForMost
import HandS.Exc
import HandS.ExcInit
import HandS.ExcField
import HandS.Defaults
import HandS.Head0
import HandS.Head1
import HandS.Head2
import HandS.HeadEnd
import HandS.HeadHook1
import HandS.HeadHook2
import HandS.HeadHook3
import HandS.HeadHook4
import PySem.Challenge.RW_fewestrules_k93_whole_undone_and_replaye
import PyProof.ReprReads
import PyProof.ReprRoads
import KE.DataMinMax
import KE.GoesEnum
import HandS.TupAny
import HandS.Strs
import HandS.Conv
import HandS.DictComp
import HandS.IsInst
import HandS.Star
import HandS.Zip
import HandS.WordsExc
import HandS.Evl
import HandS.TryOnly
import HandS.ExcOwn
import PyProof.ReprLen
set_option Elab.async false
set_option linter.all false
set_option maxRecDepth 100000
set_option maxHeartbeats 0
namespace FwH
open PySem PySem.Spec PyProof.Rows L2
def topS (i : Nat) : Stmt := PySem.Challenge.pw_fewestrules_k93_whole_undone_and_replaye.main.body.getD i (.Pass ⟨0, 0, 0, 0⟩)

abbrev s_NotApplicable__init_ : Stmt := inClass (topS 4) 0
abbrev s_is_whole : Stmt := topS 11
abbrev s_is_level : Stmt := topS 12
abbrev s_is_letter : Stmt := topS 13
abbrev s_are_letters : Stmt := topS 14
abbrev s_is_order : Stmt := topS 15
abbrev s_removed : Stmt := topS 16
abbrev s_places_of : Stmt := topS 18
abbrev s_least_between : Stmt := topS 19
abbrev s_Pairs__init_ : Stmt := inClass (topS 20) 0
abbrev s_Pairs_can_follow : Stmt := inClass (topS 20) 1
abbrev s_Pairs_lengths : Stmt := inClass (topS 20) 2
abbrev s_Pairs_levels : Stmt := inClass (topS 20) 3
abbrev s_longest_in : Stmt := topS 21
abbrev s_longest_of : Stmt := topS 22
abbrev s_levels_of : Stmt := topS 23
abbrev s_is_integer : Stmt := topS 28
abbrev s_is_rule : Stmt := topS 29
abbrev s_is_rule_list : Stmt := topS 30
abbrev s_check_order : Stmt := topS 31
abbrev s_check_rule : Stmt := topS 32
abbrev s_why_not : Stmt := topS 33
abbrev s_turned_around : Stmt := topS 34
abbrev s_put_after : Stmt := topS 35
abbrev s_put : Stmt := topS 36
abbrev s_applied : Stmt := topS 37
abbrev s_led : Stmt := topS 38
abbrev s_reaches : Stmt := topS 40
abbrev s_from_left : Stmt := topS 41
abbrev s_from_right : Stmt := topS 42
abbrev s_gap_rules : Stmt := topS 43
abbrev s_keep : Stmt := topS 44
abbrev s_check_orders : Stmt := topS 46
abbrev s_distance_of : Stmt := topS 47
abbrev s_rules_of : Stmt := topS 48
abbrev s_answer_for : Stmt := topS 49
abbrev s_is_command : Stmt := topS 52
abbrev s_behind : Stmt := topS 53
abbrev s_Workshop__init_ : Stmt := inClass (topS 54) 0
abbrev s_Workshop_do : Stmt := inClass (topS 54) 1
abbrev s_Workshop_undo : Stmt := inClass (topS 54) 2
abbrev s_Workshop_initial : Stmt := inClass (topS 54) 3
abbrev s_Workshop_current : Stmt := inClass (topS 54) 4
abbrev s_Workshop_distance : Stmt := inClass (topS 54) 5
abbrev s_Workshop_shortest : Stmt := inClass (topS 54) 6
abbrev s_Workshop_kept : Stmt := inClass (topS 54) 7
abbrev s_Workshop_journal : Stmt := inClass (topS 54) 9
abbrev s_Workshop_records : Stmt := inClass (topS 54) 10
abbrev s_replayed : Stmt := topS 56
abbrev s_law_stream : Stmt := topS 58
abbrev s_law_next : Stmt := topS 59
abbrev s_law_shuffled : Stmt := topS 60
abbrev s_law_order : Stmt := topS 61
abbrev s_law_rule : Stmt := topS 62
abbrev s_law_without : Stmt := topS 63
abbrev s_law_put : Stmt := topS 64
abbrev s_law_led : Stmt := topS 65
abbrev s_law_command : Stmt := topS 66
abbrev s_law_behind : Stmt := topS 67
abbrev s_law_replayed : Stmt := topS 70
abbrev s_law_state : Stmt := topS 71
abbrev s_law : Stmt := topS 72
def df (c m : Str) (o : Option Str) (q : Str) (s : Stmt) : He.DefD := ⟨(c, o), m, q, defArgs s, defBody s, defScope s, [], []⟩
def fn : List He.DefD := [
  df "NotApplicable" "__init__" (some "__init__") "NotApplicable.__init__" s_NotApplicable__init_,
  df "is_whole" "is_whole" none "is_whole" s_is_whole,
  df "is_level" "is_level" none "is_level" s_is_level,
  df "is_letter" "is_letter" none "is_letter" s_is_letter,
  df "are_letters" "are_letters" none "are_letters" s_are_letters,
  df "is_order" "is_order" none "is_order" s_is_order,
  df "removed" "removed" none "removed" s_removed,
  df "places_of" "places_of" none "places_of" s_places_of,
  df "least_between" "least_between" none "least_between" s_least_between,
  df "Pairs" "__init__" (some "__init__") "Pairs.__init__" s_Pairs__init_,
  df "Pairs" "can_follow" (some "can_follow") "Pairs.can_follow" s_Pairs_can_follow,
  df "Pairs" "lengths" (some "lengths") "Pairs.lengths" s_Pairs_lengths,
  df "Pairs" "levels" (some "levels") "Pairs.levels" s_Pairs_levels,
  df "longest_in" "longest_in" none "longest_in" s_longest_in,
  df "longest_of" "longest_of" none "longest_of" s_longest_of,
  df "levels_of" "levels_of" none "levels_of" s_levels_of,
  df "is_integer" "is_integer" none "is_integer" s_is_integer,
  df "is_rule" "is_rule" none "is_rule" s_is_rule,
  df "is_rule_list" "is_rule_list" none "is_rule_list" s_is_rule_list,
  df "check_order" "check_order" none "check_order" s_check_order,
  df "check_rule" "check_rule" none "check_rule" s_check_rule,
  df "why_not" "why_not" none "why_not" s_why_not,
  df "turned_around" "turned_around" none "turned_around" s_turned_around,
  df "put_after" "put_after" none "put_after" s_put_after,
  df "put" "put" none "put" s_put,
  df "applied" "applied" none "applied" s_applied,
  df "led" "led" none "led" s_led,
  df "reaches" "reaches" none "reaches" s_reaches,
  df "from_left" "from_left" none "from_left" s_from_left,
  df "from_right" "from_right" none "from_right" s_from_right,
  df "gap_rules" "gap_rules" none "gap_rules" s_gap_rules,
  df "keep" "keep" none "keep" s_keep,
  df "check_orders" "check_orders" none "check_orders" s_check_orders,
  df "distance_of" "distance_of" none "distance_of" s_distance_of,
  df "rules_of" "rules_of" none "rules_of" s_rules_of,
  df "answer_for" "answer_for" none "answer_for" s_answer_for,
  df "is_command" "is_command" none "is_command" s_is_command,
  df "behind" "behind" none "behind" s_behind,
  df "Workshop" "__init__" (some "__init__") "Workshop.__init__" s_Workshop__init_,
  df "Workshop" "do" (some "do") "Workshop.do" s_Workshop_do,
  df "Workshop" "undo" (some "undo") "Workshop.undo" s_Workshop_undo,
  df "Workshop" "initial" (some "initial") "Workshop.initial" s_Workshop_initial,
  df "Workshop" "current" (some "current") "Workshop.current" s_Workshop_current,
  df "Workshop" "distance" (some "distance") "Workshop.distance" s_Workshop_distance,
  df "Workshop" "shortest" (some "shortest") "Workshop.shortest" s_Workshop_shortest,
  df "Workshop" "kept" (some "kept") "Workshop.kept" s_Workshop_kept,
  df "Workshop" "journal" (some "journal") "Workshop.journal" s_Workshop_journal,
  df "Workshop" "records" (some "records") "Workshop.records" s_Workshop_records,
  df "replayed" "replayed" none "replayed" s_replayed,
  df "_law_stream" "_law_stream" none "_law_stream" s_law_stream,
  df "_law_next" "_law_next" none "_law_next" s_law_next,
  df "_law_shuffled" "_law_shuffled" none "_law_shuffled" s_law_shuffled,
  df "_law_order" "_law_order" none "_law_order" s_law_order,
  df "_law_rule" "_law_rule" none "_law_rule" s_law_rule,
  df "_law_without" "_law_without" none "_law_without" s_law_without,
  df "_law_put" "_law_put" none "_law_put" s_law_put,
  df "_law_led" "_law_led" none "_law_led" s_law_led,
  df "_law_command" "_law_command" none "_law_command" s_law_command,
  df "_law_behind" "_law_behind" none "_law_behind" s_law_behind,
  df "_law_replayed" "_law_replayed" none "_law_replayed" s_law_replayed,
  df "_law_state" "_law_state" none "_law_state" s_law_state,
  df "law" "law" none "law" s_law]
def fa : List He.Fa := [
  .glo "is_whole",
  .glo "is_level",
  .glo "is_letter",
  .glo "are_letters",
  .glo "is_order",
  .glo "removed",
  .glo "places_of",
  .glo "least_between",
  .glo "longest_in",
  .glo "longest_of",
  .glo "levels_of",
  .glo "is_integer",
  .glo "is_rule",
  .glo "is_rule_list",
  .glo "check_order",
  .glo "check_rule",
  .glo "why_not",
  .glo "turned_around",
  .glo "put_after",
  .glo "put",
  .glo "applied",
  .glo "led",
  .glo "reaches",
  .glo "from_left",
  .glo "from_right",
  .glo "gap_rules",
  .glo "keep",
  .glo "check_orders",
  .glo "distance_of",
  .glo "rules_of",
  .glo "answer_for",
  .glo "is_command",
  .glo "behind",
  .glo "replayed",
  .glo "_law_stream",
  .glo "_law_next",
  .glo "_law_shuffled",
  .glo "_law_order",
  .glo "_law_rule",
  .glo "_law_without",
  .glo "_law_put",
  .glo "_law_led",
  .glo "_law_command",
  .glo "_law_behind",
  .glo "_law_replayed",
  .glo "_law_state",
  .glo "law",
  .glo "Pairs",
  .glo "Workshop",
  .glo "NotApplicable",
  .glo "SIDES",
  .free "isinstance",
  .free "len",
  .free "max",
  .free "min",
  .free "all",
  .free "int",
  .free "str",
  .free "tuple",
  .free "bool",
  .free "enumerate",
  .free "range",
  .free "zip",
  .free "list",
  .free "abs",
  .free "repr",
  .int "LONGEST" 12,
  .int "MOST" 12,
  .int "MOST_LETTERS" 12,
  .int "MOST_RULES" 20,
  .int "MOST_COMMANDS" 20,
  .str "CHARACTERS" "abcdefghijklmnopqrstuvwxyz",
  .str "DIGITS" "0123456789",
  .cls "Pairs",
  .mkr "Pairs",
  .cls "Workshop",
  .mkr "Workshop",
  .noat "Pairs" "places",
  .noat "Pairs" "first",
  .noat "Pairs" "second",
  .noat "Pairs" "own",
  .noat "Pairs" "letters",
  .noat "Pairs" "many",
  .noat "Pairs" "links",
  .noat "Workshop" "orders",
  .noat "Workshop" "commands",
  .noat "NotApplicable" "index",
  .noat "NotApplicable" "why",
  .meth "Pairs" "can_follow",
  .meth "Pairs" "lengths",
  .meth "Pairs" "levels",
  .meth "Workshop" "do",
  .meth "Workshop" "undo",
  .meth "Workshop" "initial",
  .meth "Workshop" "current",
  .meth "Workshop" "distance",
  .meth "Workshop" "shortest",
  .meth "Workshop" "kept",
  .meth "Workshop" "journal",
  .meth "Workshop" "records",
  .exm "NotApplicable" "NotApplicable" true,
  .keep "NotApplicable"]
/-- the exception class: what ExcInit and ExcField ask of the written part -/
def oexB (K : PySem.W.Frag) (C fI : Addr) : Bool := (match K.lookup C with
  | some ⟨.type "type", _, .cls cd, sl⟩ => (match cd.mro, sl.toList with
    | .ref C' :: bm, [_, _, _, _, some (.builtin n), _] => C' == C && (n == "ValueError.__new__" && (!cd.hasDel && (cd.hasDict && PySem.HandSPX.refsVE bm)))
    | _, _ => false)
  | _ => false) && (decide (PySem.W.findIn K (.ref C) "__setattr__" = some (some (.builtin "object.__setattr__"))) && (decide (PySem.W.subIn K (.ref C) (.type "BaseException") = some true) &&
  (decide (PySem.W.typeIn K (.ref C) = some (.type "type")) && (PySem.W.keepIn K (.ref C) && (xfB K C &&
  (decide (PySem.W.findIn K (.ref C) "__init__" = some (some (.ref fI))) && decide (PySem.W.typeIn K (.ref fI) = some (.type "function"))))))))
theorem oexB_ok {K : PySem.W.Frag} {C fI : Addr} (h : oexB K C fI = true) : OexC K C ∧ XfC K C ∧ PySem.W.findIn K (.ref C) "__init__" = some (some (.ref fI)) ∧ PySem.W.typeIn K (.ref fI) = some (.type "function") := by
  unfold oexB at h
  obtain ⟨h0, h⟩ := Bool.and_eq_true_iff.mp h
  obtain ⟨h1, h⟩ := Bool.and_eq_true_iff.mp h
  obtain ⟨h2, h⟩ := Bool.and_eq_true_iff.mp h
  obtain ⟨h3, h⟩ := Bool.and_eq_true_iff.mp h
  obtain ⟨h4, h⟩ := Bool.and_eq_true_iff.mp h
  obtain ⟨h5, h⟩ := Bool.and_eq_true_iff.mp h
  obtain ⟨h6, h7⟩ := Bool.and_eq_true_iff.mp h
  refine ⟨⟨?_, of_decide_eq_true h1, of_decide_eq_true h2, of_decide_eq_true h3, h4⟩, xfB_ok h5, of_decide_eq_true h6, of_decide_eq_true h7⟩
  split at h0
  · rename_i dd cd sl ho
    split at h0
    · rename_i C' bm a0 a1 a2 a3 n a5 hm hs
      obtain ⟨g1, g⟩ := Bool.and_eq_true_iff.mp h0
      obtain ⟨g2, g⟩ := Bool.and_eq_true_iff.mp g
      obtain ⟨g3, g⟩ := Bool.and_eq_true_iff.mp g
      obtain ⟨g4, g5⟩ := Bool.and_eq_true_iff.mp g
      obtain rfl : C' = C := beq_iff_eq.mp g1
      obtain rfl : n = "ValueError.__new__" := beq_iff_eq.mp g2
      obtain ⟨nm, bs, mro, ns, q, hd, sn, sub, ab, col, del⟩ := cd
      simp only at hm g3 g4
      subst hm
      have e4 : del = false := by simpa using g3
      subst e4
      subst g4
      have es : sl = #[a0, a1, a2, a3, some (.builtin "ValueError.__new__"), a5] := by
        have e := congrArg List.toArray hs
        simpa using e
      subst es
      exact ⟨nm, q, ns, bs, bm, sn, sub, ab, col, dd, a0, a1, a2, a3, a5, ho, g5⟩
    · cases h0
  · cases h0
def ex (K : PySem.W.Frag) : Bool := oexB K (He.ga K "NotApplicable") (He.ma K (He.ga K "NotApplicable") "__init__") && He.tupB K "SIDES" [.str "after", .str "before"]
abbrev R : PySem.W.OpenRow := PySem.W.OpenLaw.row PySem.Challenge.rw_fewestrules_k93_whole_undone_and_replaye
abbrev hk : PySem.W.Hook := He.hookX 5 fa fn [] [] ex
def ob (s : PySem.W.SharedT) : He.AlX := He.obsX 5 fa fn [] [] ex (HandSHeadRun.getT s)
theorem ob_eq (s : PySem.W.SharedT) : ob s = hk.obs s.abs := He.obsX_eq (HandSHeadRun.getT_eq s)
def names0 : List Str := ["_wall", "RulesError", "BadValue", "NotApplicable", "TooLarge", "CHARACTERS", "DIGITS", "LONGEST", "MOST", "is_whole", "is_level", "is_letter", "are_letters", "is_order", "removed", "places_of", "least_between", "Pairs", "longest_in", "longest_of", "levels_of", "SIDES", "MOST_LETTERS", "MOST_RULES", "is_integer", "is_rule", "is_rule_list", "check_order", "check_rule", "why_not"]
def names1 : List Str := ["turned_around", "put_after", "put", "applied", "led", "reaches", "from_left", "from_right", "gap_rules", "keep", "check_orders", "distance_of", "rules_of", "answer_for", "MOST_COMMANDS", "is_command", "behind", "Workshop", "replayed", "_law_stream", "_law_next", "_law_shuffled", "_law_order", "_law_rule", "_law_without", "_law_put", "_law_led", "_law_command", "_law_behind", "_law_why"]
def names2 : List Str := ["_law_told", "_law_replayed", "_law_state"]
def names : List Str := names0 ++ names1 ++ names2
theorem run (w : World) : HandSHeadRun.RunEq R (PySem.W.view R.prog [72]) hk ob 6000 names w := by
  intro os
  kernel_rfl
end FwH

/-! FwMath: the mirror of the program as plain functions, and what the walk asks of it. No program in sight. -/
namespace Fw
universe u
structure Ord (α : Type) where
  ls : List α
  ss : List Int
  deriving DecidableEq
structure Rul (α : Type) where
  aft : Bool
  anc : α
  k : Int
  mov : α
  deriving DecidableEq
inductive Cmd (α : Type) where
  | reset
  | rule (r : Rul α)
  | rules (rs : List (Rul α))

section
variable {α : Type} [DecidableEq α]
def mn (m n : Int) : Int := if n < m then n else m
/-! ### orders and rules -/
def rem (o : Ord α) (x : α) : Ord α :=
  if o.ls.idxOf x = 0 then ⟨o.ls.take (o.ls.idxOf x) ++ o.ls.drop (o.ls.idxOf x + 1), o.ss.drop 1⟩
  else if o.ls.idxOf x + 1 = o.ls.length then ⟨o.ls.take (o.ls.idxOf x) ++ o.ls.drop (o.ls.idxOf x + 1), o.ss.dropLast⟩
  else ⟨o.ls.take (o.ls.idxOf x) ++ o.ls.drop (o.ls.idxOf x + 1), o.ss.take (o.ls.idxOf x - 1) ++ [mn (o.ss.getD (o.ls.idxOf x - 1) 0) (o.ss.getD (o.ls.idxOf x) 0)] ++ o.ss.drop (o.ls.idxOf x + 1)⟩
/-- how far the while of put_after goes, from the place p -/
def up (ss : List Int) (k : Int) (p : Nat) : Nat := p + ((ss.drop p).takeWhile fun s => decide (k < s)).length
def putA (o : Ord α) (a : α) (k : Int) (x : α) : Ord α :=
  ⟨o.ls.take (up o.ss k (o.ls.idxOf a) + 1) ++ [x] ++ o.ls.drop (up o.ss k (o.ls.idxOf a) + 1), o.ss.take (up o.ss k (o.ls.idxOf a)) ++ [k] ++ o.ss.drop (up o.ss k (o.ls.idxOf a))⟩
def rev (o : Ord α) : Ord α := ⟨o.ls.reverse, o.ss.reverse⟩
/-- the order with the rule's letter taken out -/
def base (o : Ord α) (x : α) : Ord α := if x ∈ o.ls then rem o x else o
def put (o : Ord α) (r : Rul α) : Ord α := if r.aft then putA (base o r.mov) r.anc r.k r.mov else rev (putA (rev (base o r.mov)) r.anc r.k r.mov)
/-- the law's way -/
def dn (ss : List Int) (k : Int) (p : Nat) : Nat := p - ((ss.take p).reverse.takeWhile fun s => decide (k < s)).length
def putB (o : Ord α) (a : α) (k : Int) (x : α) : Ord α :=
  ⟨o.ls.take (dn o.ss k (o.ls.idxOf a)) ++ [x] ++ o.ls.drop (dn o.ss k (o.ls.idxOf a)), o.ss.take (dn o.ss k (o.ls.idxOf a)) ++ [k] ++ o.ss.drop (dn o.ss k (o.ls.idxOf a))⟩
def lput (o : Ord α) (r : Rul α) : Ord α := if r.aft then putA (base o r.mov) r.anc r.k r.mov else putB (base o r.mov) r.anc r.k r.mov

/-- an order as the program asks it: different letters, a strength fewer, each from 1 to 3 -/
structure WF (o : Ord α) : Prop where
  nd : o.ls.Nodup
  len : o.ss.length + 1 = o.ls.length
  lv : ∀ s ∈ o.ss, 1 ≤ s ∧ s ≤ 3

theorem nd_rev {l : List α} (h : l.Nodup) : l.reverse.Nodup := by
  unfold List.Nodup
  rw [List.pairwise_reverse]
  exact h.imp fun a => a.symm
theorem idx_lt {l : List α} {x : α} (h : x ∈ l) : l.idxOf x < l.length := List.idxOf_lt_length_of_mem h
theorem idx_get {l : List α} {x : α} (h : x ∈ l) : l[l.idxOf x]? = some x := by
  rw [List.getElem?_eq_getElem (idx_lt h)]
  simp
theorem idx_at {l : List α} (nd : l.Nodup) {i : Nat} {x : α} (h : l[i]? = some x) : l.idxOf x = i := by
  have hx : x ∈ l := List.mem_of_getElem? h
  have h2 := idx_get hx
  obtain ⟨p1, e1⟩ := List.getElem?_eq_some_iff.mp h
  obtain ⟨p2, e2⟩ := List.getElem?_eq_some_iff.mp h2
  exact ((List.getElem_inj nd).mp (e2.trans e1.symm))
theorem split_at {l : List α} {x : α} (h : x ∈ l) : l = l.take (l.idxOf x) ++ x :: l.drop (l.idxOf x + 1) := by
  have h1 := idx_lt h
  have h2 : l.drop (l.idxOf x) = x :: l.drop (l.idxOf x + 1) := by
    rw [List.drop_eq_getElem_cons h1]
    simp
  conv => lhs; rw [← List.take_append_drop (l.idxOf x) l]
  rw [h2]
theorem rem_ls (o : Ord α) (x : α) : (rem o x).ls = o.ls.take (o.ls.idxOf x) ++ o.ls.drop (o.ls.idxOf x + 1) := by
  unfold rem
  split
  · rfl
  · split <;> rfl
theorem rem_mem {o : Ord α} {x y : α} (w : WF o) (h : x ∈ o.ls) : y ∈ (rem o x).ls ↔ y ∈ o.ls ∧ y ≠ x := by
  rw [rem_ls]
  have hs := split_at h
  have nd := w.nd
  rw [hs] at nd
  have hm : y ∈ o.ls ↔ y ∈ o.ls.take (o.ls.idxOf x) ++ x :: o.ls.drop (o.ls.idxOf x + 1) := by rw [← hs]
  rw [hm]
  rw [List.nodup_append] at nd
  obtain ⟨n1, n2, n3⟩ := nd
  rw [List.nodup_cons] at n2
  simp only [List.mem_append, List.mem_cons]
  constructor
  · rintro (a | a)
    · exact ⟨.inl a, fun e => n3 y a x List.mem_cons_self e⟩
    · exact ⟨.inr (.inr a), fun e => n2.1 (e ▸ a)⟩
  · rintro ⟨a | a | a, b⟩
    · exact .inl a
    · exact absurd a b
    · exact .inr a
theorem mn_lv {a b : Int} (ha : 1 ≤ a ∧ a ≤ 3) (hb : 1 ≤ b ∧ b ≤ 3) : 1 ≤ mn a b ∧ mn a b ≤ 3 := by
  unfold mn
  split
  · exact hb
  · exact ha
theorem rem_nd {o : Ord α} {x : α} (w : WF o) (h : x ∈ o.ls) : (rem o x).ls.Nodup := by
  rw [rem_ls]
  have nd := w.nd
  rw [split_at h, List.nodup_append] at nd
  obtain ⟨n1, n2, n3⟩ := nd
  rw [List.nodup_cons] at n2
  rw [List.nodup_append]
  exact ⟨n1, n2.2, fun a ha b hb => n3 a ha b (List.mem_cons_of_mem _ hb)⟩
/-- taking out a letter of an order that has another one -/
theorem rem_wf {o : Ord α} {x : α} (w : WF o) (h : x ∈ o.ls) (h2 : 2 ≤ o.ls.length) : WF (rem o x) := by
  have hl := w.len
  have hi := idx_lt h
  refine ⟨rem_nd w h, ?_, ?_⟩
  · rw [rem_ls]
    unfold rem
    split
    · simp only [List.length_append, List.length_take, List.length_drop]
      omega
    · split
      · simp only [List.length_append, List.length_take, List.length_drop, List.length_dropLast]
        omega
      · simp only [List.length_append, List.length_take, List.length_drop, List.length_singleton]
        omega
  · intro s hs
    unfold rem at hs
    split at hs
    · exact w.lv s (List.mem_of_mem_drop hs)
    · split at hs
      · exact w.lv s (List.dropLast_subset _ hs)
      · simp only [List.mem_append, List.mem_singleton] at hs
        rcases hs with (hs | hs) | hs
        · exact w.lv s (List.mem_of_mem_take hs)
        · subst hs
          have g1 : o.ss.getD (o.ls.idxOf x - 1) 0 ∈ o.ss := by
            rw [List.getD_eq_getElem?_getD, List.getElem?_eq_getElem (by omega)]
            simp
          have g2 : o.ss.getD (o.ls.idxOf x) 0 ∈ o.ss := by
            rw [List.getD_eq_getElem?_getD, List.getElem?_eq_getElem (by omega)]
            simp
          exact mn_lv (w.lv _ g1) (w.lv _ g2)
        · exact w.lv s (List.mem_of_mem_drop hs)
theorem up_le {ss : List Int} {k : Int} {p : Nat} (h : p ≤ ss.length) : up ss k p ≤ ss.length := by
  unfold up
  have h1 : ((ss.drop p).takeWhile fun s => decide (k < s)).length ≤ (ss.drop p).length := (List.takeWhile_sublist _).length_le
  rw [List.length_drop] at h1
  omega
theorem up_ge {ss : List Int} {k : Int} {p : Nat} : p ≤ up ss k p := Nat.le_add_right _ _
theorem putA_mem {o : Ord α} {a x y : α} {k : Int} : y ∈ (putA o a k x).ls ↔ y = x ∨ y ∈ o.ls := by
  unfold putA
  simp only [List.mem_append, List.mem_singleton]
  constructor
  · rintro ((h | h) | h)
    · exact .inr (List.mem_of_mem_take h)
    · exact .inl h
    · exact .inr (List.mem_of_mem_drop h)
  · rintro (h | h)
    · exact .inl (.inr h)
    · rw [← List.take_append_drop (up o.ss k (o.ls.idxOf a) + 1) o.ls, List.mem_append] at h
      rcases h with h | h
      · exact .inl (.inl h)
      · exact .inr h
theorem ins_nd {l : List α} {x : α} {p : Nat} (nd : l.Nodup) (hx : x ∉ l) : (l.take p ++ [x] ++ l.drop p).Nodup := by
  have h := nd
  rw [← List.take_append_drop p l, List.nodup_append] at h
  obtain ⟨n1, n2, n3⟩ := h
  rw [List.append_assoc, List.nodup_append]
  refine ⟨n1, ?_, ?_⟩
  · rw [List.singleton_append, List.nodup_cons]
    exact ⟨fun z => hx (List.mem_of_mem_drop z), n2⟩
  · intro a ha b hb
    rw [List.singleton_append, List.mem_cons] at hb
    rcases hb with hb | hb
    · exact fun e => hx (hb ▸ e ▸ List.mem_of_mem_take ha)
    · exact n3 a ha b hb
theorem putA_wf {o : Ord α} {a x : α} {k : Int} (w : WF o) (ha : a ∈ o.ls) (hx : x ∉ o.ls) (hk : 1 ≤ k ∧ k ≤ 3) : WF (putA o a k x) := by
  have hi := idx_lt ha
  have hl := w.len
  have hu : up o.ss k (o.ls.idxOf a) ≤ o.ss.length := up_le (by omega)
  refine ⟨ins_nd w.nd hx, ?_, ?_⟩
  · unfold putA
    simp only [List.length_append, List.length_take, List.length_drop, List.length_singleton]
    omega
  · intro s hs
    unfold putA at hs
    simp only [List.mem_append, List.mem_singleton] at hs
    rcases hs with (hs | hs) | hs
    · exact w.lv s (List.mem_of_mem_take hs)
    · rw [hs]; exact hk
    · exact w.lv s (List.mem_of_mem_drop hs)
theorem rev_wf {o : Ord α} (w : WF o) : WF (rev o) := ⟨by unfold rev; exact nd_rev w.nd, by unfold rev; simpa using w.len, by
  unfold rev
  intro s hs
  exact w.lv s (List.mem_reverse.mp hs)⟩
theorem rev_mem {o : Ord α} {y : α} : y ∈ (rev o).ls ↔ y ∈ o.ls := by unfold rev; exact List.mem_reverse
/-- what a rule must be for an order -/
structure RFit (o : Ord α) (r : Rul α) : Prop where
  ne : r.anc ≠ r.mov
  lv : 1 ≤ r.k ∧ r.k ≤ 3
  there : r.anc ∈ o.ls
theorem two_of {l : List α} {a b : α} (ha : a ∈ l) (hb : b ∈ l) (h : a ≠ b) : 2 ≤ l.length := by
  match l, ha, hb with
  | [], ha, _ => cases ha
  | [c], ha, hb => exact absurd ((List.mem_singleton.mp ha).trans (List.mem_singleton.mp hb).symm) h
  | _ :: _ :: _, _, _ => simp
theorem base_wf {o : Ord α} {r : Rul α} (w : WF o) (f : RFit o r) : WF (base o r.mov) ∧ r.mov ∉ (base o r.mov).ls ∧ r.anc ∈ (base o r.mov).ls := by
  unfold base
  by_cases h : r.mov ∈ o.ls
  · rw [if_pos h]
    exact ⟨rem_wf w h (two_of f.there h f.ne), fun z => ((rem_mem w h).mp z).2 rfl, (rem_mem w h).mpr ⟨f.there, f.ne⟩⟩
  · rw [if_neg h]
    exact ⟨w, h, f.there⟩
theorem put_wf {o : Ord α} {r : Rul α} (w : WF o) (f : RFit o r) : WF (put o r) := by
  obtain ⟨w1, h1, h2⟩ := base_wf w f
  unfold put
  split
  · exact putA_wf w1 h2 h1 f.lv
  · exact rev_wf (putA_wf (rev_wf w1) (rev_mem.mpr h2) (fun z => h1 (rev_mem.mp z)) f.lv)
theorem base_mem {o : Ord α} {x y : α} (w : WF o) : y ∈ (base o x).ls ∨ y = x ↔ y ∈ o.ls ∨ y = x := by
  unfold base
  by_cases h : x ∈ o.ls
  · rw [if_pos h, rem_mem w h]
    by_cases e : y = x
    · simp [e]
    · simp [e]
  · rw [if_neg h]
theorem put_mem {o : Ord α} {r : Rul α} {y : α} (w : WF o) : y ∈ (put o r).ls ↔ y ∈ o.ls ∨ y = r.mov := by
  have h : y ∈ (put o r).ls ↔ y ∈ (base o r.mov).ls ∨ y = r.mov := by
    unfold put
    split
    · rw [putA_mem]; exact Or.comm
    · rw [rev_mem, putA_mem, rev_mem]; exact Or.comm
  rw [h]
  exact base_mem w
theorem idx_rev {l : List α} (nd : l.Nodup) {x : α} (h : x ∈ l) : l.reverse.idxOf x = l.length - 1 - l.idxOf x := by
  refine idx_at (nd_rev nd) ?_
  have h1 := idx_lt h
  rw [List.getElem?_reverse (by omega)]
  have e : l.length - 1 - (l.length - 1 - l.idxOf x) = l.idxOf x := by omega
  rw [e]
  exact idx_get h
theorem putB_eq {o : Ord α} {a x : α} {k : Int} (w : WF o) (ha : a ∈ o.ls) : rev (putA (rev o) a k x) = putB o a k x := by
  have hi := idx_lt ha
  have hl := w.len
  have ei : (rev o).ls.idxOf a = o.ls.length - 1 - o.ls.idxOf a := idx_rev w.nd ha
  have ed : (rev o).ss.drop (o.ls.length - 1 - o.ls.idxOf a) = (o.ss.take (o.ls.idxOf a)).reverse := by
    show o.ss.reverse.drop _ = _
    rw [List.drop_reverse]
    congr 2
    omega
  have eu : up (rev o).ss k ((rev o).ls.idxOf a) = o.ls.length - 1 - dn o.ss k (o.ls.idxOf a) ∧ dn o.ss k (o.ls.idxOf a) ≤ o.ls.idxOf a := by
    unfold up dn
    rw [ei, ed]
    have h1 : ((o.ss.take (o.ls.idxOf a)).reverse.takeWhile fun s => decide (k < s)).length ≤ (o.ss.take (o.ls.idxOf a)).reverse.length := (List.takeWhile_sublist _).length_le
    rw [List.length_reverse, List.length_take] at h1
    omega
  obtain ⟨eu, hd⟩ := eu
  unfold putB
  unfold putA
  rw [eu]
  unfold rev
  simp only [Ord.mk.injEq]
  constructor
  · rw [List.reverse_append, List.reverse_append, List.drop_reverse, List.take_reverse, List.reverse_reverse, List.reverse_reverse]
    have e1 : o.ls.length - (o.ls.length - 1 - dn o.ss k (o.ls.idxOf a) + 1) = dn o.ss k (o.ls.idxOf a) := by omega
    rw [e1]
    simp
  · rw [List.reverse_append, List.reverse_append, List.drop_reverse, List.take_reverse, List.reverse_reverse, List.reverse_reverse]
    have e1 : o.ss.length - (o.ls.length - 1 - dn o.ss k (o.ls.idxOf a)) = dn o.ss k (o.ls.idxOf a) := by omega
    rw [e1]
    simp
theorem lput_eq {o : Ord α} {r : Rul α} (w : WF o) (f : RFit o r) : lput o r = put o r := by
  obtain ⟨w1, h1, h2⟩ := base_wf w f
  unfold lput put
  split
  · rfl
  · exact (putB_eq w1 h2).symm
/-! ### lists of rules, commands -/
/-- the order behind the rules, or the index of the first one whose anchor is not there -/
def ledX : Nat → Ord α → List (Rul α) → Ord α ⊕ Nat
  | _, o, [] => .inl o
  | i, o, r :: rs => if r.anc ∈ o.ls then ledX (i + 1) (put o r) rs else .inr i
/-- the same by the law's own function -/
def lled : Ord α → List (Rul α) → Option (Ord α)
  | o, [] => some o
  | o, r :: rs => if r.anc ∈ o.ls then lled (lput o r) rs else none
def stepX (i : Ord α) (o : Ord α) : Cmd α → Ord α ⊕ Nat
  | .reset => .inl i
  | .rule r => ledX 0 o [r]
  | .rules rs => ledX 0 o rs
def lstepO (i : Ord α) (o : Ord α) : Cmd α → Option (Ord α)
  | .reset => some i
  | .rule r => lled o [r]
  | .rules rs => lled o rs
/-- a rule of the text: two letters, a strength -/
structure ROk (r : Rul α) : Prop where
  ne : r.anc ≠ r.mov
  lv : 1 ≤ r.k ∧ r.k ≤ 3
theorem lled_eq : ∀ (rs : List (Rul α)) (i : Nat) (o : Ord α), WF o → (∀ r ∈ rs, ROk r) → lled o rs = (match ledX i o rs with | .inl z => some z | .inr _ => none)
  | [], _, _, _, _ => rfl
  | r :: rs, i, o, w, h => by
    unfold lled ledX
    by_cases q : r.anc ∈ o.ls
    · rw [if_pos q, if_pos q]
      have f : RFit o r := ⟨(h r List.mem_cons_self).ne, (h r List.mem_cons_self).lv, q⟩
      rw [lput_eq w f]
      exact lled_eq rs (i + 1) (put o r) (put_wf w f) fun z hz => h z (List.mem_cons_of_mem _ hz)
    · rw [if_neg q, if_neg q]
theorem ledX_wf : ∀ (rs : List (Rul α)) (i : Nat) (o z : Ord α), WF o → (∀ r ∈ rs, ROk r) → ledX i o rs = .inl z → WF z ∧ (∀ x ∈ o.ls, x ∈ z.ls) ∧ (∀ x ∈ z.ls, x ∈ o.ls ∨ ∃ r ∈ rs, x = r.mov)
  | [], _, o, z, w, _, e => by
    cases e
    exact ⟨w, fun _ h => h, fun _ h => .inl h⟩
  | r :: rs, i, o, z, w, h, e => by
    unfold ledX at e
    by_cases q : r.anc ∈ o.ls
    · rw [if_pos q] at e
      have f : RFit o r := ⟨(h r List.mem_cons_self).ne, (h r List.mem_cons_self).lv, q⟩
      obtain ⟨w1, s1, s2⟩ := ledX_wf rs (i + 1) (put o r) z (put_wf w f) (fun z hz => h z (List.mem_cons_of_mem _ hz)) e
      refine ⟨w1, fun x hx => s1 x ((put_mem w).mpr (.inl hx)), fun x hx => ?_⟩
      rcases s2 x hx with y | ⟨r', hr', y⟩
      · rcases (put_mem w).mp y with y | y
        · exact .inl y
        · exact .inr ⟨r, List.mem_cons_self, y⟩
      · exact .inr ⟨r', List.mem_cons_of_mem _ hr', y⟩
    · rw [if_neg q] at e
      cases e
end
end Fw

/-! FwLcs: what common.py and keeping.py compute, and the little that is asked of it: that it is there. -/
namespace Fw
variable {α : Type} [DecidableEq α]
/-! ### greatest and least -/
def mx0 (l : List Int) : Int := l.foldl max 0
theorem foldl_max_spec : ∀ (l : List Int) (n : Int), l.foldl max n ∈ n :: l ∧ ∀ y ∈ n :: l, y ≤ l.foldl max n
  | [], n => ⟨List.mem_singleton_self n, fun y hy => by rw [List.mem_singleton.mp hy]; exact Int.le_refl _⟩
  | x :: l, n => by
    obtain ⟨h1, h2⟩ := foldl_max_spec l (max n x)
    rw [List.foldl_cons]
    refine ⟨?_, fun y hy => ?_⟩
    · rcases List.mem_cons.mp h1 with e | e
      · rw [e]
        rcases Int.le_total n x with q | q
        · rw [Int.max_eq_right q]; simp
        · rw [Int.max_eq_left q]; simp
      · simp [e]
    · have hm := h2 (max n x) List.mem_cons_self
      rcases List.mem_cons.mp hy with e | e
      · subst e; exact Int.le_trans (Int.le_max_left _ _) hm
      · rcases List.mem_cons.mp e with e | e
        · subst e; exact Int.le_trans (Int.le_max_right _ _) hm
        · exact h2 y (List.mem_cons_of_mem _ e)
theorem mx0_mem (l : List Int) : mx0 l ∈ 0 :: l := (foldl_max_spec l 0).1
theorem mx0_ge {l : List Int} {y : Int} (h : y ∈ 0 :: l) : y ≤ mx0 l := (foldl_max_spec l 0).2 y h
theorem mx0_eq {l : List Int} {m : Int} (h1 : m ∈ 0 :: l) (h2 : ∀ y ∈ 0 :: l, y ≤ m) : m = mx0 l := Int.le_antisymm (mx0_ge h1) (h2 _ (mx0_mem l))
theorem mx0_nonneg (l : List Int) : 0 ≤ mx0 l := mx0_ge List.mem_cons_self
def lo : List Int → Int
  | [] => 0
  | x :: t => t.foldl min x
theorem foldl_min_spec' : ∀ (l : List Int) (n : Int), l.foldl min n ∈ n :: l ∧ ∀ y ∈ n :: l, l.foldl min n ≤ y
  | [], n => ⟨List.mem_singleton_self n, fun y hy => by rw [List.mem_singleton.mp hy]; exact Int.le_refl _⟩
  | x :: l, n => by
    obtain ⟨h1, h2⟩ := foldl_min_spec' l (min n x)
    rw [List.foldl_cons]
    refine ⟨?_, fun y hy => ?_⟩
    · rcases List.mem_cons.mp h1 with e | e
      · rw [e]
        rcases Int.le_total n x with q | q
        · rw [Int.min_eq_left q]; simp
        · rw [Int.min_eq_right q]; simp
      · simp [e]
    · have hm := h2 (min n x) List.mem_cons_self
      rcases List.mem_cons.mp hy with e | e
      · subst e; exact Int.le_trans hm (Int.min_le_left _ _)
      · rcases List.mem_cons.mp e with e | e
        · subst e; exact Int.le_trans hm (Int.min_le_right _ _)
        · exact h2 y (List.mem_cons_of_mem _ e)
theorem lo_eq {l : List Int} {m : Int} (h1 : m ∈ l) (h2 : ∀ y ∈ l, m ≤ y) : m = lo l := by
  cases l with
  | nil => cases h1
  | cons x t =>
    obtain ⟨a, b⟩ := foldl_min_spec' t x
    exact Int.le_antisymm (h2 _ a) (b _ h1)
theorem lo_mem {l : List Int} (h : l ≠ []) : lo l ∈ l := by
  cases l with
  | nil => exact absurd rfl h
  | cons x t => exact (foldl_min_spec' t x).1
/-! ### lists by place -/
theorem fm_get {β γ : Type} {g : β → Option γ} : ∀ {l : List β} (h : ∀ i ∈ l, ∃ x, g i = some x) (t : Nat), (l.filterMap g)[t]? = (l[t]?).bind g
  | [], _, t => by simp
  | i :: l, h, t => by
    obtain ⟨x, hx⟩ := h i List.mem_cons_self
    rw [List.filterMap_cons_some hx]
    cases t with
    | zero => simp [hx]
    | succ t => simpa using fm_get (l := l) (fun j hj => h j (List.mem_cons_of_mem _ hj)) t
theorem fm_len {β γ : Type} {g : β → Option γ} : ∀ {l : List β} (h : ∀ i ∈ l, ∃ x, g i = some x), (l.filterMap g).length = l.length
  | [], _ => rfl
  | i :: l, h => by
    obtain ⟨x, hx⟩ := h i List.mem_cons_self
    rw [List.filterMap_cons_some hx, List.length_cons, List.length_cons, fm_len fun j hj => h j (List.mem_cons_of_mem _ hj)]
/-! ### pairs -/
def ownT (f o : Ord α) (t : Nat) : List Nat := (List.range t).filter fun i => match o.ls[i]? with | some x => decide (x ∈ f.ls) | none => false
def own (f o : Ord α) : List Nat := ownT f o o.ls.length
def many (f o : Ord α) : Nat := (own f o).length
def letsT (f o : Ord α) (t : Nat) : List α := ((own f o).take t).filterMap (o.ls[·]?)
def lets (f o : Ord α) : List α := letsT f o (many f o)
def leastB (ss : List Int) (a b : Nat) : Int := lo ((ss.drop a).take (b - a))
def fol (f o : Ord α) (i j : Nat) : Bool :=
  match (own f o)[i]?, (own f o)[j]?, (lets f o)[i]?, (lets f o)[j]? with
  | some a, some b, some x, some y => if f.ls.idxOf x > f.ls.idxOf y then false else decide (leastB f.ss (f.ls.idxOf x) (f.ls.idxOf y) = leastB o.ss a b)
  | _, _, _, _ => false
def lkT (f o : Ord α) (i t : Nat) : List Nat := ((List.range t).map (i + 1 + ·)).filter (fol f o i)
def lk (f o : Ord α) (i : Nat) : List Nat := lkT f o i (many f o - (i + 1))
theorem own_mem {f o : Ord α} {i : Nat} (h : i ∈ own f o) : ∃ x, o.ls[i]? = some x ∧ x ∈ f.ls := by
  obtain ⟨_, h⟩ := List.mem_filter.mp h
  split at h
  · rename_i x e
    exact ⟨x, e, of_decide_eq_true h⟩
  · cases h
theorem own_lt {f o : Ord α} {i : Nat} (h : i ∈ own f o) : i < o.ls.length := List.mem_range.mp (List.mem_filter.mp h).1
theorem own_le (f o : Ord α) : many f o ≤ o.ls.length := by
  have := List.length_filter_le (fun i => match o.ls[i]? with | some x => decide (x ∈ f.ls) | none => false) (List.range o.ls.length)
  rw [List.length_range] at this
  exact this
theorem own_asc (f o : Ord α) : (own f o).Pairwise (· < ·) := List.Pairwise.filter _ List.pairwise_lt_range
theorem own_get_lt {f o : Ord α} {i j a b : Nat} (h : i < j) (ha : (own f o)[i]? = some a) (hb : (own f o)[j]? = some b) : a < b := by
  obtain ⟨ia, ea⟩ := List.getElem?_eq_some_iff.mp ha
  obtain ⟨jb, eb⟩ := List.getElem?_eq_some_iff.mp hb
  rw [← ea, ← eb]
  exact List.pairwise_iff_getElem.mp (own_asc f o) i j ia jb h
theorem lets_eq (f o : Ord α) : lets f o = (own f o).filterMap (o.ls[·]?) := by
  unfold lets letsT many
  rw [List.take_length]
theorem lets_get {f o : Ord α} (i : Nat) : (lets f o)[i]? = ((own f o)[i]?).bind (o.ls[·]?) := by
  rw [lets_eq]
  exact fm_get (fun i hi => let ⟨x, e, _⟩ := own_mem hi; ⟨x, e⟩) i
theorem lets_len (f o : Ord α) : (lets f o).length = many f o := by
  rw [lets_eq]
  exact fm_len (fun i hi => let ⟨x, e, _⟩ := own_mem hi; ⟨x, e⟩)
theorem own_at {f o : Ord α} {i : Nat} (h : i < many f o) : ∃ a x, (own f o)[i]? = some a ∧ (lets f o)[i]? = some x ∧ o.ls[a]? = some x ∧ x ∈ f.ls ∧ a < o.ls.length := by
  have e : (own f o)[i]? = some ((own f o)[i]'h) := List.getElem?_eq_getElem h
  have hm : (own f o)[i]'h ∈ own f o := List.getElem_mem h
  obtain ⟨x, h1, h2⟩ := own_mem hm
  exact ⟨_, x, e, by rw [lets_get, e]; exact h1, h1, h2, own_lt hm⟩
theorem many_pos {f o : Ord α} {x : α} (h : x ∈ f.ls) (h2 : x ∈ o.ls) : 0 < many f o := by
  refine List.length_pos_of_mem (a := o.ls.idxOf x) (List.mem_filter.mpr ⟨List.mem_range.mpr (idx_lt h2), ?_⟩)
  rw [idx_get h2]
  exact decide_eq_true h
theorem lk_mem {f o : Ord α} {i j : Nat} (h : j ∈ lk f o i) : i < j ∧ j < many f o := by
  obtain ⟨h, _⟩ := List.mem_filter.mp h
  obtain ⟨t, ht, rfl⟩ := List.mem_map.mp h
  have := List.mem_range.mp ht
  omega
/-! ### lengths -/
def lenS (g : Nat → List Nat) (n : Nat) : Nat → List Int
  | 0 => List.replicate n 1
  | t + 1 => (lenS g n t).set (n - 1 - t) (1 + mx0 ((g (n - 1 - t)).map fun j => (lenS g n t).getD j 0))
def lens (g : Nat → List Nat) (n : Nat) : List Int := lenS g n n
def Lf (g : Nat → List Nat) (n : Nat) (i : Nat) : Int := (lens g n).getD i 0
theorem lenS_len (g : Nat → List Nat) (n t : Nat) : (lenS g n t).length = n := by
  induction t with
  | zero => exact List.length_replicate
  | succ t ih => unfold lenS; rw [List.length_set, ih]
theorem set_getD {l : List Int} {i j : Nat} {v : Int} (h : i ≠ j) : (l.set i v).getD j 0 = l.getD j 0 := by
  rw [List.getD_eq_getElem?_getD, List.getD_eq_getElem?_getD, List.getElem?_set_ne h]
theorem set_getD_self {l : List Int} {i : Nat} {v : Int} (h : i < l.length) : (l.set i v).getD i 0 = v := by
  rw [List.getD_eq_getElem?_getD, List.getElem?_set_self h]
  rfl
theorem lenS_rec {g : Nat → List Nat} {n : Nat} (hg : ∀ i, ∀ j ∈ g i, i < j) (t i : Nat) (ht : t ≤ n) (h : n - t ≤ i) (hi : i < n) : (lenS g n t).getD i 0 = 1 + mx0 ((g i).map fun j => (lenS g n t).getD j 0) := by
  induction t generalizing i with
  | zero => omega
  | succ t ih =>
    have hp : n - 1 - t < (lenS g n t).length := by rw [lenS_len]; omega
    have keep : ∀ k, n - 1 - t < k → (lenS g n (t + 1)).getD k 0 = (lenS g n t).getD k 0 := fun k hk => by
      rw [lenS, set_getD (by omega)]
    have km : ∀ k, n - 1 - t ≤ k → ((g k).map fun j => (lenS g n (t + 1)).getD j 0) = (g k).map fun j => (lenS g n t).getD j 0 := fun k hk => List.map_congr_left fun j hj => keep j (by have := hg k j hj; omega)
    by_cases e : i = n - 1 - t
    · subst e
      rw [km _ (Nat.le_refl _)]
      rw [lenS, set_getD_self hp]
    · rw [keep i (by omega), km i (by omega)]
      exact ih i (by omega) (by omega) hi
theorem Lf_rec {g : Nat → List Nat} {n i : Nat} (hg : ∀ i, ∀ j ∈ g i, i < j) (hi : i < n) : Lf g n i = 1 + mx0 ((g i).map (Lf g n)) := lenS_rec hg n i (Nat.le_refl _) (by omega) hi
theorem lens_map (g : Nat → List Nat) (n : Nat) : lens g n = (List.range n).map (Lf g n) := by
  refine List.ext_getElem? fun i => ?_
  by_cases h : i < n
  · have h2 : i < (lens g n).length := by unfold lens; rw [lenS_len]; exact h
    rw [List.getElem?_map, List.getElem?_range h, List.getElem?_eq_getElem h2]
    show _ = some ((lens g n).getD i 0)
    rw [List.getD_eq_getElem?_getD, List.getElem?_eq_getElem h2]
    rfl
  · rw [List.getElem?_eq_none (by unfold lens; rw [lenS_len]; omega), List.getElem?_eq_none (by rw [List.length_map, List.length_range]; omega)]
/-! ### the longest -/
def goL (g : Nat → List Nat) (L : Nat → Int) : Nat → List Nat → List Nat
  | 0, _ => []
  | k + 1, cs => match (cs.filter fun c => decide (L c = ((k + 1 : Nat) : Int))).min? with
    | none => []
    | some i => i :: goL g L k (g i)
theorem go_step {g : Nat → List Nat} {L : Nat → Int} {k : Nat} {cs : List Nat} {i : Nat} (h : i ∈ cs) (hl : L i = ((k + 1 : Nat) : Int)) (hm : ∀ c ∈ cs, L c = ((k + 1 : Nat) : Int) → i ≤ c) : goL g L (k + 1) cs = i :: goL g L k (g i) := by
  rw [goL]
  have e : (cs.filter fun c => decide (L c = ((k + 1 : Nat) : Int))).min? = some i := by
    rw [List.min?_eq_some_iff]
    exact ⟨List.mem_filter.mpr ⟨h, decide_eq_true hl⟩, fun b hb => hm b (List.mem_filter.mp hb).1 (of_decide_eq_true (List.mem_filter.mp hb).2)⟩
  rw [e]
/-- what stands at a turn: k is the greatest length of the choices -/
structure Go (g : Nat → List Nat) (n : Nat) (k : Nat) (cs : List Nat) : Prop where
  lt : ∀ c ∈ cs, c < n
  mx : ((k : Nat) : Int) = mx0 (cs.map (Lf g n))
theorem Go.pick {g : Nat → List Nat} {n k : Nat} {cs : List Nat} (h : Go g n (k + 1) cs) : ∃ c ∈ cs, Lf g n c = ((k + 1 : Nat) : Int) := by
  have q := mx0_mem (cs.map (Lf g n))
  rw [← h.mx] at q
  rcases List.mem_cons.mp q with e | e
  · omega
  · obtain ⟨c, h1, h2⟩ := List.mem_map.mp e
    exact ⟨c, h1, h2⟩
theorem Go.next {g : Nat → List Nat} {n k i : Nat} {cs : List Nat} (hg : ∀ i, ∀ j ∈ g i, i < j ∧ j < n) (h : Go g n (k + 1) cs) (hi : i ∈ cs) (hl : Lf g n i = ((k + 1 : Nat) : Int)) : Go g n k (g i) := by
  refine ⟨fun c hc => (hg i c hc).2, ?_⟩
  have := Lf_rec (g := g) (n := n) (fun i j hj => (hg i j hj).1) (h.lt i hi)
  omega
theorem min_pick {cs : List Nat} {p : Nat → Prop} [DecidablePred p] (h : ∃ c ∈ cs, p c) : ∃ i ∈ cs, p i ∧ ∀ c ∈ cs, p c → i ≤ c := by
  obtain ⟨c, hc, pc⟩ := h
  cases e : (cs.filter fun c => decide (p c)).min? with
  | none =>
    rw [List.min?_eq_none_iff] at e
    have : c ∈ cs.filter fun c => decide (p c) := List.mem_filter.mpr ⟨hc, decide_eq_true pc⟩
    rw [e] at this
    cases this
  | some i =>
    rw [List.min?_eq_some_iff] at e
    obtain ⟨h1, h2⟩ := e
    obtain ⟨h3, h4⟩ := List.mem_filter.mp h1
    exact ⟨i, h3, of_decide_eq_true h4, fun c hc q => h2 c (List.mem_filter.mpr ⟨hc, decide_eq_true q⟩)⟩
theorem go_facts {g : Nat → List Nat} {n : Nat} (hg : ∀ i, ∀ j ∈ g i, i < j ∧ j < n) : ∀ (k : Nat) (cs : List Nat), Go g n k cs → (goL g (Lf g n) k cs).length = k ∧ (∀ c ∈ goL g (Lf g n) k cs, c < n ∧ ∃ d ∈ cs, d ≤ c) ∧ (goL g (Lf g n) k cs).Pairwise (· < ·)
  | 0, cs, _ => ⟨rfl, (fun c hc => by cases hc), List.Pairwise.nil⟩
  | k + 1, cs, h => by
    obtain ⟨i, hi, hl, hm⟩ := min_pick (p := fun c => Lf g n c = ((k + 1 : Nat) : Int)) h.pick
    rw [go_step hi hl hm]
    obtain ⟨a, b, c⟩ := go_facts hg k (g i) (h.next hg hi hl)
    refine ⟨by rw [List.length_cons, a], fun x hx => ?_, List.pairwise_cons.mpr ⟨fun x hx => ?_, c⟩⟩
    · rcases List.mem_cons.mp hx with e | e
      · subst e; exact ⟨h.lt _ hi, _, hi, Nat.le_refl _⟩
      · obtain ⟨h1, d, h2, h3⟩ := b x e
        exact ⟨h1, i, hi, by have := (hg i d h2).1; omega⟩
    · obtain ⟨h1, d, h2, h3⟩ := b x hx
      have := (hg i d h2).1
      omega
def topK (g : Nat → List Nat) (n : Nat) : Nat := (mx0 (lens g n)).toNat
theorem go_top (g : Nat → List Nat) (n : Nat) : Go g n (topK g n) (List.range n) := ⟨fun c hc => List.mem_range.mp hc, by rw [← lens_map]; unfold topK; have := mx0_nonneg (lens g n); omega⟩
theorem topK_eq (g : Nat → List Nat) (n : Nat) : ((topK g n : Nat) : Int) = mx0 (lens g n) := by unfold topK; have := mx0_nonneg (lens g n); omega
def longI (f o : Ord α) : List Nat := goL (lk f o) (Lf (lk f o) (many f o)) (topK (lk f o) (many f o)) (List.range (many f o))
def long (f o : Ord α) : List α := (longI f o).filterMap ((lets f o)[·]?)
theorem longI_facts (f o : Ord α) : (longI f o).length = topK (lk f o) (many f o) ∧ (∀ c ∈ longI f o, c < many f o) ∧ (longI f o).Pairwise (· < ·) := by
  obtain ⟨a, b, c⟩ := go_facts (g := lk f o) (n := many f o) (fun i j h => lk_mem h) _ _ (go_top (lk f o) (many f o))
  exact ⟨a, fun x hx => (b x hx).1, c⟩
theorem topK_pos {g : Nat → List Nat} {n : Nat} (hg : ∀ i, ∀ j ∈ g i, i < j) (h : 0 < n) : 0 < topK g n := by
  have e : Lf g n 0 = _ := Lf_rec hg h
  have h1 := mx0_nonneg ((g 0).map (Lf g n))
  have h2 : Lf g n 0 ≤ mx0 (lens g n) := mx0_ge (by
    refine List.mem_cons_of_mem _ ?_
    rw [lens_map]
    exact List.mem_map.mpr ⟨0, List.mem_range.mpr h, rfl⟩)
  have h3 := topK_eq g n
  omega
/-- the places of the longest list's letters -/
theorem long_places {f o : Ord α} (w : WF o) : (∀ x ∈ long f o, x ∈ o.ls) ∧ ((long f o).map (o.ls.idxOf ·)).Pairwise (· < ·) ∧ (∀ p ∈ (long f o).map (o.ls.idxOf ·), p < o.ls.length) := by
  obtain ⟨h1, h2, h3⟩ := longI_facts f o
  have hx : ∀ x ∈ long f o, x ∈ o.ls := fun x hx => by
    obtain ⟨c, hc, e⟩ := List.mem_filterMap.mp hx
    obtain ⟨a, y, e1, e2, e3, _⟩ := own_at (h2 c hc)
    rw [e2] at e
    cases e
    exact List.mem_of_getElem? e3
  refine ⟨hx, ?_, fun p hp => ?_⟩
  · rw [List.pairwise_map]
    unfold long
    rw [List.pairwise_filterMap]
    refine List.Pairwise.imp_of_mem (fun {a b} ha hb hab => ?_) h3
    intro x e y e'
    obtain ⟨a1, y1, e1, e2, e3, _⟩ := own_at (h2 a ha)
    obtain ⟨b1, z1, f1, f2, f3, _⟩ := own_at (h2 b hb)
    rw [e2] at e
    rw [f2] at e'
    cases e
    cases e'
    rw [idx_at w.nd e3, idx_at w.nd f3]
    exact own_get_lt hab e1 f1
  · obtain ⟨x, h, rfl⟩ := List.mem_map.mp hp
    exact idx_lt (hx x h)
theorem long_pos {f o : Ord α} {x : α} (h : x ∈ f.ls) (h2 : x ∈ o.ls) : long f o ≠ [] := by
  have q := topK_pos (g := lk f o) (fun i j h => (lk_mem h).1) (many_pos h h2)
  obtain ⟨h1, h2, _⟩ := longI_facts f o
  have e : (long f o).length = (longI f o).length := fm_len fun i hi => by
    obtain ⟨a, y, e1, e2, _⟩ := own_at (h2 i hi)
    exact ⟨y, e2⟩
  intro z
  rw [z, h1] at e
  simp at e
  omega
theorem long_len (f o : Ord α) : (long f o).length = topK (lk f o) (many f o) := by
  obtain ⟨h1, h2, _⟩ := longI_facts f o
  rw [← h1]
  exact fm_len fun i hi => by
    obtain ⟨a, y, e1, e2, _⟩ := own_at (h2 i hi)
    exact ⟨y, e2⟩
/-! ### levels -/
def lvIn (i : Nat) (l : List Int) (js : List Nat) : List Int := js.foldl (fun l j => l.set j (if l.getD i 0 + 1 > l.getD j 0 then l.getD i 0 + 1 else l.getD j 0)) l
theorem lvIn_len (i : Nat) (l : List Int) (js : List Nat) : (lvIn i l js).length = l.length := by
  unfold lvIn
  induction js generalizing l with
  | nil => rfl
  | cons j js ih => rw [List.foldl_cons, ih, List.length_set]
theorem lvIn_snoc (i : Nat) (l : List Int) (js : List Nat) (j : Nat) : lvIn i l (js ++ [j]) = (lvIn i l js).set j (if (lvIn i l js).getD i 0 + 1 > (lvIn i l js).getD j 0 then (lvIn i l js).getD i 0 + 1 else (lvIn i l js).getD j 0) := by
  unfold lvIn
  rw [List.foldl_append]
  rfl
def lvT (g : Nat → List Nat) (n : Nat) : Nat → List Int
  | 0 => List.replicate n 1
  | t + 1 => lvIn t (lvT g n t) (g t)
theorem lvT_len (g : Nat → List Nat) (n t : Nat) : (lvT g n t).length = n := by
  induction t with
  | zero => exact List.length_replicate
  | succ t ih => rw [lvT, lvIn_len, ih]
def levT (f o : Ord α) : Nat → List Int
  | 0 => List.replicate o.ls.length 0
  | t + 1 => (levT f o t).set ((own f o).getD t 0) ((lvT (lk f o) (many f o) (many f o)).getD t 0)
theorem levT_len (f o : Ord α) (t : Nat) : (levT f o t).length = o.ls.length := by
  induction t with
  | zero => exact List.length_replicate
  | succ t ih => rw [levT, List.length_set, ih]
def levs (f o : Ord α) : List Int := levT f o (many f o)
/-! ### rules that keep a list -/
def rl (o : Ord α) (i : Nat) : Option (Rul α) :=
  match o.ls[i - 1]?, o.ss[i - 1]?, o.ls[i]? with
  | some a, some k, some x => some ⟨true, a, k, x⟩
  | _, _, _ => none
def rr (o : Ord α) (i : Nat) : Option (Rul α) :=
  match o.ls[i + 1]?, o.ss[i]?, o.ls[i]? with
  | some a, some k, some x => some ⟨false, a, k, x⟩
  | _, _, _ => none
def fromLT (o : Ord α) (a t : Nat) : List (Rul α) := (List.range t).filterMap fun i => rl o (a + i)
def fromRT (o : Ord α) (b t : Nat) : List (Rul α) := (List.range t).filterMap fun i => rr o (b - 1 - i)
def fromL (o : Ord α) (a b : Nat) : List (Rul α) := fromLT o a (b - a)
def fromR (o : Ord α) (a b : Nat) : List (Rul α) := fromRT o b (b - a)
def cutP (o : Ord α) (a b : Nat) : Nat := a + ((o.ss.drop a).take (b - a)).idxOf (leastB o.ss a b)
def gap (o : Ord α) (a b : Nat) : List (Rul α) := fromL o (a + 1) (cutP o a b + 1) ++ fromR o (cutP o a b + 1) b
def keepT (o : Ord α) (ps : List Nat) : Nat → List (Rul α)
  | 0 => fromR o 0 (ps.getD 0 0)
  | t + 1 => keepT o ps t ++ gap o (ps.getD t 0) (ps.getD (t + 1) 0)
def keepR (o : Ord α) (ls : List α) : List (Rul α) := keepT o (ls.map (o.ls.idxOf ·)) (ls.length - 1) ++ fromL o ((ls.map (o.ls.idxOf ·)).getD (ls.length - 1) 0 + 1) o.ls.length
theorem fromLT_le (o : Ord α) (a t : Nat) : (fromLT o a t).length ≤ t := by
  have := List.length_filterMap_le (fun i => rl o (a + i)) (List.range t)
  rw [List.length_range] at this
  exact this
theorem fromRT_le (o : Ord α) (a t : Nat) : (fromRT o a t).length ≤ t := by
  have := List.length_filterMap_le (fun i => rr o (a - 1 - i)) (List.range t)
  rw [List.length_range] at this
  exact this
def dist (f o : Ord α) : Int := (o.ls.length : Int) - ((long f o).length : Int)
def shortR (f o : Ord α) : List (Rul α) := keepR o (long f o)
end Fw

set_option maxHeartbeats 4000000
/-! FwRules: rules of this proof's own over the hand layer. -/
namespace Fw
open PySem PySem.Spec PySem.W PyProof.Rows L2
/-! ### heaps -/
theorem Same.new {H : Hp} {p : Addr} {o : HO} (h : H p = none) : Same H (upd H p o) := fun b u e => by
  rw [upd_ne (ne_of_none e h)]
  exact e
theorem Same.mut {H H1 : Hp} {p : Addr} {o : HO} (e : Same H H1) (h : H p = none) : Same H (upd H1 p o) := fun b u hb => by
  rw [upd_ne (ne_of_none hb h)]
  exact e b u hb
theorem small {n : Nat} (h : n ≤ 100000) : n ≤ sizeLine := Nat.le_trans h (by decide)
theorem small' {n : Nat} (h : n < 100000) : n < sizeLine := Nat.lt_of_lt_of_le h (by decide)
/-- at a stands a tuple of xs that has no dict of its own: it is known to the object, so that its methods may be called -/
def Tp (H : Hp) (a : Addr) (xs : List V) : Prop := ∃ o, H a = some (.frz o (.tup xs)) ∧ o.dict = none
theorem Tp.sq {K : PySem.W.Frag} {H : Hp} {a : Addr} {xs : List V} (h : Tp H a xs) : SqT K H a xs := by
  obtain ⟨o, h, _⟩ := h
  exact .inl (.inr ⟨o, h⟩)
theorem Tp.same {H H2 : Hp} {a : Addr} {xs : List V} (s : Same H H2) (h : Tp H a xs) : Tp H2 a xs := by
  obtain ⟨o, h, d⟩ := h
  exact ⟨o, s _ _ h, d⟩
theorem Tp.ty {K : PySem.W.Frag} {H : Hp} {a : Addr} {xs : List V} (h : Tp H a xs) : TyX K H (.ref a) (.type "tuple") := by
  obtain ⟨o, h, d⟩ := h
  exact .fTuple h
def tupO (its : List Value) : Obj := { cls := .type "tuple", data := .seq its.toArray }
theorem Tp.new {H : Hp} {p : Addr} {xs : List V} {its : List Value} : Tp (upd H p (.frz (tupO its) (.tup xs))) p xs := ⟨tupO its, upd_same, rfl⟩
section
variable {X : Cx} {pins : List (Addr × Obj)} {σ : L2.St} {H : Hp} {s : Shared} {xs : List V} {its : List Value}
/-- a new tuple is laid -/
theorem Inv.layT {t' : Nat} (I : Inv X pins σ H s) (r : Vals xs its) (hz : xs.length ≤ sizeLine) :
    Inv X pins σ (upd H s.heap.objs.size (.frz (tupO its) (.tup xs))) { s with heap := s.heap.push { cls := .type "tuple", data := .seq its.toArray }, toks := t' } := by
  have hg : (s.heap.push { cls := .type "tuple", data := .seq its.toArray }).get? s.heap.objs.size = some { cls := .type "tuple", data := .seq its.toArray } := Heap.get?_push_size _ rfl
  exact I.laid (fun b u e => Heap.get?_push_of_some _ e) (Nat.le_refl _) ⟨hg, hz, its, r, ⟨_, hg, rfl, _, rfl⟩⟩
end
section
variable {X : Cx}
/-! ### weaker readings -/
theorem pe_imp {e : Expr} {t t' : TE} (h : PE X e t) (k : ∀ σ H Q, t' σ H Q → t σ H Q) : PE X e t' := ⟨fun pins s σ H Q I q => h.run pins s σ H Q I (k σ H Q q)⟩
/-! ### tuples: made, cut, joined; what is wished for is told by what stands -/
def tTupS (t : TA) : TE := fun σ H Q => t σ H fun xs H1 => xs.length ≤ 1000 ∧ ∀ p H2, Same H1 H2 → Tp H2 p xs → Q (.ref p) H2
theorem pe_tupS {es : List Expr} {t : TA} {x1 : Nat} {pos : Pos} (h : PA X es t) : PE X (.Tuple es x1 pos) (tTupS t) := by
  refine ⟨fun pins s σ H Q I q => ?_⟩
  refine wpAny_Tuple_spliced (thn (h.run pos pins s σ H _ I q) fun us s1 hu => ?_)
  obtain ⟨xs, H1, I1, r, z, q1⟩ := hu
  have z' : xs.length ≤ sizeLine := small (by omega)
  have hf : H1 s1.heap.objs.size = none := I1.hok.fresh (Nat.le_refl _)
  exact ⟨by rw [← r.length]; exact z', .ref s1.heap.objs.size, _, Inv.layT (t' := s1.toks) I1 r z', rfl, q1 _ _ (Same.new hf) Tp.new⟩
def rCatS : R2 := fun x y H Q => ∃ a b xs ys, x = .ref a ∧ y = .ref b ∧ Tp H a xs ∧ Tp H b ys ∧ xs.length + ys.length ≤ 1000 ∧ ∀ p H2, Same H H2 → Tp H2 p (xs ++ ys) → Q (.ref p) H2
theorem op_catS : OpR X (binaryOp .Add) rCatS := by
  intro pins s σ H x y v u Q I rx ry h
  obtain ⟨a, b, xs, ys, rfl, rfl, ha, hb, hz, q⟩ := h
  by_cases hx : xs = []
  · subst hx
    exact op_catA pins s σ H _ _ v u Q I rx ry ⟨a, b, [], ys, rfl, rfl, ha.sq, hb.sq, small (by omega), fun _ => q b H (Same.refl H) hb, fun e => absurd rfl e, fun e => absurd rfl e⟩
  · cases rx
    cases ry
    obtain ⟨its, r1, p1, _⟩ := I.tuple ha.sq
    obtain ⟨its2, r2, p2, _⟩ := I.tuple hb.sq
    refine HT.cat_tup p1 p2 (fun z => hx (r1.nil_iff.mp z)) (fun z => ⟨.ref a, H, I, rfl, q a H (Same.refl H) ?_⟩) (fun z => ?_) (by rw [← r1.length, ← r2.length]; exact small (by omega))
    · rw [r2.nil_iff.mp z, List.append_nil]
      exact ha
    · exact ⟨.ref s.heap.objs.size, _, Inv.layT (t' := s.toks) I (r1.append r2) (by rw [List.length_append]; exact small (by omega)), rfl, q _ _ (Same.new (I.hok.fresh (Nat.le_refl _))) Tp.new⟩
def rSlS : V → Option Int → Option Int → Hp → VK → Prop := fun x lo hi H Q => ∃ a xs, x = .ref a ∧ Tp H a xs ∧ ∀ p H2, Same H H2 → Tp H2 p (cutV xs lo hi) → Q (.ref p) H2
theorem sl_tupS : SlR X rSlS := by
  intro pins s σ H x v vl vu lo hi sl Q I rx hs pl pu h
  obtain ⟨a, xs, rfl, ha, q⟩ := h
  by_cases hw : HT.sIx xs.length 0 lo = 0 ∧ HT.sIx xs.length xs.length hi = xs.length
  · refine sl_tupA pins s σ H _ v vl vu lo hi sl Q I rx hs pl pu ⟨a, xs, rfl, ha.sq, fun e => q a H (Same.refl H) ?_, fun z => absurd hw z⟩
    have e1 : cutV xs lo hi = xs := by
      unfold cutV
      rw [e.1, e.2]
      simp
    rw [e1]
    exact ha
  · cases rx
    obtain ⟨its, r, ht, hz⟩ := I.tuple ha.sq
    have hlen : its.toArray.size = xs.length := by rw [List.size_toArray]; exact r.length.symm
    refine ⟨"tuple", _, PyProof.Rows.slot_tuple_getitem.lookup, ht.typeIs, ?_⟩
    refine HT.getItem_tuple_cut ht hs pl pu (by rw [hlen]; exact hw) ?_ (by rw [hlen]; exact hz)
    rw [hlen]
    exact ⟨.ref s.heap.objs.size, _, Inv.layT (t' := s.toks) (xs := cutV xs lo hi) I ((r.drop (HT.sIx xs.length 0 lo)).take (HT.sIx xs.length xs.length hi - HT.sIx xs.length 0 lo)) (Nat.le_trans (cutV_length xs lo hi) hz), rfl, q _ _ (Same.new (I.hok.fresh (Nat.le_refl _))) Tp.new⟩
/-- tuple(xs), xs a list that stands -/
theorem call_tupS : CallR X (.type "tuple") (fun xs H Q => ∃ p ys, xs = [.ref p] ∧ SqL X.K H p ys ∧ ∀ l H2, Same H H2 → Tp H2 l ys → Q (.ref l) H2) := by
  intro pins s σ H xs us Q I r h
  obtain ⟨p, ys, rfl, hp, q⟩ := h
  rw [Vals.ref1 r]
  obtain ⟨its, r', pl, hz⟩ := I.list hp
  have hlen := r'.length
  refine call_tuple_list pl.isList (fun h' kp => ?_) (by simp only [List.size_toArray] <;> omega)
  have I1 : Inv X pins σ H { s with heap := h' } := I.kept (t' := s.toks) kp
  exact ⟨.ref h'.objs.size, _, Inv.layT (t' := s.toks) I1 r' hz, rfl, q _ _ (Same.new (I1.hok.fresh (Nat.le_refl _))) Tp.new⟩
/-! ### a method of a tuple -/
def tBMT (r : V → List V → Hp → VK → Prop) (to : TE) (t : TA) : TE := fun σ H Q => to σ H fun x H1 => (∃ a xs, x = .ref a ∧ Tp H1 a xs) ∧ t σ H1 fun vs H2 => r x vs H2 Q
theorem pe_bmT {id : String} {name : Str} {r : V → List V → Hp → VK → Prop} {o e : Expr} {es : List Expr} {to : TE} {t : TA} {apos cpos : Pos} (slot : Slot "tuple" name id) (hty : typeOf (.builtin id) = pure (.type "method_descriptor")) (hm : MtR X id r) (ho : PE X o to) (ha : PA X (e :: es) t)
    (hbase : attributeBase o name X.env (eval o X.env) = eval o X.env := by rfl)
    (hfew : ((backTo cpos (starEach (e :: es) X.env)).all (fun x => !x.1) && (backToKw cpos (keywordEach [] X.env)).all (fun x => x.1.isSome) && decide ((e :: es).length + ([] : List Keyword).length + (if ([] : List Keyword).isEmpty then 0 else 1) < 30)) = true := by rfl)
    (hline : (apos.endLine == cpos.line) = true := by rfl) (hs : starEach (e :: es) X.env = (false, eval e X.env) :: starEach es X.env := by rfl) (hplain : (backTo cpos (starEach es X.env)).any (·.1) = false := by rfl) :
    PE X (.Call (.Attribute o name apos) (e :: es) [] cpos) (tBMT r to t) := by
  refine ⟨fun pins s σ H Q I h => ?_⟩
  refine wpAny_Call_method_late hbase hfew hline rfl (thn (ho.run pins s σ H _ I h) fun v s1 hv => ?_)
  obtain ⟨x, H1, I1, r1, ⟨a, xs, rfl, ob, hob, hd⟩, q1⟩ := hv
  cases r1
  have ho1 : ObjOk X.prog X.w H1 s1.heap a (.frz ob (.tup xs)) := I1.hok a _ hob
  obtain ⟨hg, hz, its, rv, ot, hot, hct, _⟩ := ho1
  rw [hg] at hot
  cases hot
  refine ⟨"tuple", id, PySem.F.plainAttrs_tuple, slot, hty, ⟨_, hg, hct⟩, fun b e => ?_, ?_⟩
  · cases e
    exact ⟨_, hg, hd⟩
  have hA := ha.run cpos pins s1 σ H1 _ I1 q1
  rw [hs] at hA ⊢
  refine Calls.callWith_builtin (by show (false || (backTo cpos (starEach es X.env)).any (·.1)) = false; rw [hplain] <;> rfl) (Calls.evalArgs_plain ?_)
  refine thn hA fun us s2 hu => ?_
  obtain ⟨vs, H2, I2, r2, q2⟩ := hu
  exact hm pins s2 σ H2 (.ref a) vs (.ref a) us Q I2 rfl r2 q2
/-! ### x in t, x not in t: a text in a tuple of texts -/
theorem eqV_str (y z : Str) : eqV (V.str y) (V.str z) = decide (y = z) := by
  show (y == z) = _
  by_cases e : y = z
  · subst e
    rw [decide_eq_true rfl]
    exact beq_self_eq_true y
  · rw [decide_eq_false e]
    exact beq_eq_false_iff_ne.mpr e
theorem inV_strs (z : Str) (ys : List Str) : inV (V.str z) (ys.map V.str) = decide (z ∈ ys) := by
  unfold inV
  induction ys with
  | nil => simp
  | cons y r ih =>
    rw [List.map_cons, List.any_cons, eqV_str, ih]
    by_cases e : y = z
    · simp [e]
    · have e2 : ¬ z = y := fun q => e q.symm
      simp [e, e2]
def rInS (K : PySem.W.Frag) (neg : Bool) : R2 := fun x y H Q => ∃ (p : Addr) (ys : List Str) (z : Str), x = .str z ∧ y = .ref p ∧ SqT K H p (ys.map V.str) ∧ Q (.bl (if neg = true then !decide (z ∈ ys) else decide (z ∈ ys))) H
theorem op_inS : OpR X (compareOp .In) (rInS X.K false) := by
  intro pins s σ H x y v u Q I rx ry h
  obtain ⟨p, ys, z, rfl, rfl, hp, q⟩ := h
  refine op_in_seq pins s σ H _ _ v u Q I rx ry ⟨p, _, rfl, .inr hp, rfl, flat_strs ys, ?_⟩
  rw [inV_strs]
  exact q
theorem op_notInS : OpR X (compareOp .NotIn) (rInS X.K true) := by
  intro pins s σ H x y v u Q I rx ry h
  obtain ⟨p, ys, z, rfl, rfl, hp, q⟩ := h
  refine op_notIn_seq pins s σ H _ _ v u Q I rx ry ⟨p, _, rfl, .inr hp, rfl, flat_strs ys, ?_⟩
  rw [inV_strs]
  exact q
/-! ### t.index(n), t.count(x), min(t), t[::-1] -/
theorem mt_tup_indexI : MtR X "tuple.index" (fun x xs H Q => ∃ p, ∃ ys : List Int, ∃ z j, x = .ref p ∧ xs = [.int z] ∧ Tp H p (ys.map V.int) ∧ ys[j]? = some z ∧ (∀ m, m < j → ys[m]? ≠ some z) ∧ Q (.int (j : Nat)) H) := by
  intro pins s σ H x xs v us Q I rx rs h
  obtain ⟨p, ys, z, j, rfl, rfl, hq0, hy, hno, q⟩ := h
  have hq : SqT X.K H p (ys.map V.int) := hq0.sq
  cases rx
  obtain ⟨u, rfl, t, rfl⟩ := vals1 rs
  obtain ⟨its, r, pl, hz⟩ := I.tuple hq
  obtain ⟨⟨cls, dd, dt, sl⟩, ho, hc, n, hd⟩ := pl
  simp only at hc hd
  subst hc
  subst hd
  have hl : its.toArray.size = ys.length := by rw [List.size_toArray, ← r.length, List.length_map]
  have hj : j < its.toArray.size := by
    rw [hl]
    exact (List.getElem?_eq_some_iff.mp hy).1
  have look : ∀ (m : Nat) (hm : m < its.toArray.size), ∃ y t', ys[m]? = some y ∧ its.toArray[m] = Value.int y t' := fun m hm => by
    have hm' : m < ys.length := by
      rw [← hl]
      exact hm
    obtain ⟨w, hw, t', hw'⟩ := r.get (i := m) (x := .int ys[m]) (by simp [hm'])
    refine ⟨ys[m], t', List.getElem?_eq_getElem hm', ?_⟩
    have e := (List.getElem?_eq_some_iff.mp hw).2
    rw [← hw', ← e]
    simp
  have flatI : (ys.map V.int).all flatV = true := by
    rw [List.all_map]
    exact List.all_eq_true.mpr fun _ _ => rfl
  refine call_meets PySem.F.slot_tuple_index ⟨_, ho, rfl⟩ PySem.F.entry_tuple_index (PySem.F.args_tuple_index_2 _ _) (TI.tuple_indexAt p its.toArray n dd sl (.int z t) (eqU (.int z)) j hj ?_ ?_)
    ⟨ho, fun w hw => mem_eqAt (x := .int z) ⟨t, rfl⟩ rfl r flatI w (by simpa using hw), ⟨.int (j : Nat), H, I.tok _, ⟨_, rfl⟩, q⟩⟩
  · obtain ⟨y, t', h1, h2⟩ := look j hj
    rw [hy] at h1
    cases h1
    rw [h2]
    show (z == z) = true
    exact beq_self_eq_true z
  · intro m hm hmj
    obtain ⟨y, t', h1, h2⟩ := look m hm
    rw [h2]
    show (y == z) = false
    exact beq_eq_false_iff_ne.mpr fun e => hno m hmj (e ▸ h1)
theorem count_vals : ∀ {ys : List Str} {its : List Value} (z : Str), Vals (ys.map V.str) its → its.countP (eqU (.str z)) = ys.count z
  | [], _, z, r => by
    cases r
    rfl
  | y :: ys, _, z, r => by
    cases r with
    | cons r1 r2 =>
      obtain ⟨t, rfl⟩ := r1
      rw [List.countP_cons, List.count_cons, count_vals z r2]
      rfl
theorem mt_tup_count : MtR X "tuple.count" (fun x xs H Q => ∃ p, ∃ ys : List Str, ∃ z, x = .ref p ∧ xs = [.str z] ∧ Tp H p (ys.map V.str) ∧ Q (.int (ys.count z : Nat)) H) := by
  intro pins s σ H x xs v us Q I rx rs h
  obtain ⟨p, ys, z, rfl, rfl, hq0, q⟩ := h
  have hq : SqT X.K H p (ys.map V.str) := hq0.sq
  cases rx
  obtain ⟨u, rfl, t, rfl⟩ := vals1 rs
  obtain ⟨its, r, pl, hz⟩ := I.tuple hq
  obtain ⟨⟨cls, dd, dt, sl⟩, ho, hc, n, hd⟩ := pl
  simp only at hc hd
  subst hc
  subst hd
  refine call_meets PySem.F.slot_tuple_count ⟨_, ho, rfl⟩ PySem.F.entry_tuple_count (PySem.F.args_tuple_count_2 _ _) (PySem.SeqAt.tuple_countAt p its.toArray n dd sl (.str z t) (eqU (.str z)))
    ⟨ho, fun w hw => mem_eqAt (x := .str z) ⟨t, rfl⟩ rfl r (flat_strs ys) w (by simpa using hw), ?_⟩
  have e : its.toArray.toList.countP (eqU (.str z)) = ys.count z := by
    show its.countP _ = _
    exact count_vals z r
  rw [e]
  exact ⟨.int ((ys.count z : Nat) : Int), H, I.tok _, ⟨_, rfl⟩, q⟩
end
section
variable {X : Cx}
/-! ### the least of a tuple -/
theorem foldl_min_spec (n : Int) : ∀ ns : List Int, ns.foldl min n ∈ n :: ns ∧ ∀ y ∈ n :: ns, ns.foldl min n ≤ y
  | [] => ⟨List.mem_cons_self, fun y hy => by
    rw [List.mem_singleton] at hy
    rw [hy]
    exact Int.le_refl _⟩
  | k :: r => by
    obtain ⟨h1, h2⟩ := foldl_min_spec (min n k) r
    rw [List.foldl_cons]
    refine ⟨?_, fun y hy => ?_⟩
    · rcases List.mem_cons.mp h1 with e | e
      · rw [e]
        rcases Int.le_total n k with q | q
        · rw [Int.min_eq_left q]
          exact List.mem_cons_self
        · rw [Int.min_eq_right q]
          exact List.mem_cons_of_mem _ List.mem_cons_self
      · exact List.mem_cons_of_mem _ (List.mem_cons_of_mem _ e)
    · have h3 := h2 (min n k) List.mem_cons_self
      rcases List.mem_cons.mp hy with e | e
      · rw [e]
        exact Int.le_trans h3 (Int.min_le_left _ _)
      · rcases List.mem_cons.mp e with e | e
        · rw [e]
          exact Int.le_trans h3 (Int.min_le_right _ _)
        · exact h2 y (List.mem_cons_of_mem _ e)
theorem dp_ints {K : PySem.W.Frag} {H : Hp} : ∀ ns : List Int, DpAll K H (ns.map V.int) (ns.map PyData.int)
  | [] => .nil
  | n :: r => .cons (.int n) (dp_ints r)
theorem alike_ints (ns : List Int) : AlikeAll (ns.map PyData.int) := by
  refine ⟨fun x hx y hy => ?_, fun x hx => ?_⟩
  · obtain ⟨a, _, rfl⟩ := List.mem_map.mp hx
    obtain ⟨b, _, rfl⟩ := List.mem_map.mp hy
    rfl
  · obtain ⟨a, _, rfl⟩ := List.mem_map.mp hx
    intro z
    cases z
theorem depth_ints : ∀ ns : List Int, PyData.depthAll (ns.map PyData.int) = 0
  | [] => rfl
  | n :: r => by
    rw [List.map_cons]
    show max (PyData.depth (PyData.int n)) (PyData.depthAll (r.map PyData.int)) = 0
    rw [depth_ints r]
    rfl
theorem cr_minT (hc : X.calm = true) (hu : X.A.units + 1 < cLine) : CallR X (.builtin "min") (fun vs H Q => ∃ (a : Addr) (ns : List Int), vs = [V.ref a] ∧ Tp H a (ns.map V.int) ∧ ns ≠ [] ∧ ∀ m, m ∈ ns → (∀ y, y ∈ ns → m ≤ y) → Q (.int m) H) := by
  intro pins s σ H vs us Q I r h
  obtain ⟨a, ns, rfl, ha, hne, q⟩ := h
  obtain ⟨its, rv, hl, hz⟩ := I.tuple ha.sq
  rw [Vals.ref1 r]
  cases ns with
  | nil => exact absurd rfl hne
  | cons n ns =>
    obtain ⟨as, hr⟩ := Dp.readsAll I ((n :: ns).map PyData.int) _ its (dp_ints _) rv
    refine min_tuple_data (x := .int n) (xs := ns.map PyData.int) (I.ok.hd hc) (show s.heap.IsTuple a its.toArray from hl) (by simpa using hr) (alike_ints (n :: ns)) (by
      have e := depth_ints (n :: ns)
      rw [List.map_cons] at e
      rw [e]
      exact hu) fun i v h' tk bs hv hrd hk => ?_
    rw [minD_ints] at hrd
    obtain ⟨s1, s2⟩ := foldl_min_spec n ns
    cases hrd with
    | int _ t => exact ⟨.int _, H, I.kept hk, ⟨_, rfl⟩, q _ s1 s2⟩
/-! ### t[::-1] of a tuple -/
theorem back_adjust (n : Nat) : Builtin.Slice.sliceAdjust none none (-1) (n : Int) = ((n : Int) - 1, -1) := rfl
theorem back_places (n : Nat) : Builtin.Slice.slicePlaces ((n : Int) - 1) (-1) (-1) = n := by
  unfold Builtin.Slice.slicePlaces
  have h1 : ¬ ((-1 : Int) > 0) := by decide
  rw [if_neg h1]
  have e2 : (- -1 : Int) = 1 := by decide
  rw [e2, Int.ediv_one]
  split <;> omega
theorem back_pick (xs : Array Value) : ((List.range xs.size).filterMap fun (m : Nat) => xs[((xs.size : Int) - 1 + (m : Int) * -1).toNat]?).toArray = xs.toList.reverse.toArray := by
  have e : ∀ m ∈ List.range xs.size, xs[((xs.size : Int) - 1 + (m : Int) * -1).toNat]? = some (xs.toList.reverse[m]?.getD .none) := fun m hm => by
    have hm' := List.mem_range.mp hm
    have e1 : ((xs.size : Int) - 1 + (m : Int) * -1).toNat = xs.size - 1 - m := by omega
    rw [e1, List.getElem?_reverse (by rw [Array.length_toList]; exact hm'), Array.length_toList, Array.getElem?_toList, Array.getElem?_eq_getElem (by omega)]
    rfl
  have key : ∀ l : List Nat, (∀ m ∈ l, xs[((xs.size : Int) - 1 + (m : Int) * -1).toNat]? = some (xs.toList.reverse[m]?.getD .none)) → (l.filterMap fun (m : Nat) => xs[((xs.size : Int) - 1 + (m : Int) * -1).toNat]?) = l.map fun m => xs.toList.reverse[m]?.getD .none := by
    intro l
    induction l with
    | nil => intro _; rfl
    | cons a r ih =>
      intro h
      rw [List.filterMap_cons, h a List.mem_cons_self, List.map_cons, ih fun m hm => h m (List.mem_cons_of_mem _ hm)]
  rw [key _ e]
  congr 1
  apply List.ext_getElem
  · simp
  · intro i h1 h2
    rw [List.getElem_map, List.getElem_range]
    rw [List.getElem?_eq_getElem h2]
    rfl
section
variable {prog : Program} {w : World} {A : Around} {E : Value → Shared → Prop} {s : Shared}
theorem back_applied {sl : Addr} {vl vu vk : Value} {n : Nat} {Q : Int × Int × Nat → Shared → Prop} (hs : s.heap.IsSliceOf sl vl vu vk) (pl : IsPart vl none) (pu : IsPart vu none) (pk : IsPart vk (some (-1)))
    (h : Q ((n : Int) - 1, -1, n) s) : wpAny (model prog w) A (Builtin.Slice.sliceApplied (.ref sl) (pure (n : Int))) Q E s := by
  obtain ⟨os, hos, hcs, hds⟩ := id hs
  unfold Builtin.Slice.sliceApplied
  unfold Builtin.Slice.sliceFields
  refine wpAny_bind (wpAny_bind (wpAny_field hos hds (x := vl) rfl ?_))
  refine wpAny_bind (wpAny_field hos hds (x := vu) rfl ?_)
  refine wpAny_bind (wpAny_field hos hds (x := vk) rfl (wpAny_pure ?_))
  refine wpAny_bind (HT.slicePart_ pk ?_)
  show wpAny _ _ (if ((-1 : Int) == 0) = true then _ else _) _ _ s
  rw [if_neg (by decide)]
  refine wpAny_bind (HT.slicePart_ pl ?_)
  refine wpAny_bind (HT.slicePart_ pu ?_)
  refine wpAny_bind (wpAny_pure ?_)
  have fin : wpAny (model prog w) A (pure ((n : Int) - 1, (-1 : Int), Builtin.Slice.slicePlaces ((n : Int) - 1) (-1) (-1))) Q E s := by
    rw [back_places]
    exact wpAny_pure h
  exact fin
theorem getItem_tuple_back {t sl : Addr} {items : Array Value} {vl vu vk : Value} {Q : Value → Shared → Prop} (ht : IsTup s.heap t items) (hs : s.heap.IsSliceOf sl vl vu vk) (pl : IsPart vl none) (pu : IsPart vu none) (pk : IsPart vk (some (-1)))
    (h : Q (.ref s.heap.objs.size) { s with heap := s.heap.push { cls := .type "tuple", data := .seq items.toList.reverse.toArray } }) (hsz : items.size ≤ sizeLine) : wpAny (model prog w) A (getItem (.ref t) (.ref sl)) Q E s := by
  have hok : sizeOk (.seq items.toList.reverse.toArray) := by
    show items.toList.reverse.toArray.size ≤ sizeLine
    simpa using hsz
  obtain ⟨os, hos, hcs, hds⟩ := id hs
  have hTs : s.TypeIs (.ref sl) "slice" := ⟨os, hos, hcs⟩
  unfold getItem
  try with_reducible refine wpAny_holding ?_
  first | refine wpAny_bind (wpAny_pure ?_) | skip
  refine wpAny_bind (wpAny_sequenceKey ht.typeIs (by decide) ?_)
  refine wpAny_bind (wpAny_callSpecial?_slot (name := Str.ofString "__getitem__") ht.typeIs PyProof.Rows.slot_tuple_getitem (wpAny_call_entry PyProof.Rows.slot_tuple_getitem ht.typeIs entry_tuple_getitem ?_ (args_tuple_getitem _ _)))
  refine wpAny_bind (m := Builtin.Tuple.tupleItemsOf (.ref t)) (tupleItemsOf_ ht ?_)
  refine wpAny_bind (wpAny_typeOf hTs ?_)
  rw [if_pos (by decide)]
  refine wpAny_bind (back_applied hs pl pu pk ?_)
  have hno : ¬ (((items.size : Int) - 1 == 0 && (-1 : Int) == 1 && items.size == items.size) = true) := by
    intro q
    rw [Bool.and_eq_true, Bool.and_eq_true] at q
    exact absurd q.1.2 (by decide)
  show wpAny _ _ (if ((items.size : Int) - 1 == 0 && (-1 : Int) == 1 && items.size == items.size) = true then _ else _) _ _ s
  rw [if_neg hno, back_pick]
  first
    | exact wpAny_bind (m := Builtin.Tuple.tupleExact _) (wpAny_newObj_type (wpAny_pure ⟨_, rfl, wpAny_pure h⟩) hok)
    | exact wpAny_bind (m := Builtin.Tuple.tupleExact _) (wpAny_newObj_type (wpAny_bind (wpAny_pure (wpAny_pure ⟨_, rfl, wpAny_pure h⟩))) hok)
    | exact wpAny_bind (wpAny_bind (m := Builtin.Tuple.tupleExact _) (wpAny_newObj_type (wpAny_pure (wpAny_pure ⟨_, rfl, wpAny_pure h⟩)) hok))
    | exact wpAny_bind (wpAny_bind (m := Builtin.Tuple.tupleExact _) (wpAny_newObj_type (wpAny_pure ⟨_, rfl, wpAny_pure h⟩) hok))
end
def tRevT (te : TE) : TE := fun σ H Q => te σ H fun x H1 => ∃ a xs, x = .ref a ∧ Tp H1 a xs ∧ ∀ p H2, Same H1 H2 → Tp H2 p xs.reverse → Q (.ref p) H2
theorem pe_revT {e : Expr} {te : TE} {k : Nat} {p1 p2 p3 pos : Pos} (he : PE X e te) : PE X (.Subscript e (.Slice none none (some (.UnaryOp .USub (.Constant (.int 1) k p1) p2)) p3) pos) (tRevT te) := by
  refine ⟨fun pins s σ H Q I h => ?_⟩
  refine Subscript_ (thn (he.run pins s σ H _ I h) fun v s1 hv => ?_)
  obtain ⟨x, H1, I1, r1, a, xs, rfl, ha, q⟩ := hv
  cases r1
  have hst : PO X (some (.UnaryOp .USub (.Constant (.int 1) k p1) p2)) (tPart (tUn (rU fun i => .int (-i)) (tC (.int 1)))) := po_some (pe_un un_neg pe_int)
  refine wpAny_Slice (thn (po_none.run pins s1 σ H1 (fun o H2 => o = none ∧ H2 = H1) I1 ⟨rfl, rfl⟩) fun vl s2 hl => ?_)
  obtain ⟨l, H2, I2, pl, rfl, rfl⟩ := hl
  refine thn (po_none.run pins s2 σ H2 (fun o H3 => o = none ∧ H3 = H2) I2 ⟨rfl, rfl⟩) fun vu s3 hu => ?_
  obtain ⟨u, H3, I3, pu, rfl, rfl⟩ := hu
  refine thn (hst.run pins s3 σ H3 (fun o H4 => o = some (-1) ∧ H4 = H3) I3 ⟨1, rfl, -1, rfl, rfl, rfl⟩) fun vs s4 hs4 => ?_
  obtain ⟨o, H4, I4, ps, rfl, rfl⟩ := hs4
  have I5 : Inv X pins σ H4 { s4 with heap := s4.heap.push { cls := .type "slice", data := .fields #[vl, vu, vs] } } := I4.kept (t' := s4.toks) fun b ob q => Heap.get?_push_of_some _ q
  obtain ⟨its, r, ht, hz⟩ := I5.tuple ha.sq
  have hlen := r.length
  show wpAny (model X.prog X.w) X.A (subscriptTail e (.Slice none none (some (.UnaryOp .USub (.Constant (.int 1) k p1) p2)) p3) (.ref a) (.ref s4.heap.objs.size)) (EP X pins σ Q) X.xe { s4 with heap := s4.heap.push { cls := .type "slice", data := .fields #[vl, vu, vs] } }
  refine tail_any (ops := [.ref a, .ref s4.heap.objs.size]) ht.typeIs PyProof.Rows.slot_tuple_getitem.lookup ?_ (by with_unfolding_all rfl)
  refine getItem_tuple_back ht (Heap.IsSliceOf.new _ vl vu vs) pl pu ps ?_ (by rw [List.size_toArray]; omega)
  have L := Inv.layT (t' := s4.toks) (xs := xs.reverse) (its := its.reverse) I5 r.reverse (by rw [List.length_reverse]; exact hz)
  have e1 : its.toArray.toList.reverse.toArray = its.reverse.toArray := by simp
  rw [e1]
  exact ⟨.ref _, _, L, rfl, q _ _ (Same.new (I5.hok.fresh (Nat.le_refl _))) Tp.new⟩
/-! ### repr of nested data, where no repr is under way -/
def rReprD (K : PySem.W.Frag) : List V → Hp → VK → Prop := fun vs H Q => ∃ (a : Addr) (d : PyData), vs = [.ref a] ∧ Dp K H (.ref a) d ∧ d.showable = true ∧ d.hasDict = false ∧ d.shown.length ≤ sizeLine ∧ d.depth ≤ 30 ∧ Q (.str d.shown) H
theorem cr_repr (hA : X.A.guards = some []) (hu : X.A.units + 64 < cLine) : CallR X (.builtin "repr") (rReprD X.K) := by
  intro pins s σ H vs us Q I r h
  obtain ⟨a, d, rfl, hd, h1, h2, h3, h4, q⟩ := h
  rw [Vals.ref1 r]
  obtain ⟨as, rd⟩ := Dp.reads I d _ _ hd rfl
  exact repr_of_reads' rd h1 (PyData.noDict_hsm h2) hA (by omega) (fun _ _ e => e) (fun h' u tk hk => ⟨.str _, H, I.kept hk, ⟨u, rfl⟩, q⟩) h3
end
end Fw

set_option maxHeartbeats 4000000
/-! FwIter: enumerate of a tuple, what a comprehension gives, loops over enumerate and zip. -/
namespace Fw
open PySem PySem.Spec PySem.W PyProof.Rows L2
/-! ### enumerate(t), t a tuple -/
set_option maxHeartbeats 8000000 in
theorem enum_new1 {v : Value} {o : Obj} {B : Heap → Prop} (G : Begins v o B) :
    Meets (Builtin.«enumerate.__new__» ⟨[.type "enumerate", v], []⟩) (fun _ R s => B s.heap ∧
      R (.ok (.ret (.ref (s.heap.push o).objs.size))) { s with heap := (s.heap.push o).push { cls := .type "enumerate", data := .fields #[.none, .bool false, .ref s.heap.objs.size, rawInt 0, .none, .none] } }) :=
  .of_wp fun prog w A R s hh => by
    obtain ⟨hp, g, d, tk, os⟩ := s
    obtain ⟨hB, hh⟩ := hh
    have hsub := sub_enumerate
    have it1 : ∀ {A' : Around} {E : Value → Shared → Prop} {Q : Value → Shared → Prop}, Q (.ref hp.objs.size) ⟨hp.push o, g, d, tk, os⟩ → wpAny (model prog w) A' (pyIter v) Q E ⟨hp, g, d, tk, os⟩ :=
      fun q => G.iter prog w _ _ ⟨hp, g, d, tk, os⟩ _ hB q
    wp_walk using it1
    refine wpAny_stack_any fun st => wpAny_pure ?_
    split
    · rename_i c _ _ _ _ _
      cases (c == Value.type "enumerate") <;> (wp_walk using it1; exact ⟨_, rfl, hh⟩)
    · wp_walk using it1
      exact ⟨_, rfl, hh⟩
section
variable {prog : Program} {w : World} {A : Around} {E : Value → Shared → Prop} {s : Shared}
theorem enum_call1 {v : Value} {o : Obj} {B : Heap → Prop} {Q : Value → Shared → Prop} (G : Begins v o B) (hB : B s.heap)
    (h : ∀ h', IsEnum h' (s.heap.objs.size + 1) s.heap.objs.size 0 .none → h'.get? s.heap.objs.size = some o → h'.objs.size = s.heap.objs.size + 2 → (∀ b o, s.heap.get? b = some o → h'.get? b = some o) → Q (.ref (s.heap.objs.size + 1)) { s with heap := h' }) :
    wpAny (model prog w) A (call (.type "enumerate") [v]) Q E s := by
  refine callType_new F.called_enumerate (by decide) (F.typeCall_enumerate_1 _) (F.newCall_enumerate_1 _) (fun obj => F.args_object_init_2 obj _) F.entry_enumerate_new (enum_new1 G) ⟨hB, ?_⟩
  have hz : (s.heap.push o).objs.size = s.heap.objs.size + 1 := Heap.size_push ..
  show _ ∧ _
  rw [hz]
  have he : IsEnum ((s.heap.push o).push { cls := .type "enumerate", data := .fields #[.none, .bool false, .ref s.heap.objs.size, rawInt 0, .none, .none] }) (s.heap.objs.size + 1) s.heap.objs.size 0 .none := by
    have q := Heap.get?_push_size (s.heap.push o) (o := { cls := .type "enumerate", data := .fields #[.none, .bool false, .ref s.heap.objs.size, rawInt 0, .none, .none] }) rfl
    rw [hz] at q
    exact q
  refine ⟨⟨_, he, rfl⟩, h _ he (Heap.get?_push_of_some _ (Heap.get?_push_size _ G.free)) (by rw [Heap.size_push, hz]) fun b o x => Heap.get?_push_of_some _ (Heap.get?_push_of_some _ x)⟩
end
/-- the tuple at a as it stands, each item in a new pair with its place -/
def IteT (K : PySem.W.Frag) (a : Addr) : It :=
  ⟨fun i H => ∃ (xs : List V) (x : V), SqT K H a xs ∧ xs[i]? = some x, fun i H v H2 => ∃ T x, v = .ref T ∧ H T = none ∧ H2 = upd H T (.tup [.int (i : Nat), x]) ∧ ∀ xs, SqT K H a xs → xs[i]? = some x, fun i H => ∃ xs : List V, SqT K H a xs ∧ xs.length ≤ i⟩
theorem turn_enumT {P : Program} {w : World} {K : PySem.W.Frag} {elts : List Expr} {kk : Nat} {tpos : Pos} (a e it : Addr) :
    Turn P w K (.Tuple elts kk tpos) (IteT K a) [e, it] e (fun i h => (∃ old, IsEnum h e it ((i : Nat) : Int) old) ∧ h.IsTupleIter it a i ∧ e ≠ it ∧ a ≠ it ∧ a ≠ e) where
  mem := by simp
  obj := fun i h st b hb => by
    obtain ⟨⟨old, he⟩, ⟨o, ho, hc, hd⟩, _⟩ := st
    have hb' : b = e ∨ b = it := by simpa using hb
    rcases hb' with z | z
    · rw [z]
      exact ⟨_, he, fun v q => nomatch q⟩
    · rw [z]
      exact ⟨o, ho, fun v q => by rw [hd] at q; cases q⟩
  keep := fun i h h' st k => by
    obtain ⟨⟨old, he⟩, hi, n1, n2, n3⟩ := st
    exact ⟨⟨old, k e (by simp) _ he⟩, hi.at fun o q => k it (by simp) o q, n1, n2, n3⟩
  item := by
    intro X hP hw hK hc i pins s σ H E I hf st hgo
    subst hP hw hK
    obtain ⟨⟨old, he⟩, hit, n1, n2, n3⟩ := st
    obtain ⟨xs, x, hq, hx⟩ := hgo
    obtain ⟨its, rv, p, hz⟩ := I.tuple hq
    obtain ⟨u, hu, ru⟩ := rv.get hx
    have pT : s.heap.IsTuple a its.toArray := p
    have hi : i < its.toArray.size := by
      rw [List.size_toArray]
      exact (List.getElem?_eq_some_iff.mp hu).1
    have hel : e < s.heap.objs.size := Heap.lt_size he
    have hil : it < s.heap.objs.size := by
      obtain ⟨_, q, _⟩ := hit
      exact Heap.lt_size q
    refine wpAny_pyNext_enum_itemD (Draws.tuple (A := X.A.in1) (I.ok.hd hc) it a n2 its.toArray) he ⟨hit, pT⟩ hi n1 (fun z => by
      rcases List.mem_cons.mp z with z | z
      · exact n1 z
      · exact n3 (List.mem_singleton.mp z).symm) fun y h' tk hy ho hst hT hsz hk => ?_
    have ey : y = u := by
      have q : its.toArray[i]? = some u := by simpa using hu
      have hy' : its.toArray[i]? = some y := hy
      rw [q] at hy'
      exact (Option.some.inj hy').symm
    subst ey
    obtain ⟨hit', _⟩ := hst
    refine ⟨_, rfl, wpAny_letOwnedTupleGo_enum (s := { s with heap := h', toks := tk + 1 }) ho fun h'' he' sb => ?_⟩
    have hT2 : h''.get? s.heap.objs.size = some { cls := .type "tuple", data := .seq #[.int i tk, y] } := (sb.2 _ (Nat.ne_of_gt hel)).trans hT
    have new : ObjOk X.prog X.w (upd H s.heap.objs.size (.tup [.int (i : Nat), x])) h'' s.heap.objs.size (.tup [.int (i : Nat), x]) :=
      ⟨by show 2 ≤ sizeLine; decide, [.int i tk, y], .cons ⟨_, rfl⟩ (.cons ru .nil), ⟨_, hT2, rfl, _, rfl⟩⟩
    have I1 : Inv X pins σ (upd H s.heap.objs.size (.tup [.int (i : Nat), x])) { s with heap := h'', toks := tk + 1 } :=
      I.turnedNew (ch := [e, it]) (fun b ob hb q => (sb.2 b (fun z => hb (by simp [z]))).trans (hk b ob (fun z => hb (by simp [z])) (fun z => hb (by simp [z])) q)) hf (Nat.le_refl _) new
    refine ⟨.ref s.heap.objs.size, _, I1, rfl, ⟨_, x, rfl, I.hok.fresh (Nat.le_refl _), rfl, fun ys hy => by rw [I.tuple_inj hy hq]; exact hx⟩, ⟨⟨y, ?_⟩, hit'.at fun o q => (sb.2 it (Ne.symm n1)).trans q, n1, n2, n3⟩, fun b hb => ?_⟩
    · have e1 : ((i + 1 : Nat) : Int) = (i : Int) + 1 := by omega
      rw [e1]
      exact he'
    · have hb' : b < s.heap.objs.size := by
        have hb2 : b = e ∨ b = it := by simpa using hb
        rcases hb2 with z | z
        · rw [z]
          exact hel
        · rw [z]
          exact hil
      rw [upd_ne (Nat.ne_of_lt hb')]
      exact (hf b hb).1
  done := by
    intro X hP hw hK hc i pins s σ H E I hf st hgo
    subst hP hw hK
    obtain ⟨⟨old, he⟩, hit, n1, n2, n3⟩ := st
    obtain ⟨xs, hq, hx⟩ := hgo
    obtain ⟨its, rv, p, hz⟩ := I.tuple hq
    obtain ⟨f0, f1, f2, f3, f4, f5⟩ := hf it (by simp)
    have hl := rv.length
    -- behind the last item the iterator's place is its length: the Draws ask for it
    by_cases hi : i = its.toArray.size
    · subst hi
      exact wpAny_pyNext_enum_endD (Draws.tuple (A := X.A.in1) (I.ok.hd hc) it a n2 its.toArray) he ⟨hit, p⟩ fun h' eb => ⟨rfl, I.turned (t' := s.toks) (fun b o hb q => eb b o hb q) f0 f1 f3 f4 f5⟩
    · have big : its.toArray[i]? = none := by
        simp
        omega
      have hT : s.TypeIs (.ref e) "enumerate" := ⟨_, he, rfl⟩
      unfold pyNext
      refine wpAny_bind (wpAny_attempt (wpAny_callSpecial?_slot (name := Str.ofString "__next__") hT F.slot_enumerate_next (wpAny_call_entry F.slot_enumerate_next hT F.entry_enumerate_next ?_ (F.args_enumerate_next_1 _))))
      show wpAny _ _ (field (.ref e) 2 >>= _) _ _ _
      refine wpAny_bind (wpAny_field he rfl (x := .ref it) rfl ?_)
      refine wpAny_bind (wpAny_nextOf_tuple_end (I.ok.hd hc) hit (show s.heap.IsTuple a its.toArray from p) big fun h' x eb hx' => ?_)
      obtain ⟨o, ho, hc'⟩ := hx'
      refine wpAny_bind (wpAny_isInstance (T := "StopIteration") (b := true) ⟨o, ho, hc'⟩ isSubtype_stop ?_)
      exact wpAny_pure ⟨rfl, I.turned (t' := s.toks) (fun b o hb q => eb b o hb q) f0 f1 f3 f4 f5⟩
  self := fun A i s Q E st h => by
    obtain ⟨⟨_, he⟩, _⟩ := st
    exact wpAny_pyIter_enum he h
def iEnumT (K : PySem.W.Frag) (ta : TA) : TI := fun σ H R => ta σ H fun vs H1 => ∃ a xs, vs = [.ref a] ∧ SqT K H1 a xs ∧ R (IteT K a) H1
theorem pi_enumT {X : Cx} {e : Expr} {ta : TA} {p pos tpos : Pos} {elts : List Expr} {kk : Nat} (hg : Gl X "enumerate") (hm : X.mg "enumerate" = none) (ha : PA X [e] ta) (hs : starEach [e] X.env = [(false, eval e X.env)] := by rfl) :
    PI X (.Tuple elts kk tpos) (.Call (.Name "enumerate" p) [e] [] pos) (iEnumT X.K ta) := by
  refine ⟨fun pins s σ H R I h => ?_⟩
  refine Call_ (ld_blt I hg hm boot_enumerate (PyProof.Rows.callWith_type1 (thn (ha.run pos pins s σ H _ I h) fun us s1 hu => ?_) hs rfl))
  obtain ⟨vs, H1, I1, r1, a, xs, rfl, hq, q⟩ := hu
  rw [Vals.ref1 r1]
  obtain ⟨its, rv, p', hz⟩ := I1.tuple hq
  have pT : s1.heap.IsTuple a its.toArray := p'
  refine enum_call1 (begins_tuple a its.toArray) pT fun h' he hit hsz hk => wpAny_pyIter_enum he ?_
  have I2 : Inv X pins σ H1 { s1 with heap := h' } := I1.kept (t' := s1.toks) hk
  have ha' : a < s1.heap.objs.size := p'.lt
  have na : a ≠ s1.heap.objs.size := Nat.ne_of_lt ha'
  have na2 : a ≠ s1.heap.objs.size + 1 := Nat.ne_of_lt (Nat.lt_succ_of_lt ha')
  refine ⟨s1.heap.objs.size + 1, [s1.heap.objs.size + 1, s1.heap.objs.size], _, _, H1, rfl, I2, turn_enumT a (s1.heap.objs.size + 1) s1.heap.objs.size, ⟨⟨.none, he⟩, ⟨_, hit, rfl, rfl⟩, Nat.succ_ne_self _, na, na2⟩, fun b hb => ?_, q⟩
  have hle : s1.heap.objs.size ≤ b := by
    have hb2 : b = s1.heap.objs.size + 1 ∨ b = s1.heap.objs.size := by simpa using hb
    rcases hb2 with z | z
    · rw [z]
      exact Nat.le_add_right _ _
    · rw [z]
      exact Nat.le_refl _
  exact I1.fpOk hle (I1.hok.fresh hle)

/-! ### sources: what a comprehension walks, while nothing that stood is changed -/
structure Src (J : It) (H1 : Hp) (n : Nat) (Y : Nat → V → Hp → Prop) : Prop where
  go : ∀ i H, i < n → Same H1 H → J.go i H
  yld : ∀ i H x H2, i < n → Same H1 H → J.yld i H x H2 → Same H H2 ∧ Y i x H2
  stop : ∀ H, Same H1 H → J.stop n H
theorem src_range (lo : Int) (n : Nat) (H1 : Hp) : Src (Itr lo n) H1 n (fun i x _ => x = .int (lo + (i : Nat))) where
  go := fun i H hi _ => hi
  yld := fun i H x H2 hi s y => by
    obtain ⟨rfl, rfl⟩ := y
    exact ⟨Same.refl _, rfl⟩
  stop := fun H _ => Nat.le_refl n
theorem src_list {K : PySem.W.Frag} {H1 : Hp} {a : Addr} {xs : List V} (h : SqL K H1 a xs) : Src (Itl K a) H1 xs.length (fun i x _ => xs[i]? = some x) where
  go := fun i H hi s => ⟨xs, xs[i], s.seq h, List.getElem?_eq_getElem hi⟩
  yld := fun i H x H2 hi s y => by
    obtain ⟨rfl, q⟩ := y
    exact ⟨Same.refl _, q xs (s.seq h)⟩
  stop := fun H s => ⟨xs, s.seq h, Nat.le_refl _⟩
theorem Same.tupS {K : PySem.W.Frag} {H H2 : Hp} {a : Addr} {xs : List V} (s : Same H H2) (h : SqT K H a xs) : SqT K H2 a xs := by
  rcases h with (h | ⟨o, h⟩) | h
  · exact .inl (.inl (s _ _ h))
  · exact .inl (.inr ⟨o, s _ _ h⟩)
  · exact .inr h
theorem src_tup {K : PySem.W.Frag} {H1 : Hp} {a : Addr} {xs : List V} (h : SqT K H1 a xs) : Src (Itt K a) H1 xs.length (fun i x _ => xs[i]? = some x) where
  go := fun i H hi s => ⟨xs, xs[i], Same.tupS s h, List.getElem?_eq_getElem hi⟩
  yld := fun i H x H2 hi s y => by
    obtain ⟨rfl, q⟩ := y
    exact ⟨Same.refl _, q xs (Same.tupS s h)⟩
  stop := fun H s => ⟨xs, Same.tupS s h, Nat.le_refl _⟩
theorem src_enumT {K : PySem.W.Frag} {H1 : Hp} {a : Addr} {xs : List V} (h : SqT K H1 a xs) : Src (IteT K a) H1 xs.length (fun i v H2 => ∃ T x, v = .ref T ∧ H2 T = some (.tup [.int (i : Nat), x]) ∧ xs[i]? = some x) where
  go := fun i H hi s => ⟨xs, xs[i], Same.tupS s h, List.getElem?_eq_getElem hi⟩
  yld := fun i H x H2 hi s y => by
    obtain ⟨T, z, rfl, hT, rfl, q⟩ := y
    exact ⟨Same.new hT, T, z, rfl, upd_same, q xs (Same.tupS s h)⟩
  stop := fun H s => ⟨xs, Same.tupS s h, Nat.le_refl _⟩
theorem Paired.app {α β : Type} {F : α → β → Prop} : ∀ {a : List α} {b : List β} {c : List α} {d : List β}, Paired F a b → Paired F c d → Paired F (a ++ c) (b ++ d)
  | _, _, _, _, .nil, h => h
  | _, _, _, _, .cons r t, h => .cons r (Paired.app t h)
/-- what holds of tuples alone goes on -/
def TM (H H2 : Hp) : Prop := ∀ b o xs, H b = some (.frz o (.tup xs)) → H2 b = some (.frz o (.tup xs))
theorem TM.of {H H2 : Hp} (s : Same H H2) : TM H H2 := fun b o xs e => s b _ e
theorem TM.refl (H : Hp) : TM H H := fun _ _ _ e => e
theorem TM.trans {H H1 H2 : Hp} (a : TM H H1) (b : TM H1 H2) : TM H H2 := fun c o xs e => b c o xs (a c o xs e)
theorem TM.but {H H2 : Hp} {D : Addr} {ys : List V} (h : H D = some (.lst ys)) (s : ∀ a o, a ≠ D → H a = some o → H2 a = some o) : TM H H2 := fun b o xs e => s b _ (fun z => by
  rw [z, h] at e
  cases e) e
theorem Tp.tm {H H2 : Hp} {a : Addr} {xs : List V} (s : TM H H2) (h : Tp H a xs) : Tp H2 a xs := by
  obtain ⟨o, h, d⟩ := h
  exact ⟨o, s _ _ _ h, d⟩
theorem TM.lst {H : Hp} {D : Addr} {ys zs : List V} (h : H D = some (.lst ys)) : TM H (upd H D (.lst zs)) := TM.but h fun a o z e => by
  rw [upd_ne z]
  exact e
/-- a list comprehension: acc i is what is made behind i turns, told by R -/
theorem lcG {β : Type} {J : It} {H1 : Hp} {n : Nat} {Y : Nat → V → Hp → Prop} (src : Src J H1 n Y) {g : TG} {tt : TT} {te : TE} {vs : List Nat} {σ : L2.St} {Qd : Addr → Hp → Prop} (R : Addr → Hp → V → β → Prop)
    (mono : ∀ D H H2 v b ys, H D = some (.lst ys) → (∀ a o, a ≠ D → H a = some o → H2 a = some o) → R D H v b → R D H2 v b) (acc : Nat → List β) (a0 : acc 0 = []) (hn : n ≤ 5000)
    (turn : ∀ D i x H2 ys (Kt : V → Hp → Prop) (Kf : Hp → Prop), i < n → H2 D = some (.lst ys) → Same H1 H2 → Y i x H2 → (∀ y H4 b, Same H2 H4 → R D H4 y b → acc (i + 1) = acc i ++ [b] → Kt y H4) → (∀ H3, Same H2 H3 → acc (i + 1) = acc i → Kf H3) →
      g x (wipe σ vs) H2 fun σ2 H2' => wipe σ2 vs = wipe σ vs ∧ tt σ2 H2' fun b H3 => if b = true then te σ2 H3 Kt else Kf H3)
    (done : ∀ D H2 ys, H1 D = none → Same H1 H2 → H2 D = some (.lst ys) → Paired (R D H2) ys (acc n) → Qd D H2) :
    ∀ D, H1 D = none → ∃ W : Nat → Nat → Hp → Prop, (∃ m, W 0 m (upd H1 D (.lst []))) ∧ ∀ i m H, W i m H →
      (J.stop i H ∧ Qd D H) ∨ (J.go i H ∧ ∃ Nx : Hp → Prop, (∀ H2, Nx H2 → ∃ m', m' < m ∧ W (i + 1) m' H2) ∧ ∀ x H2, J.yld i H x H2 → g x (wipe σ vs) H2 fun σ2 H2 => wipe σ2 vs = wipe σ vs ∧ tt σ2 H2 fun b H3 =>
        if b = true then te σ2 H3 fun y H4 => ∃ acc, H4 D = some (.lst acc) ∧ acc.length < sizeLine ∧ Nx (upd H4 D (.lst (acc ++ [y]))) else Nx H3) := by
  intro D hD
  have accLen : ∀ i, (∀ j, j < i → acc (j + 1) = acc j ∨ ∃ b, acc (j + 1) = acc j ++ [b]) → (acc i).length ≤ i := by
    intro i
    induction i with
    | zero => intro _; rw [a0]; exact Nat.le_refl _
    | succ i ih =>
      intro h
      have h1 := ih fun j hj => h j (by omega)
      rcases h i (by omega) with e | ⟨b, e⟩
      · rw [e]; omega
      · rw [e, List.length_append, List.length_singleton]; omega
  refine ⟨fun i m H => m = n - i ∧ i ≤ n ∧ Same H1 H ∧ (∀ j, j < i → acc (j + 1) = acc j ∨ ∃ b, acc (j + 1) = acc j ++ [b]) ∧ ∃ ys, H D = some (.lst ys) ∧ Paired (R D H) ys (acc i), ⟨n, rfl, Nat.zero_le _, Same.new hD, fun j hj => absurd hj (Nat.not_lt_zero _), [], upd_same, by rw [a0]; exact .nil⟩, ?_⟩
  rintro i m H ⟨rfl, hi, hs, hacc, ys, hy, hp⟩
  by_cases hlt : i < n
  · refine .inr ⟨src.go i H hlt hs, fun H2 => Same H1 H2 ∧ (∀ j, j < i + 1 → acc (j + 1) = acc j ∨ ∃ b, acc (j + 1) = acc j ++ [b]) ∧ ∃ ys, H2 D = some (.lst ys) ∧ Paired (R D H2) ys (acc (i + 1)), fun H2 q => ⟨n - (i + 1), by omega, rfl, hlt, q⟩, fun x H2 y => ?_⟩
    obtain ⟨s2, hY⟩ := src.yld i H x H2 hlt hs y
    refine turn D i x H2 ys _ _ hlt (s2 _ _ hy) (hs.trans s2) hY (fun z H4 b s4 r e => ?_) fun H3 s3 e => ?_
    · have hy4 : H4 D = some (.lst ys) := s4 _ _ (s2 _ _ hy)
      have l1 := hp.length
      have l2 := accLen i hacc
      have s14 : Same H1 (upd H4 D (.lst (ys ++ [z]))) := Same.mut ((hs.trans s2).trans s4) hD
      have sx : ∀ a o, a ≠ D → H a = some o → upd H4 D (.lst (ys ++ [z])) a = some o := fun a o ha e => by
        rw [upd_ne ha]
        exact s4 _ _ (s2 _ _ e)
      refine ⟨ys, hy4, small' (by omega), s14, fun j hj => ?_, _, upd_same, ?_⟩
      · by_cases q : j < i
        · exact hacc j q
        · have : j = i := by omega
          subst this
          exact .inr ⟨b, e⟩
      · rw [e]
        exact Paired.app (Paired.mapP hp fun v b q => mono _ _ _ _ _ _ hy sx q) (.cons (mono _ _ _ _ _ _ hy4 (fun a o ha e => by rw [upd_ne ha]; exact e) r) .nil)
    · exact ⟨(hs.trans s2).trans s3, fun j hj => by
        by_cases q : j < i
        · exact hacc j q
        · have : j = i := by omega
          subst this
          exact .inl e, ys, s3 _ _ (s2 _ _ hy), by
        rw [e]
        exact Paired.mapP hp fun v b q => mono _ _ _ _ _ _ hy (fun a o _ e => s3 _ _ (s2 _ _ e)) q⟩
  · have e : i = n := by omega
    subst e
    exact .inl ⟨src.stop H hs, done D H ys hD hs hy hp⟩
/-- the same where what is made is told by tuples alone -/
theorem lcS {β : Type} {J : It} {H1 : Hp} {n : Nat} {Y : Nat → V → Hp → Prop} (src : Src J H1 n Y) {g : TG} {tt : TT} {te : TE} {vs : List Nat} {σ : L2.St} {Qd : Addr → Hp → Prop} (R : Hp → V → β → Prop)
    (mono : ∀ H H2 v b, TM H H2 → R H v b → R H2 v b) (acc : Nat → List β) (a0 : acc 0 = []) (hn : n ≤ 5000)
    (turn : ∀ i x H2 (Kt : V → Hp → Prop) (Kf : Hp → Prop), i < n → Same H1 H2 → Y i x H2 → (∀ y H4 b, Same H2 H4 → R H4 y b → acc (i + 1) = acc i ++ [b] → Kt y H4) → (∀ H3, Same H2 H3 → acc (i + 1) = acc i → Kf H3) →
      g x (wipe σ vs) H2 fun σ2 H2' => wipe σ2 vs = wipe σ vs ∧ tt σ2 H2' fun b H3 => if b = true then te σ2 H3 Kt else Kf H3)
    (done : ∀ D H2 ys, H1 D = none → Same H1 H2 → H2 D = some (.lst ys) → Paired (R H2) ys (acc n) → Qd D H2) :
    ∀ D, H1 D = none → ∃ W : Nat → Nat → Hp → Prop, (∃ m, W 0 m (upd H1 D (.lst []))) ∧ ∀ i m H, W i m H →
      (J.stop i H ∧ Qd D H) ∨ (J.go i H ∧ ∃ Nx : Hp → Prop, (∀ H2, Nx H2 → ∃ m', m' < m ∧ W (i + 1) m' H2) ∧ ∀ x H2, J.yld i H x H2 → g x (wipe σ vs) H2 fun σ2 H2 => wipe σ2 vs = wipe σ vs ∧ tt σ2 H2 fun b H3 =>
        if b = true then te σ2 H3 fun y H4 => ∃ acc, H4 D = some (.lst acc) ∧ acc.length < sizeLine ∧ Nx (upd H4 D (.lst (acc ++ [y]))) else Nx H3) :=
  lcG src (fun _ => R) (fun _ _ _ _ _ _ h s r => mono _ _ _ _ (TM.but h s) r) acc a0 hn (fun _ i x H2 _ Kt Kf hi _ s y kt kf => turn i x H2 Kt Kf hi s y kt kf) done
theorem Paired.map_eq {α β : Type} {f : β → α} {ys : List α} {bs : List β} (h : Paired (fun v b => v = f b) ys bs) : ys = bs.map f := by
  induction h with
  | nil => rfl
  | cons r _ ih => rw [r, ih, List.map_cons]
theorem src_str (x : Str) (H1 : Hp) : Src (Its x) H1 x.cps.size (fun i v _ => ∃ c, x.cps[i]? = some c ∧ v = .str ⟨#[c]⟩) where
  go := fun i H hi _ => hi
  yld := fun i H v H2 hi s y => by
    obtain ⟨rfl, q⟩ := y
    exact ⟨Same.refl _, q⟩
  stop := fun H _ => Nat.le_refl _
/-- a comprehension each of whose items is True -/
theorem lcAll {J : It} {H1 : Hp} {n : Nat} {Y : Nat → V → Hp → Prop} (src : Src J H1 n Y) {g : TG} {te : TE} {vs : List Nat} {σ : L2.St} {Qd : Addr → Hp → Prop} (hn : n ≤ 5000)
    (turn : ∀ i x H2 (Kt : V → Hp → Prop), i < n → Same H1 H2 → Y i x H2 → (∀ H4, Same H2 H4 → Kt (.bl true) H4) → g x (wipe σ vs) H2 fun σ2 H2' => wipe σ2 vs = wipe σ vs ∧ te σ2 H2' Kt)
    (done : ∀ D H2, Same H1 H2 → H2 D = some (.lst ((List.replicate n true).map V.bl)) → Qd D H2) :
    ∀ D, H1 D = none → ∃ W : Nat → Nat → Hp → Prop, (∃ m, W 0 m (upd H1 D (.lst []))) ∧ ∀ i m H, W i m H →
      (J.stop i H ∧ Qd D H) ∨ (J.go i H ∧ ∃ Nx : Hp → Prop, (∀ H2, Nx H2 → ∃ m', m' < m ∧ W (i + 1) m' H2) ∧ ∀ x H2, J.yld i H x H2 → g x (wipe σ vs) H2 fun σ2 H2 => wipe σ2 vs = wipe σ vs ∧ tYes σ2 H2 fun b H3 =>
        if b = true then te σ2 H3 fun y H4 => ∃ acc, H4 D = some (.lst acc) ∧ acc.length < sizeLine ∧ Nx (upd H4 D (.lst (acc ++ [y]))) else Nx H3) :=
  lcS src (tt := tYes) (fun _ v (b : Bool) => v = V.bl b) (fun _ _ _ _ _ r => r) (fun i => List.replicate i true) rfl hn
    (fun i x H2 Kt Kf hi s y kt kf => turn i x H2 Kt hi s y fun H4 s4 => kt _ H4 true s4 rfl List.replicate_succ')
    (fun D H2 ys hD s hl hp => done D H2 s (by rw [← Paired.map_eq hp]; exact hl))
theorem all_true (n : Nat) : (List.replicate n true).all id = true := by
  rw [List.all_eq_true]
  intro x hx
  rw [List.eq_of_mem_replicate hx]
  rfl
/-! ### loops over enumerate, over zip -/
section
variable {K : PySem.W.Frag} {a b : Addr} {xs ys : List V} {g : TG} {tb : TS} {D : Ends} {σ : L2.St} {H : Hp}
theorem for_enumT (Pv : Nat → L2.St → Hp → Prop) (h0 : Pv 0 σ H) (hl : ∀ i σ H, Pv i σ H → SqT K H a xs)
    (hs : ∀ i x T σ H, xs[i]? = some x → Pv i σ H → H T = none → g (.ref T) σ (upd H T (.tup [.int (i : Nat), x])) fun σ2 H2 => tb { D with nx := Pv (i + 1), ct := Pv (i + 1), bk := D.nx } σ2 H2) (hd : ∀ σ H, Pv xs.length σ H → D.nx σ H) :
    ∃ W : Nat → Nat → L2.St → Hp → Prop, (∃ m, W 0 m σ H) ∧ ∀ i m σ H, W i m σ H →
      ((IteT K a).stop i H ∧ D.nx σ H) ∨ ((IteT K a).go i H ∧ ∃ N : L2.St → Hp → Prop, (∀ σ2 H2, N σ2 H2 → ∃ m2, m2 < m ∧ W (i + 1) m2 σ2 H2) ∧ ∀ x H2, (IteT K a).yld i H x H2 → g x σ H2 fun σ2 H2 => tb { D with nx := N, ct := N, bk := D.nx } σ2 H2) := by
  refine ⟨fun i m σ H => m = xs.length - i ∧ i ≤ xs.length ∧ Pv i σ H, ⟨xs.length, rfl, Nat.zero_le _, h0⟩, ?_⟩
  rintro i m σ H ⟨rfl, hi, p⟩
  have q := hl i σ H p
  by_cases hlt : i < xs.length
  · refine .inr ⟨⟨xs, xs[i], q, List.getElem?_eq_getElem hlt⟩, Pv (i + 1), fun σ2 H2 p2 => ⟨xs.length - (i + 1), by omega, rfl, hlt, p2⟩, fun v H2 y => ?_⟩
    obtain ⟨T, x, rfl, hT, rfl, f⟩ := y
    exact hs i x T σ H (f xs q) p hT
  · have e : i = xs.length := by omega
    subst e
    exact .inl ⟨⟨xs, q, Nat.le_refl _⟩, hd σ H p⟩
theorem for_enumL (Pv : Nat → L2.St → Hp → Prop) (h0 : Pv 0 σ H) (hl : ∀ i σ H, Pv i σ H → SqL K H a xs)
    (hs : ∀ i x T σ H, xs[i]? = some x → Pv i σ H → H T = none → g (.ref T) σ (upd H T (.tup [.int (i : Nat), x])) fun σ2 H2 => tb { D with nx := Pv (i + 1), ct := Pv (i + 1), bk := D.nx } σ2 H2) (hd : ∀ σ H, Pv xs.length σ H → D.nx σ H) :
    ∃ W : Nat → Nat → L2.St → Hp → Prop, (∃ m, W 0 m σ H) ∧ ∀ i m σ H, W i m σ H →
      ((Ite K a).stop i H ∧ D.nx σ H) ∨ ((Ite K a).go i H ∧ ∃ N : L2.St → Hp → Prop, (∀ σ2 H2, N σ2 H2 → ∃ m2, m2 < m ∧ W (i + 1) m2 σ2 H2) ∧ ∀ x H2, (Ite K a).yld i H x H2 → g x σ H2 fun σ2 H2 => tb { D with nx := N, ct := N, bk := D.nx } σ2 H2) := by
  refine ⟨fun i m σ H => m = xs.length - i ∧ i ≤ xs.length ∧ Pv i σ H, ⟨xs.length, rfl, Nat.zero_le _, h0⟩, ?_⟩
  rintro i m σ H ⟨rfl, hi, p⟩
  have q := hl i σ H p
  by_cases hlt : i < xs.length
  · refine .inr ⟨⟨xs, xs[i], q, List.getElem?_eq_getElem hlt⟩, Pv (i + 1), fun σ2 H2 p2 => ⟨xs.length - (i + 1), by omega, rfl, hlt, p2⟩, fun v H2 y => ?_⟩
    obtain ⟨T, x, rfl, hT, rfl, f⟩ := y
    exact hs i x T σ H (f xs q) p hT
  · have e : i = xs.length := by omega
    subst e
    exact .inl ⟨⟨xs, q, Nat.le_refl _⟩, hd σ H p⟩
/-- zip of two lists, n the lesser length -/
theorem for_zip2 {n : Nat} (hn : n = min xs.length ys.length) (Pv : Nat → L2.St → Hp → Prop) (h0 : Pv 0 σ H) (hl : ∀ i σ H, Pv i σ H → SqL K H a xs ∧ SqL K H b ys)
    (hs : ∀ i x y T σ H, xs[i]? = some x → ys[i]? = some y → Pv i σ H → H T = none → g (.ref T) σ (upd H T (.tup [x, y])) fun σ2 H2 => tb { D with nx := Pv (i + 1), ct := Pv (i + 1), bk := D.nx } σ2 H2) (hd : ∀ σ H, Pv n σ H → D.nx σ H) :
    ∃ W : Nat → Nat → L2.St → Hp → Prop, (∃ m, W 0 m σ H) ∧ ∀ i m σ H, W i m σ H →
      ((Itz K a b).stop i H ∧ D.nx σ H) ∨ ((Itz K a b).go i H ∧ ∃ N : L2.St → Hp → Prop, (∀ σ2 H2, N σ2 H2 → ∃ m2, m2 < m ∧ W (i + 1) m2 σ2 H2) ∧ ∀ x H2, (Itz K a b).yld i H x H2 → g x σ H2 fun σ2 H2 => tb { D with nx := N, ct := N, bk := D.nx } σ2 H2) := by
  refine ⟨fun i m σ H => m = n - i ∧ i ≤ n ∧ Pv i σ H, ⟨n, rfl, Nat.zero_le _, h0⟩, ?_⟩
  rintro i m σ H ⟨rfl, hi, p⟩
  obtain ⟨qx, qy⟩ := hl i σ H p
  by_cases hlt : i < n
  · have h1 : i < xs.length := by omega
    have h2 : i < ys.length := by omega
    refine .inr ⟨⟨xs, ys, xs[i], ys[i], qx, qy, List.getElem?_eq_getElem h1, List.getElem?_eq_getElem h2⟩, Pv (i + 1), fun σ2 H2 p2 => ⟨n - (i + 1), by omega, rfl, hlt, p2⟩, fun v H2 y => ?_⟩
    obtain ⟨T, x, z, rfl, hT, rfl, f1, f2⟩ := y
    exact hs i x z T σ H (f1 xs qx) (f2 ys qy) p hT
  · have e : i = n := by omega
    subst e
    refine .inl ⟨⟨xs, ys, qx, qy, ?_⟩, hd σ H p⟩
    omega
end
end Fw

set_option maxHeartbeats 4000000
/-! FwTxt: where the defs stand, what a def's promise is worth to its callers. -/
namespace Fw
open PySem PySem.Spec PySem.W PyProof.Rows L2
/-! ### a def of the top, a method, an __init__ -/
def GDef (K : PySem.W.Frag) (mg : Str → Option Value) (x : Str) (st : Stmt) (ps : List Str) : Prop := ∃ f fd, mg x = some (.ref f) ∧ FunD K x x (defArgs st) (defBody st) (defScope st) [] [] f fd ∧ Binds K fd ps []
def MDef (K : PySem.W.Frag) (C : Addr) (m q : Str) (st : Stmt) (ps : List Str) : Prop := ∃ f fd, Meth K C m f ∧ FunD K m q (defArgs st) (defBody st) (defScope st) [] [] f fd ∧ Binds K fd ps []
def IDef (K : PySem.W.Frag) (C : Addr) (q : Str) (st : Stmt) (ps : List Str) : Prop := ∃ f fd, Mk K C f ∧ FunD K "__init__" q (defArgs st) (defBody st) (defScope st) [] [] f fd ∧ Binds K fd ps []
def XDef (K : PySem.W.Frag) (C : Addr) (q : Str) (st : Stmt) (ps : List Str) : Prop := ∃ f fd, OexC K C ∧ XfC K C ∧ PySem.W.findIn K (.ref C) "__init__" = some (some (.ref f)) ∧ PySem.W.typeIn K (.ref f) = some (.type "function") ∧ FunD K "__init__" q (defArgs st) (defBody st) (defScope st) [] [] f fd ∧ Binds K fd ps []
/-! ### their promises -/
section
variable (P : Program) (w : World) (K : PySem.W.Frag) (mg : Str → Option Value) (base : Heap)
def Kp (CX : CXT) (k : Nat) (x : Str) (ps : List Str) (sp : Sp) : Prop := ∃ f fd, mg x = some (.ref f) ∧ PySem.W.keepIn K (.ref f) = true ∧ Binds K fd ps [] ∧ FnOk P w K mg base CX k f fd ps sp
def KpM (CX : CXT) (k : Nat) (C : Addr) (m : Str) (ps : List Str) (sp : Sp) : Prop := ∃ f fd, Meth K C m f ∧ Binds K fd ps [] ∧ FnOk P w K mg base CX k f fd ps sp
def KpI (CX : CXT) (k : Nat) (C : Addr) (ps : List Str) (sp : Sp) : Prop := ∃ f fd, Mk K C f ∧ Binds K fd ps [] ∧ FnOk P w K mg base CX k f fd ps sp
end
section
variable {P : Program} {w : World} {K : PySem.W.Frag} {mg : Str → Option Value} {base : Heap} {x q : Str} {st : Stmt} {N ps : List Str} {k : Nat} {sp : Sp} {C : Addr}
theorem GDef.ok (D : GDef K mg x st ps) (S : FnScope N ps (defScope st)) (len : ∀ vs H Q E, sp vs H Q E → vs.length = ps.length)
    (hbody : ∀ (f : Addr) (cdv : Value) (A : Around) (outer : List Env) (s : Shared) (H : Hp) (vs : List V) (Q : VK) (E : XK), Room k (A.deeper (envOfC x (defScope st) s.heap.objs.size f cdv)) → sp vs H Q E →
      ∃ t, PSs (cxOf CX0 P w K mg base N x (defScope st) f cdv A outer s H E).nox (defBody st) t ∧ t { nx := fun _ H2 => Q .non H2, rt := Q } (start N vs) H) : Kp P w K mg base CX0 (k + 1) x ps sp := by
  obtain ⟨f, fd, h1, F, b⟩ := D
  refine ⟨f, fd, h1, F.kp, b, F.ok S len fun cdv A outer s H vs Q E hr h => ?_⟩
  obtain ⟨t, ht, r⟩ := hbody f cdv A outer s H vs Q E hr h
  exact ⟨t, ht.nox, r⟩
theorem GDef.okX (D : GDef K mg x st ps) (S : FnScope N ps (defScope st)) (len : ∀ vs H Q E, sp vs H Q E → vs.length = ps.length)
    (hbody : ∀ (f : Addr) (cdv : Value) (A : Around) (outer : List Env) (s : Shared) (H : Hp) (vs : List V) (Q : VK) (E : XK), Room k (A.deeper (envOfC x (defScope st) s.heap.objs.size f cdv)) → sp vs H Q E →
      ∃ t, PSs (cxOf (L2.CX P w) P w K mg base N x (defScope st) f cdv A outer s H E) (defBody st) t ∧ t { nx := fun _ H2 => Q .non H2, rt := Q } (start N vs) H) : Kp P w K mg base (L2.CX P w) (k + 1) x ps sp := by
  obtain ⟨f, fd, h1, F, b⟩ := D
  exact ⟨f, fd, h1, F.kp, b, F.ok S len fun cdv A outer s H vs Q E hr h => hbody f cdv A outer s H vs Q E hr h⟩
theorem MDef.ok {m : Str} (D : MDef K C m q st ps) (S : FnScope N ps (defScope st)) (len : ∀ vs H Q E, sp vs H Q E → vs.length = ps.length)
    (hbody : ∀ (f : Addr) (cdv : Value) (A : Around) (outer : List Env) (s : Shared) (H : Hp) (vs : List V) (Q : VK) (E : XK), Room k (A.deeper (envOfC q (defScope st) s.heap.objs.size f cdv)) → sp vs H Q E →
      ∃ t, PSs (cxOf CX0 P w K mg base N q (defScope st) f cdv A outer s H E).nox (defBody st) t ∧ t { nx := fun _ H2 => Q .non H2, rt := Q } (start N vs) H) : KpM P w K mg base CX0 (k + 1) C m ps sp := by
  obtain ⟨f, fd, h1, F, b⟩ := D
  refine ⟨f, fd, h1, b, F.ok S len fun cdv A outer s H vs Q E hr h => ?_⟩
  obtain ⟨t, ht, r⟩ := hbody f cdv A outer s H vs Q E hr h
  exact ⟨t, ht.nox, r⟩
theorem MDef.okX {m : Str} (D : MDef K C m q st ps) (S : FnScope N ps (defScope st)) (len : ∀ vs H Q E, sp vs H Q E → vs.length = ps.length)
    (hbody : ∀ (f : Addr) (cdv : Value) (A : Around) (outer : List Env) (s : Shared) (H : Hp) (vs : List V) (Q : VK) (E : XK), Room k (A.deeper (envOfC q (defScope st) s.heap.objs.size f cdv)) → sp vs H Q E →
      ∃ t, PSs (cxOf (L2.CX P w) P w K mg base N q (defScope st) f cdv A outer s H E) (defBody st) t ∧ t { nx := fun _ H2 => Q .non H2, rt := Q } (start N vs) H) : KpM P w K mg base (L2.CX P w) (k + 1) C m ps sp := by
  obtain ⟨f, fd, h1, F, b⟩ := D
  exact ⟨f, fd, h1, b, F.ok S len fun cdv A outer s H vs Q E hr h => hbody f cdv A outer s H vs Q E hr h⟩
theorem IDef.ok (D : IDef K C q st ps) (S : FnScope N ps (defScope st)) (len : ∀ vs H Q E, sp vs H Q E → vs.length = ps.length)
    (hbody : ∀ (f : Addr) (cdv : Value) (A : Around) (outer : List Env) (s : Shared) (H : Hp) (vs : List V) (Q : VK) (E : XK), Room k (A.deeper (envOfC q (defScope st) s.heap.objs.size f cdv)) → sp vs H Q E →
      ∃ t, PSs (cxOf CX0 P w K mg base N q (defScope st) f cdv A outer s H E).nox (defBody st) t ∧ t { nx := fun _ H2 => Q .non H2, rt := Q } (start N vs) H) : KpI P w K mg base CX0 (k + 1) C ps sp := by
  obtain ⟨f, fd, h1, F, b⟩ := D
  refine ⟨f, fd, h1, b, F.ok S len fun cdv A outer s H vs Q E hr h => ?_⟩
  obtain ⟨t, ht, r⟩ := hbody f cdv A outer s H vs Q E hr h
  exact ⟨t, ht.nox, r⟩
end
section
variable {X : Cx} {CX : CXT} {k : Nat} {ps : List Str} {sp : Sp} {E : XK} {x m : Str} {p pos apos : Pos} {e o : Expr} {es : List Expr} {ta : TE} {t : TA} {C : Addr}
/-- f(e, ..) -/
theorem pe_g (F : Kp X.prog X.w X.K X.mg X.base CX k x ps sp) (hr : Room k X.A) (hx : Passes CX X E) (ha : PA X (e :: es) t) (hg : Gl X x := by rfl) (hdb : (x == ("__debug__" : Str)) = false := by decide)
    (he : starEach (e :: es) X.env = (false, eval e X.env) :: starEach es X.env := by rfl) (hpl : (backTo pos (starEach es X.env)).any (·.1) = false := by rfl) : PE X (.Call (.Name x p) (e :: es) [] pos) (tCall sp [] E t) := by
  obtain ⟨f, fd, h1, h2, h3, h4⟩ := F
  exact pe_call h4 hr hg h1 h2 h3 .nil hx ha hdb he hpl
/-- o.m(e, ..) -/
theorem pe_mg {pl : Sem Bool} (F : KpM X.prog X.w X.K X.mg X.base CX k C m ps sp) (c : Cls X.K C) (hr : Room k X.A) (hx : Passes CX X E) (ho : PE X o ta) (ha : PA X (e :: es) t)
    (hst : starEach (e :: es) X.env = (false, eval e X.env) :: starEach es X.env := by rfl) (hpl : (backTo pos (starEach es X.env)).any (·.1) = false := by rfl)
    (ht : eval (.Call (.Attribute o m apos) (e :: es) [] pos) X.env = (do
      let ov ← eval o X.env
      standAt apos.atName
      let (f, first) ← holding [ov] (getMethod ov m pl)
      callWith pos f first (backTo pos (starEach (e :: es) X.env)) (backToKw pos (keywordEach [] X.env))) := by rfl) :
    PE X (.Call (.Attribute o m apos) (e :: es) [] pos) (tMeth C m sp [] E ta t) := by
  obtain ⟨f, fd, h1, h2, h3⟩ := F
  exact pe_meth ho c h1 h3 hr h2 .nil hx ha hst hpl ht
/-- o.m() -/
theorem pe_mg0 {pl : Sem Bool} (F : KpM X.prog X.w X.K X.mg X.base CX k C m ps sp) (c : Cls X.K C) (hr : Room k X.A) (hx : Passes CX X E) (ho : PE X o ta)
    (ht : eval (.Call (.Attribute o m apos) [] [] pos) X.env = (do
      let ov ← eval o X.env
      standAt apos.atName
      let (f, first) ← holding [ov] (getMethod ov m pl)
      callWith pos f first (backTo pos (starEach [] X.env)) (backToKw pos (keywordEach [] X.env))) := by rfl) :
    PE X (.Call (.Attribute o m apos) [] [] pos) (tMeth C m sp [] E ta tNil) := by
  obtain ⟨f, fd, h1, h2, h3⟩ := F
  exact pe_meth0 ho c h1 h3 hr h2 .nil hx ht
/-- C(e, ..) -/
theorem pe_ig (F : KpI X.prog X.w X.K X.mg X.base CX k C ps sp) (hr : Room (k + 1) X.A) (hm : X.mg x = some (.ref C)) (hx : Passes CX X E) (ha : PA X (e :: es) t) (hg : Gl X x := by rfl) (hdb : (x == ("__debug__" : Str)) = false := by decide)
    (he : starEach (e :: es) X.env = (false, eval e X.env) :: starEach es X.env := by rfl) (hpl : (backTo pos (starEach es X.env)).any (·.1) = false := by rfl) : PE X (.Call (.Name x p) (e :: es) [] pos) (tMake C sp [] E t) := by
  obtain ⟨f, fd, h1, h2, h3⟩ := F
  exact pe_make h1 h3 hr hg hm h2 .nil hx ha hdb he hpl
end
/-! ### constants of the module, isinstance -/
section
variable {X : Cx} {x : Str} {pos : Pos}
theorem pe_gi {i : Int} (h : ∃ t, X.mg x = some (.int i t)) (hg : Gl X x := by rfl) (hd : (x == ("__debug__" : Str)) = false := by decide) : PE X (.Name x pos) (tC (.int i)) := by
  obtain ⟨t, h⟩ := h
  exact pe_glob hg h ⟨t, rfl⟩ hd
theorem pe_gs {z : Str} (h : ∃ t, X.mg x = some (.str z t)) (hg : Gl X x := by rfl) (hd : (x == ("__debug__" : Str)) = false := by decide) : PE X (.Name x pos) (tC (.str z)) := by
  obtain ⟨t, h⟩ := h
  exact pe_glob hg h ⟨t, rfl⟩ hd
def rIsiS (K : PySem.W.Frag) : List V → Hp → VK → Prop := fun xs H Q => ∃ (x : V) (b a : String) (r : Bool), xs = [x, .ty b] ∧ TyX K H x (.type a) ∧ kitB a b = some r ∧ Q (.bl r) H
theorem call_isiS : CallR X (.builtin "isinstance") (rIsiS X.K) := by
  intro pins s σ H xs us Q I r h
  obtain ⟨x, b, a, c, rfl, ty, k, q⟩ := h
  exact call_isi pins s σ H _ us Q I r ⟨x, .ty b, .type a, .type b, c, rfl, .ty b, ty, kit_ty k, q⟩
theorem pe_isi {b : String} {e : Expr} {te : TE} {tn : Str} {p p2 : Pos} (hg : Gl X "isinstance") (hm : X.mg "isinstance" = none) (hm2 : X.mg tn = none) (hv : bootBuiltins tn = some (.type b)) (he : PE X e te) (hg2 : Gl X tn := by rfl) (hn : tn ≠ "__name__" := by decide) (hd : (tn == ("__debug__" : Str)) = false := by decide)
    (hs : starEach [e, .Name tn p2] X.env = (false, eval e X.env) :: starEach [.Name tn p2] X.env := by rfl) (hpl : (backTo pos (starEach [.Name tn p2] X.env)).any (·.1) = false := by rfl) (hs2 : starEach [.Name tn p2] X.env = (false, eval (.Name tn p2) X.env) :: starEach [] X.env := by rfl) :
    PE X (.Call (.Name "isinstance" p) [e, .Name tn p2] [] pos) (tCB (rIsiS X.K) (tCons te (tCons (tC (.ty b)) tNil))) :=
  pe_callB call_isiS hg hm PyProof.Rows.boot_isinstance (pa_cons he (pa_cons (pe_bltn hg2 hm2 hv rfl hn hd) pa_nil hs2) hs) (by decide) (by decide) hs hpl
end
/-! ### the text -/
def topS (i : Nat) : Stmt := PySem.Challenge.pw_fewestrules_k93_whole_undone_and_replaye.main.body.getD i (.Pass ⟨0, 0, 0, 0⟩)
abbrev s_NotApplicable_init : Stmt := inClass (topS 4) 0
abbrev s_is_whole : Stmt := topS 11
abbrev s_is_level : Stmt := topS 12
abbrev s_is_letter : Stmt := topS 13
abbrev s_are_letters : Stmt := topS 14
abbrev s_is_order : Stmt := topS 15
abbrev s_removed : Stmt := topS 16
abbrev s_places_of : Stmt := topS 18
abbrev s_least_between : Stmt := topS 19
abbrev s_Pairs_init : Stmt := inClass (topS 20) 0
abbrev s_Pairs_can_follow : Stmt := inClass (topS 20) 1
abbrev s_Pairs_lengths : Stmt := inClass (topS 20) 2
abbrev s_Pairs_levels : Stmt := inClass (topS 20) 3
abbrev s_longest_in : Stmt := topS 21
abbrev s_longest_of : Stmt := topS 22
abbrev s_levels_of : Stmt := topS 23
abbrev s_is_integer : Stmt := topS 28
abbrev s_is_rule : Stmt := topS 29
abbrev s_is_rule_list : Stmt := topS 30
abbrev s_check_order : Stmt := topS 31
abbrev s_check_rule : Stmt := topS 32
abbrev s_why_not : Stmt := topS 33
abbrev s_turned_around : Stmt := topS 34
abbrev s_put_after : Stmt := topS 35
abbrev s_put : Stmt := topS 36
abbrev s_applied : Stmt := topS 37
abbrev s_led : Stmt := topS 38
abbrev s_reaches : Stmt := topS 40
abbrev s_from_left : Stmt := topS 41
abbrev s_from_right : Stmt := topS 42
abbrev s_gap_rules : Stmt := topS 43
abbrev s_keep : Stmt := topS 44
abbrev s_check_orders : Stmt := topS 46
abbrev s_distance_of : Stmt := topS 47
abbrev s_rules_of : Stmt := topS 48
abbrev s_answer_for : Stmt := topS 49
abbrev s_is_command : Stmt := topS 52
abbrev s_behind : Stmt := topS 53
abbrev s_Workshop_init : Stmt := inClass (topS 54) 0
abbrev s_Workshop_do : Stmt := inClass (topS 54) 1
abbrev s_Workshop_undo : Stmt := inClass (topS 54) 2
abbrev s_Workshop_initial : Stmt := inClass (topS 54) 3
abbrev s_Workshop_current : Stmt := inClass (topS 54) 4
abbrev s_Workshop_distance : Stmt := inClass (topS 54) 5
abbrev s_Workshop_shortest : Stmt := inClass (topS 54) 6
abbrev s_Workshop_kept : Stmt := inClass (topS 54) 7
abbrev s_Workshop_journal : Stmt := inClass (topS 54) 9
abbrev s_Workshop_records : Stmt := inClass (topS 54) 10
abbrev s_replayed : Stmt := topS 56
abbrev s_Lstream : Stmt := topS 58
abbrev s_Lnext : Stmt := topS 59
abbrev s_Lshuffled : Stmt := topS 60
abbrev s_Lorder : Stmt := topS 61
abbrev s_Lrule : Stmt := topS 62
abbrev s_Lwithout : Stmt := topS 63
abbrev s_Lput : Stmt := topS 64
abbrev s_Lled : Stmt := topS 65
abbrev s_Lcommand : Stmt := topS 66
abbrev s_Lbehind : Stmt := topS 67
abbrev s_Lreplayed : Stmt := topS 70
abbrev s_Lstate : Stmt := topS 71
abbrev s_law : Stmt := topS 72
/-- what the top has written, as the walk asks for it -/
structure Txt (K : PySem.W.Frag) (mg : Str → Option Value) (CP CW CN SD : Addr) : Prop where
  d_NotApplicable_init : XDef K CN "NotApplicable.__init__" s_NotApplicable_init ["self", "index", "why"]
  d_is_whole : GDef K mg "is_whole" s_is_whole ["value"]
  d_is_level : GDef K mg "is_level" s_is_level ["value"]
  d_is_letter : GDef K mg "is_letter" s_is_letter ["value"]
  d_are_letters : GDef K mg "are_letters" s_are_letters ["value"]
  d_is_order : GDef K mg "is_order" s_is_order ["value"]
  d_removed : GDef K mg "removed" s_removed ["order", "letter"]
  d_places_of : GDef K mg "places_of" s_places_of ["order"]
  d_least_between : GDef K mg "least_between" s_least_between ["order", "low", "high"]
  d_Pairs_init : IDef K CP "Pairs.__init__" s_Pairs_init ["self", "first", "second"]
  d_Pairs_can_follow : MDef K CP "can_follow" "Pairs.can_follow" s_Pairs_can_follow ["self", "i", "j"]
  d_Pairs_lengths : MDef K CP "lengths" "Pairs.lengths" s_Pairs_lengths ["self"]
  d_Pairs_levels : MDef K CP "levels" "Pairs.levels" s_Pairs_levels ["self"]
  d_longest_in : GDef K mg "longest_in" s_longest_in ["pairs"]
  d_longest_of : GDef K mg "longest_of" s_longest_of ["first", "second"]
  d_levels_of : GDef K mg "levels_of" s_levels_of ["first", "second"]
  d_is_integer : GDef K mg "is_integer" s_is_integer ["value"]
  d_is_rule : GDef K mg "is_rule" s_is_rule ["value"]
  d_is_rule_list : GDef K mg "is_rule_list" s_is_rule_list ["value"]
  d_check_order : GDef K mg "check_order" s_check_order ["order", "name"]
  d_check_rule : GDef K mg "check_rule" s_check_rule ["order", "rule"]
  d_why_not : GDef K mg "why_not" s_why_not ["order", "rule"]
  d_turned_around : GDef K mg "turned_around" s_turned_around ["order"]
  d_put_after : GDef K mg "put_after" s_put_after ["order", "anchor", "strength", "letter"]
  d_put : GDef K mg "put" s_put ["order", "rule"]
  d_applied : GDef K mg "applied" s_applied ["order", "rule"]
  d_led : GDef K mg "led" s_led ["order", "rules"]
  d_reaches : GDef K mg "reaches" s_reaches ["first", "second"]
  d_from_left : GDef K mg "from_left" s_from_left ["second", "low", "high"]
  d_from_right : GDef K mg "from_right" s_from_right ["second", "low", "high"]
  d_gap_rules : GDef K mg "gap_rules" s_gap_rules ["second", "low", "high"]
  d_keep : GDef K mg "keep" s_keep ["second", "letters"]
  d_check_orders : GDef K mg "check_orders" s_check_orders ["first", "second"]
  d_distance_of : GDef K mg "distance_of" s_distance_of ["first", "second"]
  d_rules_of : GDef K mg "rules_of" s_rules_of ["first", "second"]
  d_answer_for : GDef K mg "answer_for" s_answer_for ["first", "second"]
  d_is_command : GDef K mg "is_command" s_is_command ["value"]
  d_behind : GDef K mg "behind" s_behind ["initial", "current", "command"]
  d_Workshop_init : IDef K CW "Workshop.__init__" s_Workshop_init ["self", "order"]
  d_Workshop_do : MDef K CW "do" "Workshop.do" s_Workshop_do ["self", "command"]
  d_Workshop_undo : MDef K CW "undo" "Workshop.undo" s_Workshop_undo ["self"]
  d_Workshop_initial : MDef K CW "initial" "Workshop.initial" s_Workshop_initial ["self"]
  d_Workshop_current : MDef K CW "current" "Workshop.current" s_Workshop_current ["self"]
  d_Workshop_distance : MDef K CW "distance" "Workshop.distance" s_Workshop_distance ["self"]
  d_Workshop_shortest : MDef K CW "shortest" "Workshop.shortest" s_Workshop_shortest ["self"]
  d_Workshop_kept : MDef K CW "kept" "Workshop.kept" s_Workshop_kept ["self"]
  d_Workshop_journal : MDef K CW "journal" "Workshop.journal" s_Workshop_journal ["self"]
  d_Workshop_records : MDef K CW "records" "Workshop.records" s_Workshop_records ["self"]
  d_replayed : GDef K mg "replayed" s_replayed ["order", "journal"]
  d_Lstream : GDef K mg "_law_stream" s_Lstream ["_law_script"]
  d_Lnext : GDef K mg "_law_next" s_Lnext ["_law_stream_here", "_law_many"]
  d_Lshuffled : GDef K mg "_law_shuffled" s_Lshuffled ["_law_stream_here", "_law_items"]
  d_Lorder : GDef K mg "_law_order" s_Lorder ["_law_stream_here", "_law_letters", "_law_most"]
  d_Lrule : GDef K mg "_law_rule" s_Lrule ["_law_stream_here", "_law_letters"]
  d_Lwithout : GDef K mg "_law_without" s_Lwithout ["_law_order_here", "_law_letter"]
  d_Lput : GDef K mg "_law_put" s_Lput ["_law_order_here", "_law_rule_here"]
  d_Lled : GDef K mg "_law_led" s_Lled ["_law_order_here", "_law_rules"]
  d_Lcommand : GDef K mg "_law_command" s_Lcommand ["_law_stream_here", "_law_order_here", "_law_letters"]
  d_Lbehind : GDef K mg "_law_behind" s_Lbehind ["_law_initial", "_law_current", "_law_command_here"]
  d_Lreplayed : GDef K mg "_law_replayed" s_Lreplayed ["_law_order_here", "_law_journal"]
  d_Lstate : GDef K mg "_law_state" s_Lstate ["_law_workshop"]
  d_law : GDef K mg "law" s_law ["_law_script"]
  g_Pairs : mg "Pairs" = some (.ref CP)
  g_Workshop : mg "Workshop" = some (.ref CW)
  g_NotApplicable : mg "NotApplicable" = some (.ref CN)
  g_SIDES : mg "SIDES" = some (.ref SD)
  sides : ∀ H : Hp, SqT K H SD [.str "after", .str "before"]
  b_isinstance : mg "isinstance" = none
  b_len : mg "len" = none
  b_max : mg "max" = none
  b_min : mg "min" = none
  b_all : mg "all" = none
  b_int : mg "int" = none
  b_str : mg "str" = none
  b_tuple : mg "tuple" = none
  b_bool : mg "bool" = none
  b_enumerate : mg "enumerate" = none
  b_range : mg "range" = none
  b_zip : mg "zip" = none
  b_list : mg "list" = none
  b_abs : mg "abs" = none
  b_repr : mg "repr" = none
  c_LONGEST : ∃ t, mg "LONGEST" = some (.int 12 t)
  c_MOST : ∃ t, mg "MOST" = some (.int 12 t)
  c_MOST_LETTERS : ∃ t, mg "MOST_LETTERS" = some (.int 12 t)
  c_MOST_RULES : ∃ t, mg "MOST_RULES" = some (.int 20 t)
  c_MOST_COMMANDS : ∃ t, mg "MOST_COMMANDS" = some (.int 20 t)
  c_CHARACTERS : ∃ t, mg "CHARACTERS" = some (.str "abcdefghijklmnopqrstuvwxyz" t)
  c_DIGITS : ∃ t, mg "DIGITS" = some (.str "0123456789" t)
  cl_Pairs : Cls K CP
  cl_Workshop : Cls K CW
  n_Pairs_places : NoAttr K CP "places"
  n_Pairs_first : NoAttr K CP "first"
  n_Pairs_second : NoAttr K CP "second"
  n_Pairs_own : NoAttr K CP "own"
  n_Pairs_letters : NoAttr K CP "letters"
  n_Pairs_many : NoAttr K CP "many"
  n_Pairs_links : NoAttr K CP "links"
  n_Workshop_orders : NoAttr K CW "orders"
  n_Workshop_commands : NoAttr K CW "commands"
  n_NotApplicable_index : NoAttr K CN "index"
  n_NotApplicable_why : NoAttr K CN "why"
  exm : PySem.W.exmOne K (.ref CN) (.ref CN) = some true
end Fw

set_option maxHeartbeats 4000000
/-! FwData: what stands for letters, orders, rules, commands; the texts that letters are. -/
namespace Fw
open PySem PySem.Spec PySem.W PyProof.Rows L2
def sd (b : Bool) : Str := if b then "after" else "before"
def StrsA (H : Hp) (v : V) (l : List Str) : Prop := ∃ a, v = .ref a ∧ Tp H a (l.map V.str)
def IntsA (H : Hp) (v : V) (l : List Int) : Prop := ∃ a, v = .ref a ∧ Tp H a (l.map V.int)
def OrdA (H : Hp) (v : V) (o : Ord Str) : Prop := ∃ a b c, v = .ref a ∧ Tp H a [.ref b, .ref c] ∧ Tp H b (o.ls.map V.str) ∧ Tp H c (o.ss.map V.int)
def RulA (H : Hp) (v : V) (r : Rul Str) : Prop := ∃ a, v = .ref a ∧ Tp H a [.str (sd r.aft), .str r.anc, .int r.k, .str r.mov]
def RulsA (H : Hp) (v : V) (rs : List (Rul Str)) : Prop := ∃ a xs, v = .ref a ∧ Tp H a xs ∧ Paired (RulA H) xs rs
def CmdA (H : Hp) (v : V) : Cmd Str → Prop
  | .reset => ∃ a, v = .ref a ∧ Tp H a [.str "reset"]
  | .rule r => ∃ a x, v = .ref a ∧ Tp H a [.str "rule", x] ∧ RulA H x r
  | .rules rs => ∃ a x, v = .ref a ∧ Tp H a [.str "rules", x] ∧ RulsA H x rs
section
variable {H H2 : Hp} {v : V}
theorem StrsA.tm {l : List Str} (s : TM H H2) (h : StrsA H v l) : StrsA H2 v l := by
  obtain ⟨a, e, h⟩ := h
  exact ⟨a, e, h.tm s⟩
theorem IntsA.tm {l : List Int} (s : TM H H2) (h : IntsA H v l) : IntsA H2 v l := by
  obtain ⟨a, e, h⟩ := h
  exact ⟨a, e, h.tm s⟩
theorem OrdA.tm {o : Ord Str} (s : TM H H2) (h : OrdA H v o) : OrdA H2 v o := by
  obtain ⟨a, b, c, e, h1, h2, h3⟩ := h
  exact ⟨a, b, c, e, h1.tm s, h2.tm s, h3.tm s⟩
theorem RulA.tm {r : Rul Str} (s : TM H H2) (h : RulA H v r) : RulA H2 v r := by
  obtain ⟨a, e, h⟩ := h
  exact ⟨a, e, h.tm s⟩
theorem RulsA.tm {rs : List (Rul Str)} (s : TM H H2) (h : RulsA H v rs) : RulsA H2 v rs := by
  obtain ⟨a, xs, e, h, p⟩ := h
  exact ⟨a, xs, e, h.tm s, Paired.mapP p fun _ _ q => q.tm s⟩
theorem CmdA.tm {c : Cmd Str} (s : TM H H2) (h : CmdA H v c) : CmdA H2 v c := by
  cases c with
  | reset =>
    obtain ⟨a, e, h⟩ := h
    exact ⟨a, e, h.tm s⟩
  | rule r =>
    obtain ⟨a, x, e, h, p⟩ := h
    exact ⟨a, x, e, h.tm s, p.tm s⟩
  | rules rs =>
    obtain ⟨a, x, e, h, p⟩ := h
    exact ⟨a, x, e, h.tm s, p.tm s⟩
end
/-! ### letters -/
def alpha : List Str := ["a", "b", "c", "d", "e", "f", "g", "y"]
def alpha9 : List Str := ["a", "b", "c", "d", "e", "f", "g", "y", "zz"]
theorem alpha_sub {x : Str} (h : x ∈ alpha) : x ∈ alpha9 := by
  unfold alpha at h
  unfold alpha9
  simp only [List.mem_cons, List.not_mem_nil, or_false] at h ⊢
  rcases h with h | h | h | h | h | h | h | h <;> simp [h]
def okL (x : Str) : Bool := decide (1 ≤ x.cps.toList.length) && (decide (x.cps.toList.length ≤ 12) && x.cps.toList.all fun c => decide (c ∈ ("abcdefghijklmnopqrstuvwxyz" : Str).cps.toList))
theorem okL_all : ∀ x ∈ alpha9, okL x = true := by
  have h : alpha9.all okL = true := by decide +kernel
  exact List.all_eq_true.mp h
structure LetOk (x : Str) : Prop where
  pos : 1 ≤ x.cps.toList.length
  most : x.cps.toList.length ≤ 12
  all : ∀ c ∈ x.cps.toList, c ∈ ("abcdefghijklmnopqrstuvwxyz" : Str).cps.toList
theorem letOk {x : Str} (h : x ∈ alpha9) : LetOk x := by
  have q := okL_all x h
  unfold okL at q
  obtain ⟨h1, q⟩ := Bool.and_eq_true_iff.mp q
  obtain ⟨h2, h3⟩ := Bool.and_eq_true_iff.mp q
  exact ⟨of_decide_eq_true h1, of_decide_eq_true h2, fun c hc => of_decide_eq_true (List.all_eq_true.mp h3 c hc)⟩
theorem strLen (x : Str) : x.length = x.cps.toList.length := by
  show x.cps.size = _
  exact (Array.length_toList).symm
/-- different letters of eight: eight at most -/
theorem nodup_le {α : Type} [DecidableEq α] : ∀ (l m : List α), l.Nodup → (∀ x ∈ l, x ∈ m) → l.length ≤ m.length
  | [], _, _, _ => Nat.zero_le _
  | x :: l, m, h, s => by
    have hx : x ∈ m := s x List.mem_cons_self
    rw [List.nodup_cons] at h
    have e : (m.erase x).length = m.length - 1 := List.length_erase_of_mem hx
    have p : 0 < m.length := List.length_pos_of_mem hx
    have ih := nodup_le l (m.erase x) h.2 fun y hy => by
      have ne : y ≠ x := fun q => h.1 (q ▸ hy)
      exact (List.mem_erase_of_ne ne).mpr (s y (List.mem_cons_of_mem _ hy))
    rw [List.length_cons]
    omega
/-- an order of the law: well formed, of the eight letters -/
structure WO (o : Ord Str) : Prop where
  wf : WF o
  al : ∀ x ∈ o.ls, x ∈ alpha
theorem WO.le {o : Ord Str} (w : WO o) : o.ls.length ≤ 8 := nodup_le o.ls alpha w.wf.nd w.al
/-- a rule of the law -/
structure RO (r : Rul Str) : Prop where
  ok : ROk r
  a9 : r.anc ∈ alpha9
  a8 : r.mov ∈ alpha
def CO : Cmd Str → Prop
  | .reset => True
  | .rule r => RO r
  | .rules rs => rs.length ≤ 3 ∧ ∀ r ∈ rs, RO r
theorem put_wo {o : Ord Str} {r : Rul Str} (w : WO o) (h : RO r) (q : r.anc ∈ o.ls) : WO (put o r) := by
  have f : RFit o r := ⟨h.ok.ne, h.ok.lv, q⟩
  refine ⟨put_wf w.wf f, fun x hx => ?_⟩
  rcases (put_mem w.wf).mp hx with y | y
  · exact w.al x y
  · rw [y]
    exact h.a8
end Fw

set_option maxHeartbeats 4000000
/-! FwD1: the defs of orders.py -/
namespace Fw
open PySem PySem.Spec PySem.W PyProof.Rows L2
/-! ### cuts -/
theorem cut_to {xs : List V} {i : Int} {k : Nat} (h : i = (k : Int)) : cutV xs none (some i) = xs.take k := by
  subst h
  unfold cutV
  rw [HT.sIx_nat, HT.sIx_none, List.drop_zero, Nat.sub_zero]
  rw [Nat.min_comm, List.take_eq_take_iff]
  omega
theorem cut_from {xs : List V} {i : Int} {k : Nat} (h : i = (k : Int)) : cutV xs (some i) none = xs.drop k := by
  subst h
  unfold cutV
  rw [HT.sIx_nat, HT.sIx_none]
  by_cases q : k ≤ xs.length
  · rw [Nat.min_eq_left q, List.take_of_length_le (by rw [List.length_drop]; exact Nat.le_refl _)]
  · rw [Nat.min_eq_right (by omega), List.drop_of_length_le (Nat.le_refl _), List.drop_of_length_le (by omega)]
    simp
theorem cut_mid {xs : List V} {i j : Int} {k m : Nat} (h : i = (k : Int)) (h2 : j = (m : Int)) (hm : m ≤ xs.length) : cutV xs (some i) (some j) = (xs.drop k).take (m - k) := by
  subst h h2
  unfold cutV
  rw [HT.sIx_nat, HT.sIx_nat, Nat.min_eq_left hm]
  by_cases q : k ≤ xs.length
  · rw [Nat.min_eq_left q]
  · rw [Nat.min_eq_right (by omega), List.drop_of_length_le (Nat.le_refl _), List.drop_of_length_le (by omega)]
    simp
theorem cut_but {xs : List V} : cutV xs none (some (-1)) = xs.dropLast := by
  unfold cutV
  have e : HT.sIx xs.length xs.length (some (-1)) = xs.length - 1 := by
    show (if (-1 : Int) < 0 then ((-1 : Int) + (xs.length : Int)).toNat else min (-1 : Int).toNat xs.length) = _
    rw [if_pos (by decide)]
    omega
  rw [e, HT.sIx_none, List.drop_zero, Nat.sub_zero, List.dropLast_eq_take]
theorem cnt1 {l : List Str} {x : Str} (nd : l.Nodup) (h : x ∈ l) : l.count x = 1 := by
  induction l with
  | nil => cases h
  | cons y r ih =>
    rw [List.nodup_cons] at nd
    rw [List.count_cons]
    rcases List.mem_cons.mp h with e | e
    · subst e
      rw [List.count_eq_zero.mpr nd.1]
      simp
    · rw [ih nd.2 e]
      have ne : ¬ y = x := fun q => nd.1 (q ▸ e)
      have : (y == x) = false := beq_eq_false_iff_ne.mpr ne
      simp [this]
theorem tget {l : List Str} {j : Nat} {x : Str} (h : l[j]? = some x) : (l.map V.str)[j]? = some (V.str x) := by rw [List.getElem?_map, h] <;> rfl
theorem iget {l : List Int} {j : Nat} {x : Int} (h : l[j]? = some x) : (l.map V.int)[j]? = some (V.int x) := by rw [List.getElem?_map, h] <;> rfl
theorem at_nat {xs : List V} {i : Int} {j : Nat} {v : V} (e : i = (j : Int)) (h : xs[j]? = some v) : atI xs i = some v := by
  rw [e]
  exact atI_nat h
theorem idx_no {l : List Str} {x : Str} {m : Nat} (h : m < l.idxOf x) : l[m]? ≠ some x := fun e => by
  have hm : m < l.length := (List.getElem?_eq_some_iff.mp e).1
  have e2 : l[m] = x := (List.getElem?_eq_some_iff.mp e).2
  have := List.not_of_lt_findIdx h
  simp [e2] at this
section
variable {P : Program} {w : World} {K : PySem.W.Frag} {mg : Str → Option Value} {base : Heap} {CP CW CN SD : Addr}
/-- a def that answers True -/
def Yes (H : Hp) (Q : VK) : Prop := ∀ H2, Same H H2 → Q (.bl true) H2
def spInt1 : Sp := fun vs H Q _ => ∃ n : Int, vs = [.int n] ∧ Yes H Q
abbrev N_is_whole : List Str := ["value"]
theorem sc_is_whole : FnScope N_is_whole ["value"] (defScope s_is_whole) := ⟨rfl, rfl, rfl, by decide +kernel, rfl, by decide +kernel, by decide +kernel⟩
-- slots: 0 value
theorem k_is_whole (T : Txt K mg CP CW CN SD) : Kp P w K mg base CX0 1 "is_whole" ["value"] spInt1 := by
  refine T.d_is_whole.ok sc_is_whole (fun vs H Q E h => ?_) (fun f cdv A outer s H vs Q E hr h => ?_)
  · obtain ⟨n, rfl, _⟩ := h
    rfl
  · obtain ⟨n, rfl, k⟩ := h
    refine ⟨_, (pss_one (ps_ret (pe_and (pe_isi (b := "int") rfl T.b_isinstance T.b_int (by decide +kernel) (pv 0)) (pe_one (pe_not (pe_isi (b := "bool") rfl T.b_isinstance T.b_bool (by decide +kernel) (pv 0))))))), ?_⟩
    refine ⟨_, rfl, _, _, "int", true, rfl, .base (.int n), by decide +kernel, true, rfl, iteT ?_⟩
    exact ⟨_, rfl, _, _, "int", false, rfl, .base (.int n), by decide +kernel, false, rfl, k _ (Same.refl _)⟩
abbrev N_is_integer : List Str := ["value"]
theorem sc_is_integer : FnScope N_is_integer ["value"] (defScope s_is_integer) := ⟨rfl, rfl, rfl, by decide +kernel, rfl, by decide +kernel, by decide +kernel⟩
-- slots: 0 value
theorem k_is_integer (T : Txt K mg CP CW CN SD) : Kp P w K mg base CX0 1 "is_integer" ["value"] spInt1 := by
  refine T.d_is_integer.ok sc_is_integer (fun vs H Q E h => ?_) (fun f cdv A outer s H vs Q E hr h => ?_)
  · obtain ⟨n, rfl, _⟩ := h
    rfl
  · obtain ⟨n, rfl, k⟩ := h
    refine ⟨_, (pss_one (ps_ret (pe_and (pe_isi (b := "int") rfl T.b_isinstance T.b_int (by decide +kernel) (pv 0)) (pe_one (pe_not (pe_isi (b := "bool") rfl T.b_isinstance T.b_bool (by decide +kernel) (pv 0))))))), ?_⟩
    refine ⟨_, rfl, _, _, "int", true, rfl, .base (.int n), by decide +kernel, true, rfl, iteT ?_⟩
    exact ⟨_, rfl, _, _, "int", false, rfl, .base (.int n), by decide +kernel, false, rfl, k _ (Same.refl _)⟩
def spLevel : Sp := fun vs H Q _ => ∃ n : Int, vs = [.int n] ∧ (1 ≤ n ∧ n ≤ 3) ∧ Yes H Q
abbrev N_is_level : List Str := ["value"]
theorem sc_is_level : FnScope N_is_level ["value"] (defScope s_is_level) := ⟨rfl, rfl, rfl, by decide +kernel, rfl, by decide +kernel, by decide +kernel⟩
-- slots: 0 value
theorem k_is_level (T : Txt K mg CP CW CN SD) : Kp P w K mg base CX0 2 "is_level" ["value"] spLevel := by
  refine T.d_is_level.ok sc_is_level (fun vs H Q E h => ?_) (fun f cdv A outer s H vs Q E hr h => ?_)
  · obtain ⟨n, rfl, _⟩ := h
    rfl
  · obtain ⟨n, rfl, hn, k⟩ := h
    refine ⟨_, (pss_one (ps_ret (pe_and (pe_g (k_is_whole T) (hr.mono (by decide)) pass0 (pa_cons (pv 0) pa_nil)) (pe_one (pe_chain op_le op_le pe_int (pv 0) pe_int))))), ?_⟩
    refine ⟨_, rfl, n, rfl, fun H2 s2 => ⟨true, rfl, iteT ?_⟩⟩
    have e1 : decide ((1 : Int) ≤ n) = true := decide_eq_true hn.1
    have e2 : decide (n ≤ (3 : Int)) = true := decide_eq_true hn.2
    refine ⟨_, rfl, 1, n, rfl, rfl, true, congrArg V.bl e1, ?_⟩
    refine iteT ⟨n, 3, rfl, rfl, ?_⟩
    show Q (.bl (decide (n ≤ (3 : Int)))) H2
    rw [e2]
    exact k H2 s2
def spLetter : Sp := fun vs H Q _ => ∃ x : Str, vs = [.str x] ∧ x ∈ alpha9 ∧ Yes H Q
abbrev N_is_letter : List Str := ["value", "sign"]
theorem sc_is_letter : FnScope N_is_letter ["value"] (defScope s_is_letter) := ⟨rfl, rfl, rfl, by decide +kernel, rfl, by decide +kernel, by decide +kernel⟩
-- slots: 0 value, 1 sign
theorem k_is_letter (T : Txt K mg CP CW CN SD) : Kp P w K mg base CX0 1 "is_letter" ["value"] spLetter := by
  refine T.d_is_letter.ok sc_is_letter (fun vs H Q E h => ?_) (fun f cdv A outer s H vs Q E hr h => ?_)
  · obtain ⟨n, rfl, _⟩ := h
    rfl
  · obtain ⟨x, rfl, hx, k⟩ := h
    refine ⟨_, (pss_cons (ps_if (PW.pt (pw_or (pt_not (pt_val (pe_isi (b := "str") rfl T.b_isinstance T.b_str (by decide +kernel) (pv 0)))) (pw_or (pt_not (pt_chain op_le op_le pe_int (pe_callB call_len rfl T.b_len (by decide +kernel) (pa_cons (pv 0) pa_nil)) (pe_gi T.c_LONGEST))) (pw_or1 (pt_cmpR op_notIn_sign (pe_ix ix_str (pv 0) pe_int (fun _ _ => rfl)) (pe_gs T.c_CHARACTERS) rfl))))) (pss_one (ps_ret pe_bl)) pss_nil)
      (pss_one (ps_ret (pe_callB (cr_all rfl) rfl T.b_all (by decide +kernel) (pa_cons (pe_lc (own := [("sign", 1)]) rfl sc_is_letter.nd (pi_str (pv 0)) (blkOk_by (own := [("sign", 1)]) (N := N_is_letter) (sc := defScope s_is_letter) (by decide +kernel)) (fun _ _ _ _ _ => (pg_name (i := 1) sc_is_letter.nd rfl (Or.inl rfl))) (fun _ _ _ _ _ => pts_nil) (fun _ _ _ _ _ => (pe_or (pe_cmpR op_in_sign (pv 1) (pe_gs T.c_CHARACTERS) rfl) (pe_one (pe_cmpR op_in_sign (pv 1) (pe_gs T.c_DIGITS) rfl))))) pa_nil))))), ?_⟩
    have L := letOk hx
    have hl : x.length = x.cps.toList.length := strLen x
    have p1 := L.pos
    have p2 := L.most
    cases hc : x.cps.toList with
    | nil =>
      rw [hc] at p1
      exact absurd p1 (by decide)
    | cons c cs =>
      have hcc : c ∈ ("abcdefghijklmnopqrstuvwxyz" : Str).cps.toList := L.all c (by rw [hc]; exact List.mem_cons_self)
      have hk0 : x.cps.toList[0]? = some c := by rw [hc]; rfl
      refine ⟨_, rfl, _, _, "str", true, rfl, .base (.str x), by decide +kernel, true, rfl, iteF ?_⟩
      refine ⟨_, rfl, _, x.length, rfl, ⟨small (by omega), rfl⟩, 1, _, rfl, rfl, true, congrArg V.bl (decide_eq_true (by omega)), iteT ?_⟩
      refine ⟨_, _, rfl, rfl, true, congrArg V.bl (decide_eq_true (by omega)), iteF ?_⟩
      refine ⟨_, rfl, x, 0, c, rfl, rfl, small (by omega), atI_nat hk0, c, _, rfl, rfl, false, ?_, iteF ?_⟩
      · rw [decide_eq_true hcc]
        rfl
      refine ⟨_, rfl, x, rfl, lcAll (src_str x H) (by have : x.cps.size = x.cps.toList.length := (Array.length_toList).symm; omega) (fun i v H2 Kt hi s2 hv kt => ?_) (fun D H2 s2 hD => ?_)⟩
      · obtain ⟨d, hd, rfl⟩ := hv
        have hdd : d ∈ ("abcdefghijklmnopqrstuvwxyz" : Str).cps.toList := L.all d (List.mem_of_getElem? (by rw [Array.getElem?_toList]; exact hd))
        exact ⟨rfl, _, rfl, d, _, rfl, rfl, true, congrArg V.bl (decide_eq_true hdd), iteT (kt _ (Same.refl _))⟩
      · refine ⟨D, _, rfl, SqL.of hD, ?_⟩
        rw [all_true]
        exact k _ s2
def spLetters : Sp := fun vs H Q _ => ∃ (v : V) (l : List Str), vs = [v] ∧ StrsA H v l ∧ l.Nodup ∧ (∀ x ∈ l, x ∈ alpha9) ∧ l.length ≤ 12 ∧ Yes H Q
abbrev N_are_letters : List Str := ["value", "one"]
theorem sc_are_letters : FnScope N_are_letters ["value"] (defScope s_are_letters) := ⟨rfl, rfl, rfl, by decide +kernel, rfl, by decide +kernel, by decide +kernel⟩
-- slots: 0 value, 1 one
theorem k_are_letters (T : Txt K mg CP CW CN SD) : Kp P w K mg base CX0 2 "are_letters" ["value"] spLetters := by
  refine T.d_are_letters.ok sc_are_letters (fun vs H Q E h => ?_) (fun f cdv A outer s H vs Q E hr h => ?_)
  · obtain ⟨v, l, rfl, _⟩ := h
    rfl
  · obtain ⟨v, l, rfl, ⟨a, rfl, ha⟩, nd, hl, hz, k⟩ := h
    refine ⟨_, (pss_cons (ps_if (PW.pt (pw_or (pt_not (pt_val (pe_isi (b := "tuple") rfl T.b_isinstance T.b_tuple (by decide +kernel) (pv 0)))) (pw_or (pt_cmpR op_gt (pe_callB call_len rfl T.b_len (by decide +kernel) (pa_cons (pv 0) pa_nil)) (pe_gi T.c_MOST) (nomark _)) (pw_or1 (pt_not (pt_val (pe_callB (cr_all rfl) rfl T.b_all (by decide +kernel) (pa_cons (pe_lc (own := [("one", 1)]) rfl sc_are_letters.nd (pi_tup (pv 0)) (blkOk_by (own := [("one", 1)]) (N := N_are_letters) (sc := defScope s_are_letters) (by decide +kernel)) (fun _ _ _ _ _ => (pg_name (i := 1) sc_are_letters.nd rfl (Or.inl rfl))) (fun _ _ _ _ _ => pts_nil) (fun _ _ _ _ _ => (pe_g (k_is_letter T) (hr.mono (by decide)) pass0 (pa_cons (pv 1) pa_nil)))) pa_nil)))))))) (pss_one (ps_ret pe_bl)) pss_nil)
      (pss_one (ps_ret (pe_callB (cr_all rfl) rfl T.b_all (by decide +kernel) (pa_cons (pe_lc (own := [("one", 1)]) rfl sc_are_letters.nd (pi_tup (pv 0)) (blkOk_by (own := [("one", 1)]) (N := N_are_letters) (sc := defScope s_are_letters) (by decide +kernel)) (fun _ _ _ _ _ => (pg_name (i := 1) sc_are_letters.nd rfl (Or.inl rfl))) (fun _ _ _ _ _ => pts_nil) (fun _ _ _ _ _ => (pe_cmpR op_eq (pe_bmT PySem.F.slot_tuple_count PySem.F.type_tuple_count mt_tup_count (pv 0) (pa_cons (pv 1) pa_nil)) pe_int (nomark _)))) pa_nil))))), ?_⟩
    refine ⟨_, rfl, _, _, "tuple", true, rfl, ha.ty, by decide +kernel, true, rfl, iteF ?_⟩
    refine ⟨_, rfl, _, l.length, rfl, .inr ⟨_, ha.sq, by rw [List.length_map]⟩, _, _, rfl, rfl, false, congrArg V.bl (decide_eq_false (by omega)), iteF ?_⟩
    refine ⟨_, rfl, a, rfl, ⟨_, ha.sq⟩, lcAll (src_tup (ha.sq)) (by rw [List.length_map]; omega) (fun i v H2 Kt hi s2 hv kt => ?_) (fun D H2 s2 hD => ?_)⟩
    · rw [List.getElem?_map] at hv
      obtain ⟨x, hx, rfl⟩ := Option.map_eq_some_iff.mp hv
      exact ⟨rfl, _, rfl, x, rfl, hl x (List.mem_of_getElem? hx), kt⟩
    · refine ⟨D, _, rfl, SqL.of hD, true, congrArg V.bl (all_true _), iteF ?_⟩
      have ha2 := ha.same s2
      refine ⟨_, rfl, a, rfl, ⟨_, ha2.sq⟩, lcAll (src_tup (ha2.sq)) (by rw [List.length_map]; omega) (fun i v H3 Kt hi s3 hv kt => ?_) (fun D2 H3 s3 hD2 => ?_)⟩
      · rw [List.getElem?_map] at hv
        obtain ⟨x, hx, rfl⟩ := Option.map_eq_some_iff.mp hv
        have e1 : l.count x = 1 := cnt1 nd (List.mem_of_getElem? hx)
        refine ⟨rfl, _, rfl, ⟨_, _, rfl, ha2.same s3⟩, _, rfl, a, l, x, rfl, rfl, ha2.same s3, rfl, ?_⟩
        rw [e1]
        exact kt _ (Same.refl _)
      · refine ⟨D2, _, rfl, SqL.of hD2, ?_⟩
        rw [all_true]
        exact k _ (s2.trans s3)
def spOrd1 : Sp := fun vs H Q _ => ∃ (v : V) (o : Ord Str), vs = [v] ∧ OrdA H v o ∧ WO o ∧ Yes H Q
abbrev N_is_order : List Str := ["value", "letters", "strengths", "one"]
theorem sc_is_order : FnScope N_is_order ["value"] (defScope s_is_order) := ⟨rfl, rfl, rfl, by decide +kernel, rfl, by decide +kernel, by decide +kernel⟩
-- slots: 0 value, 1 letters, 2 strengths, 3 one
theorem k_is_order (T : Txt K mg CP CW CN SD) : Kp P w K mg base CX0 3 "is_order" ["value"] spOrd1 := by
  refine T.d_is_order.ok sc_is_order (fun vs H Q E h => ?_) (fun f cdv A outer s H vs Q E hr h => ?_)
  · obtain ⟨v, o, rfl, _⟩ := h
    rfl
  · obtain ⟨v, o, rfl, ⟨a, b, c, rfl, ha, hb, hc⟩, wo, k⟩ := h
    have le := wo.le
    have hlen := wo.wf.len
    refine ⟨_, (pss_cons (ps_if (PW.pt (pw_or (pt_not (pt_val (pe_isi (b := "tuple") rfl T.b_isinstance T.b_tuple (by decide +kernel) (pv 0)))) (pw_or (pt_cmpR op_ne (pe_callB call_len rfl T.b_len (by decide +kernel) (pa_cons (pv 0) pa_nil)) pe_int (nomark _)) (pw_or1 (pt_not (pt_val (pe_g (k_are_letters T) (hr.mono (by decide)) pass0 (pa_cons (pe_ix ix_tup (pv 0) pe_int (fun _ _ => rfl)) pa_nil)))))))) (pss_one (ps_ret pe_bl)) pss_nil)
      (pss_cons (ps_asg (pv 0) (pg_tup rfl (pgs_cons (pg_name (i := 1) sc_is_order.nd rfl (Or.inl rfl)) (pgs_cons (pg_name (i := 2) sc_is_order.nd rfl (Or.inl rfl)) pgs_nil))))
      (pss_cons (ps_if (PW.pt (pw_or (pt_not (pt_val (pe_isi (b := "tuple") rfl T.b_isinstance T.b_tuple (by decide +kernel) (pv 2)))) (pw_or1 (pt_cmpR op_ne (pe_callB call_len rfl T.b_len (by decide +kernel) (pa_cons (pv 2) pa_nil)) (pe_callB (call_max2 rfl) rfl T.b_max (by decide +kernel) (pa_cons pe_int (pa_cons (pe_op op_sub (pe_callB call_len rfl T.b_len (by decide +kernel) (pa_cons (pv 1) pa_nil)) pe_int) pa_nil))) (nomark _))))) (pss_one (ps_ret pe_bl)) pss_nil)
      (pss_one (ps_ret (pe_callB (cr_all rfl) rfl T.b_all (by decide +kernel) (pa_cons (pe_lc (own := [("one", 3)]) rfl sc_is_order.nd (pi_tup (pv 2)) (blkOk_by (own := [("one", 3)]) (N := N_is_order) (sc := defScope s_is_order) (by decide +kernel)) (fun _ _ _ _ _ => (pg_name (i := 3) sc_is_order.nd rfl (Or.inl rfl))) (fun _ _ _ _ _ => pts_nil) (fun _ _ _ _ _ => (pe_g (k_is_level T) (hr.mono (by decide)) pass0 (pa_cons (pv 3) pa_nil)))) pa_nil))))))), ?_⟩
    refine ⟨_, rfl, _, _, "tuple", true, rfl, ha.ty, by decide +kernel, true, rfl, iteF ?_⟩
    refine ⟨_, rfl, _, 2, rfl, .inr ⟨_, ha.sq, rfl⟩, rfl, false, congrArg V.bl (by decide), iteF ?_⟩
    refine ⟨_, rfl, a, _, 0, _, rfl, rfl, ha.sq, atI_nat (j := 0) rfl, _, o.ls, rfl, ⟨b, rfl, hb⟩, wo.wf.nd, fun x hx => alpha_sub (wo.al x hx), by omega, fun H2 s2 => ⟨true, rfl, iteF ?_⟩⟩
    refine ⟨_, rfl, a, _, rfl, (ha.same s2).sq, rfl, _, _, rfl, _, _, rfl, rfl, ?_⟩
    refine ⟨_, rfl, _, _, "tuple", true, rfl, (hc.same s2).ty, by decide +kernel, true, rfl, iteF ?_⟩
    refine ⟨_, rfl, _, o.ss.length, rfl, .inr ⟨_, (hc.same s2).sq, by rw [List.length_map]⟩, _, rfl, _, o.ls.length, rfl, .inr ⟨_, (hb.same s2).sq, by rw [List.length_map]⟩, _, _, rfl, rfl, _, _, rfl, rfl, false, ?_, iteF ?_⟩
    · have e1 : (if (o.ls.length : Int) - 1 > 0 then (o.ls.length : Int) - 1 else 0) = (o.ss.length : Int) := by
        split <;> omega
      show V.bl (!decide (V.int (o.ss.length : Int) = V.int (if (o.ls.length : Int) - 1 > 0 then (o.ls.length : Int) - 1 else 0))) = V.bl false
      rw [e1, decide_eq_true rfl]
      rfl
    · have hc2 := hc.same s2
      refine ⟨_, rfl, c, rfl, ⟨_, hc2.sq⟩, lcAll (src_tup hc2.sq) (by rw [List.length_map]; omega) (fun i v H3 Kt hi s3 hv kt => ?_) (fun D H3 s3 hD => ?_)⟩
      · rw [List.getElem?_map] at hv
        obtain ⟨x, hx, rfl⟩ := Option.map_eq_some_iff.mp hv
        exact ⟨rfl, _, rfl, x, rfl, wo.wf.lv x (List.mem_of_getElem? hx), kt⟩
      · refine ⟨D, _, rfl, SqL.of hD, ?_⟩
        rw [all_true]
        exact k _ (s2.trans s3)
/-! ### removed -/
def RetO (H : Hp) (Q : VK) (o : Ord Str) : Prop := ∀ v H2, Same H H2 → OrdA H2 v o → Q v H2
def spRem : Sp := fun vs H Q _ => ∃ (v : V) (o : Ord Str) (x : Str), vs = [v, .str x] ∧ OrdA H v o ∧ WO o ∧ x ∈ o.ls ∧ 2 ≤ o.ls.length ∧ RetO H Q (rem o x)
abbrev N_removed : List Str := ["order", "letter", "at", "left", "letters", "strengths"]
theorem sc_removed : FnScope N_removed ["order", "letter"] (defScope s_removed) := ⟨rfl, rfl, rfl, by decide +kernel, rfl, by decide +kernel, by decide +kernel⟩
-- slots: 0 order, 1 letter, 2 at, 3 left, 4 letters, 5 strengths
theorem k_removed (T : Txt K mg CP CW CN SD) : Kp P w K mg base CX0 1 "removed" ["order", "letter"] spRem := by
  refine T.d_removed.ok sc_removed (fun vs H Q E h => ?_) (fun f cdv A outer s H vs Q E hr h => ?_)
  · obtain ⟨v, o, x, rfl, _⟩ := h
    rfl
  · obtain ⟨v, o, x, rfl, ⟨a, b, c, rfl, ha, hb, hc⟩, wo, hx, h2, k⟩ := h
    have le := wo.le
    have hlen := wo.wf.len
    have hi := idx_lt hx
    refine ⟨_, (pss_cons (ps_asg (pv 0) (pg_tup rfl (pgs_cons (pg_name (i := 4) sc_removed.nd rfl (Or.inl rfl)) (pgs_cons (pg_name (i := 5) sc_removed.nd rfl (Or.inl rfl)) pgs_nil))))
      (pss_cons (ps_set (i := 2) sc_removed.nd rfl (Or.inl rfl) (pe_bmT PySem.F.slot_tuple_index PySem.F.type_tuple_index mt_tup_index (pv 4) (pa_cons (pv 1) pa_nil)))
      (pss_cons (ps_set (i := 3) sc_removed.nd rfl (Or.inl rfl) (pe_op op_catS (pe_slice sl_tupS (pv 4) po_none (po_some (pv 2))) (pe_slice sl_tupS (pv 4) (po_some (pe_op op_add (pv 2) pe_int)) po_none)))
      (pss_cons (ps_if (pt_cmpR op_eq (pv 2) pe_int (nomark _)) (pss_one (ps_ret (pe_tupS (pa_cons (pv 3) (pa_cons (pe_slice sl_tupS (pv 5) (po_some pe_int) po_none) pa_nil))))) pss_nil)
      (pss_cons (ps_if (pt_cmpR op_eq (pv 2) (pe_op op_sub (pe_callB call_len rfl T.b_len (by decide +kernel) (pa_cons (pv 4) pa_nil)) pe_int) (nomark _)) (pss_one (ps_ret (pe_tupS (pa_cons (pv 3) (pa_cons (pe_slice sl_tupS (pv 5) po_none (po_some (pe_un un_neg pe_int))) pa_nil))))) pss_nil)
      (pss_one (ps_ret (pe_tupS (pa_cons (pv 3) (pa_cons (pe_op op_catS (pe_op op_catS (pe_slice sl_tupS (pv 5) po_none (po_some (pe_op op_sub (pv 2) pe_int))) (pe_tupS (pa_cons (pe_callB (call_min2 rfl) rfl T.b_min (by decide +kernel) (pa_cons (pe_ix ix_tup (pv 5) (pe_op op_sub (pv 2) pe_int) (fun _ _ => rfl)) (pa_cons (pe_ix ix_tup (pv 5) (pv 2) (fun _ _ => rfl)) pa_nil))) pa_nil))) (pe_slice sl_tupS (pv 5) (po_some (pe_op op_add (pv 2) pe_int)) po_none)) pa_nil)))))))))), ?_⟩
    refine ⟨_, rfl, a, _, rfl, ha.sq, rfl, _, _, rfl, _, _, rfl, rfl, ?_⟩
    refine ⟨_, rfl, ⟨b, _, rfl, hb⟩, _, rfl, b, o.ls, x, o.ls.idxOf x, rfl, rfl, hb.sq, idx_get hx, fun m hm => idx_no hm, ?_⟩
    refine ⟨_, rfl, _, rfl, _, rfl, b, _, rfl, hb, fun p H3 s3 hp => ?_⟩
    have hb3 := hb.same s3
    refine ⟨_, rfl, _, rfl, _, _, rfl, rfl, _, rfl, b, _, rfl, hb3, fun q H4 s4 hq => ?_⟩
    rw [cut_to (k := o.ls.idxOf x) rfl] at hp
    rw [cut_from (k := o.ls.idxOf x + 1) (by omega)] at hq
    refine ⟨p, q, _, _, rfl, rfl, hp.same s4, hq, by simp only [List.length_take, List.length_drop, List.length_map]; omega, fun r H5 s5 hr5 => ?_⟩
    have s35 := (s3.trans s4).trans s5
    have hc5 := hc.same s35
    have el : (o.ls.map V.str).take (o.ls.idxOf x) ++ (o.ls.map V.str).drop (o.ls.idxOf x + 1) = ((rem o x).ls).map V.str := by
      rw [rem_ls, List.map_append, List.map_take, List.map_drop]
    rw [el] at hr5
    refine ⟨_, rfl, rfl, _, rfl, ?_⟩
    refine ite2 (fun e => ?_) (fun e => ?_)
    · have e0 : o.ls.idxOf x = 0 := by
        have e1 := V.int.inj (of_decide_eq_true e)
        omega
      have es : (rem o x).ss = o.ss.drop 1 := by unfold rem; rw [if_pos e0]
      refine ⟨_, rfl, _, rfl, _, rfl, c, _, rfl, hc5, fun q6 H6 s6 h6 => ⟨(by show 2 ≤ 1000; decide), fun p7 H7 s7 h7 => ?_⟩⟩
      rw [cut_from (i := 1) (k := 1) rfl, ← List.map_drop, ← es] at h6
      exact k _ H7 ((s35.trans s6).trans s7) ⟨p7, r, q6, rfl, h7, (hr5.same s6).same s7, h6.same s7⟩
    · have e0 : o.ls.idxOf x ≠ 0 := fun z => e (decide_eq_true (by rw [z]; rfl))
      have hb5 := hb.same s35
      refine ⟨_, rfl, _, rfl, _, o.ls.length, rfl, .inr ⟨_, hb5.sq, by rw [List.length_map]⟩, _, _, rfl, rfl, rfl, _, rfl, ?_⟩
      refine ite2 (fun e => ?_) (fun e => ?_)
      · have e2 : o.ls.idxOf x + 1 = o.ls.length := by
          have e1 := V.int.inj (of_decide_eq_true e)
          omega
        have es : (rem o x).ss = o.ss.dropLast := by unfold rem; rw [if_neg e0, if_pos e2]
        refine ⟨_, rfl, _, rfl, 1, rfl, -1, rfl, c, _, rfl, hc5, fun q6 H6 s6 h6 => ⟨(by show 2 ≤ 1000; decide), fun p7 H7 s7 h7 => ?_⟩⟩
        have e3 : cutV (o.ss.map V.int) none (some (-1)) = ((rem o x).ss).map V.int := by rw [cut_but, es, List.map_dropLast]
        have h6' : Tp H6 q6 (cutV (o.ss.map V.int) none (some (-1))) := h6
        rw [e3] at h6'
        exact k _ H7 ((s35.trans s6).trans s7) ⟨p7, r, q6, rfl, h7, (hr5.same s6).same s7, h6'.same s7⟩
      · have e2 : ¬ o.ls.idxOf x + 1 = o.ls.length := fun z => e (decide_eq_true (congrArg V.int (by omega)))
        have es : (rem o x).ss = o.ss.take (o.ls.idxOf x - 1) ++ [mn (o.ss.getD (o.ls.idxOf x - 1) 0) (o.ss.getD (o.ls.idxOf x) 0)] ++ o.ss.drop (o.ls.idxOf x + 1) := by
          unfold rem
          rw [if_neg e0, if_neg e2]
        have g1 : o.ss[o.ls.idxOf x - 1]? = some (o.ss.getD (o.ls.idxOf x - 1) 0) := by
          rw [List.getD_eq_getElem?_getD, List.getElem?_eq_getElem (by omega)]
          rfl
        have g2 : o.ss[o.ls.idxOf x]? = some (o.ss.getD (o.ls.idxOf x) 0) := by
          rw [List.getD_eq_getElem?_getD, List.getElem?_eq_getElem (by omega)]
          rfl
        refine ⟨_, rfl, _, rfl, _, rfl, _, _, rfl, rfl, _, rfl, c, _, rfl, hc5, fun q6 H6 s6 h6 => ?_⟩
        have hc6 := hc5.same s6
        refine ⟨_, rfl, _, rfl, _, _, rfl, rfl, c, _, _, _, rfl, rfl, hc6.sq, at_nat (j := o.ls.idxOf x - 1) (by omega) (iget g1), _, rfl, _, rfl, c, _, _, _, rfl, rfl, hc6.sq, at_nat rfl (iget g2), _, _, rfl, ?_⟩
        refine ⟨(by show 1 ≤ 1000; decide), fun p7 H7 s7 h7 => ?_⟩
        refine ⟨q6, p7, _, _, rfl, rfl, h6.same s7, h7, ?_, fun p8 H8 s8 h8 => ?_⟩
        · have := cutV_length (o.ss.map V.int) none (some ((o.ls.idxOf x : Int) - 1))
          rw [List.length_map] at this
          show (cutV (o.ss.map V.int) none (some ((o.ls.idxOf x : Int) - 1))).length + 1 ≤ 1000
          omega
        have s58 := (s6.trans s7).trans s8
        have hc8 := hc5.same s58
        refine ⟨_, rfl, _, rfl, _, _, rfl, rfl, _, rfl, c, _, rfl, hc8, fun q9 H9 s9 h9 => ?_⟩
        refine ⟨p8, q9, _, _, rfl, rfl, h8.same s9, h9, ?_, fun p10 H10 s10 h10 => ⟨(by show 2 ≤ 1000; decide), fun p11 H11 s11 h11 => ?_⟩⟩
        · have := cutV_length (o.ss.map V.int) none (some ((o.ls.idxOf x : Int) - 1))
          have := cutV_length (o.ss.map V.int) (some ((o.ls.idxOf x : Int) + 1)) none
          rw [List.length_append]
          rw [List.length_map] at *
          show (cutV (o.ss.map V.int) none (some ((o.ls.idxOf x : Int) - 1))).length + 1 + (cutV (o.ss.map V.int) (some ((o.ls.idxOf x : Int) + 1)) none).length ≤ 1000
          omega
        have ee : cutV (o.ss.map V.int) none (some ((o.ls.idxOf x : Int) - 1)) ++ [V.int (mn (o.ss.getD (o.ls.idxOf x - 1) 0) (o.ss.getD (o.ls.idxOf x) 0))] ++ cutV (o.ss.map V.int) (some ((o.ls.idxOf x : Int) + 1)) none = ((rem o x).ss).map V.int := by
          rw [cut_to (k := o.ls.idxOf x - 1) (by omega), cut_from (k := o.ls.idxOf x + 1) (by omega), es, List.map_append, List.map_append, List.map_take, List.map_drop]
          rfl
        have h10' : Tp H10 p10 (cutV (o.ss.map V.int) none (some ((o.ls.idxOf x : Int) - 1)) ++ [V.int (mn (o.ss.getD (o.ls.idxOf x - 1) 0) (o.ss.getD (o.ls.idxOf x) 0))] ++ cutV (o.ss.map V.int) (some ((o.ls.idxOf x : Int) + 1)) none) := h10
        rw [ee] at h10'
        exact k _ H11 (((s35.trans s58).trans (s9.trans s10)).trans s11) ⟨p11, r, p10, rfl, h11, (((hr5.same s58).same s9).same s10).same s11, h10'.same s11⟩
end
end Fw

set_option maxHeartbeats 4000000
/-! FwD2: the defs of rules.py -/
namespace Fw
open PySem PySem.Spec PySem.W PyProof.Rows L2
section
variable {P : Program} {w : World} {K : PySem.W.Frag} {mg : Str → Option Value} {base : Heap} {CP CW CN SD : Addr}
def spTurn : Sp := fun vs H Q _ => ∃ (v : V) (o : Ord Str), vs = [v] ∧ OrdA H v o ∧ RetO H Q (rev o)
abbrev N_turned_around : List Str := ["order"]
theorem sc_turned_around : FnScope N_turned_around ["order"] (defScope s_turned_around) := ⟨rfl, rfl, rfl, by decide +kernel, rfl, by decide +kernel, by decide +kernel⟩
-- slots: 0 order
theorem k_turned_around (T : Txt K mg CP CW CN SD) : Kp P w K mg base CX0 1 "turned_around" ["order"] spTurn := by
  refine T.d_turned_around.ok sc_turned_around (fun vs H Q E h => ?_) (fun f cdv A outer s H vs Q E hr h => ?_)
  · obtain ⟨v, o, rfl, _⟩ := h
    rfl
  · obtain ⟨v, o, rfl, ⟨a, b, c, rfl, ha, hb, hc⟩, k⟩ := h
    refine ⟨_, (pss_one (ps_ret (pe_tupS (pa_cons (pe_revT (pe_ix ix_tup (pv 0) pe_int (fun _ _ => rfl))) (pa_cons (pe_revT (pe_ix ix_tup (pv 0) pe_int (fun _ _ => rfl))) pa_nil))))), ?_⟩
    refine ⟨_, rfl, a, _, 0, _, rfl, rfl, ha.sq, atI_nat (j := 0) rfl, b, _, rfl, hb, fun p H2 s2 hp => ?_⟩
    refine ⟨_, rfl, a, _, 1, _, rfl, rfl, (ha.same s2).sq, atI_nat (j := 1) rfl, c, _, rfl, hc.same s2, fun q H3 s3 hq => ⟨(by show 2 ≤ 1000; decide), fun r H4 s4 hr4 => ?_⟩⟩
    rw [← List.map_reverse] at hp hq
    exact k _ H4 ((s2.trans s3).trans s4) ⟨r, p, q, rfl, hr4, (hp.same s3).same s4, hq.same s4⟩
/-! ### put_after -/
def spPutA : Sp := fun vs H Q _ => ∃ (v : V) (o : Ord Str) (a x : Str) (n : Int), vs = [v, .str a, .int n, .str x] ∧ OrdA H v o ∧ WF o ∧ o.ls.length ≤ 8 ∧ a ∈ o.ls ∧ RetO H Q (putA o a n x)
theorem up_step {ss : List Int} {k : Int} {p : Nat} {s : Int} (h : ss[p]? = some s) (hk : k < s) : up ss k p = up ss k (p + 1) := by
  unfold up
  obtain ⟨hp, e⟩ := List.getElem?_eq_some_iff.mp h
  rw [List.drop_eq_getElem_cons hp, e, List.takeWhile_cons]
  rw [if_pos (decide_eq_true hk), List.length_cons]
  omega
theorem up_stop {ss : List Int} {k : Int} {p : Nat} {s : Int} (h : ss[p]? = some s) (hk : ¬ k < s) : up ss k p = p := by
  unfold up
  obtain ⟨hp, e⟩ := List.getElem?_eq_some_iff.mp h
  rw [List.drop_eq_getElem_cons hp, e, List.takeWhile_cons]
  rw [if_neg (by rw [decide_eq_false hk]; exact Bool.false_ne_true)]
  rfl
theorem up_end {ss : List Int} {k : Int} {p : Nat} (h : ss.length ≤ p) : up ss k p = p := by
  unfold up
  rw [List.drop_of_length_le h]
  rfl
abbrev N_put_after : List Str := ["order", "anchor", "strength", "letter", "at", "row", "letters", "strengths"]
theorem sc_put_after : FnScope N_put_after ["order", "anchor", "strength", "letter"] (defScope s_put_after) := ⟨rfl, rfl, rfl, by decide +kernel, rfl, by decide +kernel, by decide +kernel⟩
-- slots: 0 order, 1 anchor, 2 strength, 3 letter, 4 at, 5 row, 6 letters, 7 strengths
theorem k_put_after (T : Txt K mg CP CW CN SD) : Kp P w K mg base CX0 1 "put_after" ["order", "anchor", "strength", "letter"] spPutA := by
  refine T.d_put_after.ok sc_put_after (fun vs H Q E h => ?_) (fun f cdv A outer s H vs Q E hr h => ?_)
  · obtain ⟨v, o, x, y, n, rfl, _⟩ := h
    rfl
  · obtain ⟨v, o, a, x, n, rfl, ⟨d, b, c, rfl, hd, hb, hc⟩, wo, le, ha, k⟩ := h
    have hlen := wo.len
    have hi := idx_lt ha
    refine ⟨_, (pss_cons (ps_asg (pv 0) (pg_tup rfl (pgs_cons (pg_name (i := 6) sc_put_after.nd rfl (Or.inl rfl)) (pgs_cons (pg_name (i := 7) sc_put_after.nd rfl (Or.inl rfl)) pgs_nil))))
      (pss_cons (ps_set (i := 4) sc_put_after.nd rfl (Or.inl rfl) (pe_bmT PySem.F.slot_tuple_index PySem.F.type_tuple_index mt_tup_index (pv 6) (pa_cons (pv 1) pa_nil)))
      (Evl.pss_cut (ps_while PassesOwn.never (PW.pt (pw_and (pt_cmpR op_lt (pv 4) (pe_callB call_len rfl T.b_len (by decide +kernel) (pa_cons (pv 7) pa_nil)) (nomark _)) (pw_and1 (pt_cmpR op_gt (pe_ix ix_tup (pv 7) (pv 4) (fun _ _ => rfl)) (pv 2) (nomark _))))) (pss_one (ps_set (i := 4) sc_put_after.nd rfl (Or.inl rfl) (pe_op op_add (pv 4) pe_int))))
      (pss_cons (ps_set (i := 5) sc_put_after.nd rfl (Or.inl rfl) (pe_op op_catS (pe_op op_catS (pe_slice sl_tupS (pv 6) po_none (po_some (pe_op op_add (pv 4) pe_int))) (pe_tupS (pa_cons (pv 3) pa_nil))) (pe_slice sl_tupS (pv 6) (po_some (pe_op op_add (pv 4) pe_int)) po_none)))
      (pss_one (ps_ret (pe_tupS (pa_cons (pv 5) (pa_cons (pe_op op_catS (pe_op op_catS (pe_slice sl_tupS (pv 7) po_none (po_some (pv 4))) (pe_tupS (pa_cons (pv 2) pa_nil))) (pe_slice sl_tupS (pv 7) (po_some (pv 4)) po_none)) pa_nil))))))))), ?_⟩
    refine ⟨_, rfl, d, _, rfl, hd.sq, rfl, _, _, rfl, _, _, rfl, rfl, ?_⟩
    refine ⟨_, rfl, ⟨b, _, rfl, hb⟩, _, rfl, b, o.ls, a, o.ls.idxOf a, rfl, rfl, hb.sq, idx_get ha, fun m hm => idx_no hm, ?_⟩
    -- while at < len(strengths) and strengths[at] > strength
    refine ⟨fun σ H2 => H2 = H ∧ σ = [some (.ref d), some (.str a), some (.int n), some (.str x), some (.int (up o.ss n (o.ls.idxOf a) : Nat)), none, some (.ref b), some (.ref c)], ?_, ?_⟩
    · refine ⟨fun m σ H2 => ∃ (p : Nat), m = o.ss.length - p ∧ p ≤ o.ss.length ∧ H2 = H ∧ up o.ss n p = up o.ss n (o.ls.idxOf a) ∧ σ = [some (.ref d), some (.str a), some (.int n), some (.str x), some (.int (p : Nat)), none, some (.ref b), some (.ref c)], ⟨_, o.ls.idxOf a, rfl, by omega, rfl, rfl, rfl⟩, ?_⟩
      rintro m σ H2 ⟨p, rfl, hp, rfl, hu, rfl⟩
      refine ⟨_, rfl, _, rfl, _, o.ss.length, rfl, .inr ⟨_, hc.sq, by rw [List.length_map]⟩, _, _, rfl, rfl, _, rfl, ?_⟩
      refine ite2 (fun e => ?_) (fun e => ?_)
      · have hlt : p < o.ss.length := by
          have := of_decide_eq_true e
          omega
        have g : o.ss[p]? = some o.ss[p] := List.getElem?_eq_getElem hlt
        refine ⟨_, rfl, _, rfl, c, _, _, _, rfl, rfl, hc.sq, atI_nat (iget g), _, rfl, _, _, rfl, rfl, _, rfl, ?_⟩
        refine ite2 (fun e2 => ?_) (fun e2 => ?_)
        · have e3 : n < o.ss[p] := of_decide_eq_true e2
          refine ⟨_, fun σ2 H3 q => q, _, rfl, _, _, rfl, rfl, o.ss.length - (p + 1), by omega, p + 1, rfl, hlt, rfl, ?_, rfl⟩
          rw [← hu, up_step g e3]
        · have e3 : ¬ n < o.ss[p] := fun z => e2 (decide_eq_true z)
          refine ⟨rfl, ?_⟩
          rw [← hu, up_stop g e3]
      · have hle : o.ss.length ≤ p := by
          have e3 : ¬ (p : Int) < (o.ss.length : Int) := fun z => e (decide_eq_true z)
          omega
        refine iteF ⟨rfl, ?_⟩
        rw [← hu, up_end hle]
    · rintro σ H2 ⟨rfl, rfl⟩
      -- row = letters[:at + 1] + (letter,) + letters[at + 1:]
      refine ⟨_, rfl, _, rfl, _, _, rfl, rfl, _, rfl, b, _, rfl, hb, fun p3 H3 s3 h3 => ⟨_, rfl, (by show 1 ≤ 1000; decide), fun p4 H4 s4 h4 => ?_⟩⟩
      rw [cut_to (k := up o.ss n (o.ls.idxOf a) + 1) (by omega)] at h3
      refine ⟨p3, p4, _, _, rfl, rfl, h3.same s4, h4, by simp only [List.length_take, List.length_map, List.length_cons, List.length_nil]; omega, fun p5 H5 s5 h5 => ?_⟩
      have s35 := (s3.trans s4).trans s5
      refine ⟨_, rfl, _, rfl, _, _, rfl, rfl, _, rfl, b, _, rfl, hb.same s35, fun p6 H6 s6 h6 => ?_⟩
      rw [cut_from (k := up o.ss n (o.ls.idxOf a) + 1) (by omega)] at h6
      refine ⟨p5, p6, _, _, rfl, rfl, h5.same s6, h6, by simp only [List.length_append, List.length_take, List.length_drop, List.length_map, List.length_cons, List.length_nil]; omega, fun p7 H7 s7 h7 => ?_⟩
      have s37 := (s35.trans s6).trans s7
      have e7 : (o.ls.map V.str).take (up o.ss n (o.ls.idxOf a) + 1) ++ [V.str x] ++ (o.ls.map V.str).drop (up o.ss n (o.ls.idxOf a) + 1) = ((putA o a n x).ls).map V.str := by
        unfold putA
        simp
      rw [e7] at h7
      -- return (row, strengths[:at] + (strength,) + strengths[at:])
      have hc7 := hc.same s37
      refine ⟨_, rfl, _, rfl, _, rfl, _, rfl, c, _, rfl, hc7, fun p8 H8 s8 h8 => ⟨_, rfl, (by show 1 ≤ 1000; decide), fun p9 H9 s9 h9 => ?_⟩⟩
      rw [cut_to (k := up o.ss n (o.ls.idxOf a)) rfl] at h8
      refine ⟨p8, p9, _, _, rfl, rfl, h8.same s9, h9, by simp only [List.length_take, List.length_map, List.length_cons, List.length_nil]; omega, fun p10 H10 s10 h10 => ?_⟩
      have s710 := (s8.trans s9).trans s10
      refine ⟨_, rfl, _, rfl, _, rfl, c, _, rfl, hc7.same s710, fun p11 H11 s11 h11 => ?_⟩
      rw [cut_from (k := up o.ss n (o.ls.idxOf a)) rfl] at h11
      refine ⟨p10, p11, _, _, rfl, rfl, h10.same s11, h11, by simp only [List.length_append, List.length_take, List.length_drop, List.length_map, List.length_cons, List.length_nil]; omega, fun p12 H12 s12 h12 => ⟨(by show 2 ≤ 1000; decide), fun p13 H13 s13 h13 => ?_⟩⟩
      have e12 : (o.ss.map V.int).take (up o.ss n (o.ls.idxOf a)) ++ [V.int n] ++ (o.ss.map V.int).drop (up o.ss n (o.ls.idxOf a)) = ((putA o a n x).ss).map V.int := by
        unfold putA
        simp
      rw [e12] at h12
      have s713 := ((s710.trans s11).trans s12).trans s13
      exact k _ H13 (s37.trans s713) ⟨p13, p7, p12, rfl, h13, h7.same s713, h12.same s13⟩
/-! ### put -/
def spPut : Sp := fun vs H Q _ => ∃ (v u : V) (o : Ord Str) (r : Rul Str), vs = [v, u] ∧ OrdA H v o ∧ RulA H u r ∧ WO o ∧ RO r ∧ r.anc ∈ o.ls ∧ RetO H Q (put o r)
abbrev N_put : List Str := ["order", "rule", "side", "anchor", "strength", "letter"]
theorem sc_put : FnScope N_put ["order", "rule"] (defScope s_put) := ⟨rfl, rfl, rfl, by decide +kernel, rfl, by decide +kernel, by decide +kernel⟩
-- slots: 0 order, 1 rule, 2 side, 3 anchor, 4 strength, 5 letter
theorem k_put (T : Txt K mg CP CW CN SD) : Kp P w K mg base CX0 2 "put" ["order", "rule"] spPut := by
  refine T.d_put.ok sc_put (fun vs H Q E h => ?_) (fun f cdv A outer s H vs Q E hr h => ?_)
  · obtain ⟨v, u, o, r, rfl, _⟩ := h
    rfl
  · obtain ⟨v, u, o, r, rfl, ho, ⟨d, rfl, hd⟩, wo, ro, ha, k⟩ := h
    have f : RFit o r := ⟨ro.ok.ne, ro.ok.lv, ha⟩
    obtain ⟨bw, bm, ba⟩ := base_wf wo.wf f
    have le := wo.le
    have lb : (Fw.base o r.mov).ls.length ≤ 8 := by
      unfold Fw.base
      split
      · rw [rem_ls]
        simp only [List.length_append, List.length_take, List.length_drop]
        omega
      · exact le
    refine ⟨_, (pss_cons (ps_asg (pv 1) (pg_tup rfl (pgs_cons (pg_name (i := 2) sc_put.nd rfl (Or.inl rfl)) (pgs_cons (pg_name (i := 3) sc_put.nd rfl (Or.inl rfl)) (pgs_cons (pg_name (i := 4) sc_put.nd rfl (Or.inl rfl)) (pgs_cons (pg_name (i := 5) sc_put.nd rfl (Or.inl rfl)) pgs_nil))))))
      (Evl.pss_cut (ps_if (pt_cmpR op_inS (pv 5) (pe_ix ix_tup (pv 0) pe_int (fun _ _ => rfl)) (by rfl)) (pss_one (ps_set (i := 0) sc_put.nd rfl (Or.inl rfl) (pe_g (k_removed T) (hr.mono (by decide)) pass0 (pa_cons (pv 0) (pa_cons (pv 5) pa_nil))))) pss_nil)
      (pss_cons (ps_if (pt_cmpR op_eq (pv 2) pe_str (nomark _)) (pss_one (ps_ret (pe_g (k_put_after T) (hr.mono (by decide)) pass0 (pa_cons (pv 0) (pa_cons (pv 3) (pa_cons (pv 4) (pa_cons (pv 5) pa_nil))))))) pss_nil)
      (pss_one (ps_ret (pe_g (k_turned_around T) (hr.mono (by decide)) pass0 (pa_cons (pe_g (k_put_after T) (hr.mono (by decide)) pass0 (pa_cons (pe_g (k_turned_around T) (hr.mono (by decide)) pass0 (pa_cons (pv 0) pa_nil)) (pa_cons (pv 3) (pa_cons (pv 4) (pa_cons (pv 5) pa_nil))))) pa_nil))))))), ?_⟩
    refine ⟨_, rfl, d, _, rfl, hd.sq, rfl, _, _, rfl, _, _, rfl, _, _, rfl, _, _, rfl, rfl, ?_⟩
    refine ⟨fun σ H2 => ∃ v2, Same H H2 ∧ OrdA H2 v2 (Fw.base o r.mov) ∧ σ = [some v2, some (.ref d), some (.str (sd r.aft)), some (.str r.anc), some (.int r.k), some (.str r.mov)], ?_, ?_⟩
    · obtain ⟨a, b, c, rfl, h1, h2, h3⟩ := ho
      refine ⟨_, rfl, _, rfl, a, _, 0, _, rfl, rfl, h1.sq, atI_nat (j := 0) rfl, b, _, _, rfl, rfl, h2.sq, _, rfl, ?_⟩
      refine ite2 (fun e => ?_) (fun e => ?_)
      · have hm : r.mov ∈ o.ls := of_decide_eq_true e
        refine ⟨_, rfl, _, rfl, _, o, r.mov, rfl, ⟨a, b, c, rfl, h1, h2, h3⟩, wo, hm, two_of ha hm f.ne, fun v2 H2 s2 h => ⟨v2, s2, ?_, rfl⟩⟩
        unfold Fw.base
        rw [if_pos hm]
        exact h
      · have hm : ¬ r.mov ∈ o.ls := fun z => e (decide_eq_true z)
        refine ⟨.ref a, Same.refl _, ?_, rfl⟩
        unfold Fw.base
        rw [if_neg hm]
        exact ⟨a, b, c, rfl, h1, h2, h3⟩
    · rintro σ H2 ⟨v2, s2, ho2, rfl⟩
      have es : (V.str (sd r.aft) = V.str "after") ↔ r.aft = true := by
        constructor
        · intro z
          have z2 := V.str.inj z
          cases q : r.aft with
          | true => rfl
          | false =>
            rw [q] at z2
            exact absurd z2 (by decide +kernel)
        · intro z
          rw [z]
          rfl
      refine ⟨_, rfl, rfl, _, rfl, ?_⟩
      refine ite2 (fun e => ?_) (fun e => ?_)
      · have ha2 := es.mp (of_decide_eq_true e)
        refine ⟨_, rfl, _, rfl, _, rfl, _, rfl, v2, Fw.base o r.mov, r.anc, r.mov, r.k, rfl, ho2, bw, lb, ba, fun v3 H3 s3 h3 => k v3 H3 (s2.trans s3) ?_⟩
        unfold put
        rw [if_pos ha2]
        exact h3
      · have ha2 : ¬ r.aft = true := fun z => e (decide_eq_true (es.mpr z))
        refine ⟨_, rfl, v2, Fw.base o r.mov, rfl, ho2, fun v3 H3 s3 h3 => ?_⟩
        refine ⟨_, rfl, _, rfl, _, rfl, v3, rev (Fw.base o r.mov), r.anc, r.mov, r.k, rfl, h3, rev_wf bw, by unfold rev; rw [List.length_reverse]; exact lb, rev_mem.mpr ba, fun v4 H4 s4 h4 => ?_⟩
        refine ⟨v4, _, rfl, h4, fun v5 H5 s5 h5 => k v5 H5 (((s2.trans s3).trans s4).trans s5) ?_⟩
        unfold put
        rw [if_neg ha2]
        exact h5
/-! ### is it a rule? -/
def spRule1 : Sp := fun vs H Q _ => ∃ (v : V) (r : Rul Str), vs = [v] ∧ RulA H v r ∧ RO r ∧ Yes H Q
abbrev N_is_rule : List Str := ["value"]
theorem sc_is_rule : FnScope N_is_rule ["value"] (defScope s_is_rule) := ⟨rfl, rfl, rfl, by decide +kernel, rfl, by decide +kernel, by decide +kernel⟩
-- slots: 0 value
theorem k_is_rule (T : Txt K mg CP CW CN SD) : Kp P w K mg base CX0 2 "is_rule" ["value"] spRule1 := by
  refine T.d_is_rule.ok sc_is_rule (fun vs H Q E h => ?_) (fun f cdv A outer s H vs Q E hr h => ?_)
  · obtain ⟨v, r, rfl, _⟩ := h
    rfl
  · obtain ⟨v, r, rfl, ⟨d, rfl, hd⟩, ro, k⟩ := h
    refine ⟨_, (pss_cons (ps_if (PW.pt (pw_or (pt_not (pt_val (pe_isi (b := "tuple") rfl T.b_isinstance T.b_tuple (by decide +kernel) (pv 0)))) (pw_or (pt_cmpR op_ne (pe_callB call_len rfl T.b_len (by decide +kernel) (pa_cons (pv 0) pa_nil)) pe_int (nomark _)) (pw_or (pt_not (pt_val (pe_isi (b := "str") rfl T.b_isinstance T.b_str (by decide +kernel) (pe_ix ix_tup (pv 0) pe_int (fun _ _ => rfl))))) (pw_or1 (pt_cmpR op_notInS (pe_ix ix_tup (pv 0) pe_int (fun _ _ => rfl)) (pe_glob (v := .ref SD) rfl T.g_SIDES rfl) (by rfl))))))) (pss_one (ps_ret pe_bl)) pss_nil)
      (pss_cons (ps_if (PW.pt (pw_or (pt_not (pt_val (pe_g (k_is_letter T) (hr.mono (by decide)) pass0 (pa_cons (pe_ix ix_tup (pv 0) pe_int (fun _ _ => rfl)) pa_nil)))) (pw_or (pt_not (pt_val (pe_g (k_is_letter T) (hr.mono (by decide)) pass0 (pa_cons (pe_ix ix_tup (pv 0) pe_int (fun _ _ => rfl)) pa_nil)))) (pw_or1 (pt_cmpR op_eq (pe_ix ix_tup (pv 0) pe_int (fun _ _ => rfl)) (pe_ix ix_tup (pv 0) pe_int (fun _ _ => rfl)) (nomark _)))))) (pss_one (ps_ret pe_bl)) pss_nil)
      (pss_one (ps_ret (pe_and (pe_g (k_is_integer T) (hr.mono (by decide)) pass0 (pa_cons (pe_ix ix_tup (pv 0) pe_int (fun _ _ => rfl)) pa_nil)) (pe_one (pe_chain op_le op_le pe_int (pe_ix ix_tup (pv 0) pe_int (fun _ _ => rfl)) pe_int))))))), ?_⟩
    refine ⟨_, rfl, _, _, "tuple", true, rfl, hd.ty, by decide +kernel, true, rfl, iteF ?_⟩
    refine ⟨_, rfl, _, 4, rfl, .inr ⟨_, hd.sq, rfl⟩, rfl, false, congrArg V.bl (by decide), iteF ?_⟩
    refine ⟨_, rfl, d, _, 0, _, rfl, rfl, hd.sq, atI_nat (j := 0) rfl, _, _, "str", true, rfl, .base (.str _), by decide +kernel, true, rfl, iteF ?_⟩
    refine ⟨_, rfl, d, _, 0, _, rfl, rfl, hd.sq, atI_nat (j := 0) rfl, SD, ["after", "before"], _, rfl, rfl, T.sides _, false, ?_, iteF ?_⟩
    · have e : sd r.aft ∈ (["after", "before"] : List Str) := by
        unfold sd
        cases r.aft <;> simp
      show V.bl (!decide (sd r.aft ∈ (["after", "before"] : List Str))) = V.bl false
      rw [decide_eq_true e]
      rfl
    refine ⟨_, rfl, d, _, 1, _, rfl, rfl, hd.sq, atI_nat (j := 1) rfl, r.anc, rfl, ro.a9, fun H2 s2 => ⟨true, rfl, iteF ?_⟩⟩
    have hd2 := hd.same s2
    refine ⟨_, rfl, d, _, 3, _, rfl, rfl, hd2.sq, atI_nat (j := 3) rfl, r.mov, rfl, alpha_sub ro.a8, fun H3 s3 => ⟨true, rfl, iteF ?_⟩⟩
    have hd3 := hd2.same s3
    refine ⟨_, rfl, d, _, 1, _, rfl, rfl, hd3.sq, atI_nat (j := 1) rfl, _, rfl, d, _, 3, _, rfl, rfl, hd3.sq, atI_nat (j := 3) rfl, rfl, false, congrArg V.bl (decide_eq_false fun z => ro.ok.ne (V.str.inj z)), iteF ?_⟩
    refine ⟨_, rfl, d, _, 2, _, rfl, rfl, hd3.sq, atI_nat (j := 2) rfl, r.k, rfl, fun H4 s4 => ⟨true, rfl, iteT ?_⟩⟩
    refine ⟨_, rfl, d, _, 2, _, rfl, rfl, (hd3.same s4).sq, atI_nat (j := 2) rfl, 1, r.k, rfl, rfl, true, congrArg V.bl (decide_eq_true ro.ok.lv.1), iteT ⟨r.k, 3, rfl, rfl, ?_⟩⟩
    have e2 : decide (r.k ≤ (3 : Int)) = true := decide_eq_true ro.ok.lv.2
    show Q (.bl (decide (r.k ≤ (3 : Int)))) _
    rw [e2]
    exact k _ ((s2.trans s3).trans s4)
def spRules1 : Sp := fun vs H Q _ => ∃ (v : V) (rs : List (Rul Str)), vs = [v] ∧ RulsA H v rs ∧ (∀ r ∈ rs, RO r) ∧ rs.length ≤ 20 ∧ Yes H Q
theorem Paired.get {α β : Type} {F : α → β → Prop} : ∀ {xs : List α} {ys : List β} {i : Nat} {x : α}, Paired F xs ys → xs[i]? = some x → ∃ y, ys[i]? = some y ∧ F x y
  | _, _, _, _, .nil, e => by simp at e
  | _, _, 0, _, .cons r _, e => by
    simp at e
    subst e
    exact ⟨_, rfl, r⟩
  | _, _, i + 1, x, .cons _ t, e => by
    obtain ⟨y, h1, h2⟩ := Paired.get (i := i) t (by simpa using e)
    exact ⟨y, by simpa using h1, h2⟩
abbrev N_is_rule_list : List Str := ["value", "rule"]
theorem sc_is_rule_list : FnScope N_is_rule_list ["value"] (defScope s_is_rule_list) := ⟨rfl, rfl, rfl, by decide +kernel, rfl, by decide +kernel, by decide +kernel⟩
-- slots: 0 value, 1 rule
theorem k_is_rule_list (T : Txt K mg CP CW CN SD) : Kp P w K mg base CX0 3 "is_rule_list" ["value"] spRules1 := by
  refine T.d_is_rule_list.ok sc_is_rule_list (fun vs H Q E h => ?_) (fun f cdv A outer s H vs Q E hr h => ?_)
  · obtain ⟨v, r, rfl, _⟩ := h
    rfl
  · obtain ⟨v, rs, rfl, ⟨d, xs, rfl, hd, hp⟩, ro, hl, k⟩ := h
    have hl2 := hp.length
    refine ⟨_, (pss_one (ps_ret (pe_and (pe_isi (b := "tuple") rfl T.b_isinstance T.b_tuple (by decide +kernel) (pv 0)) (pe_and (pe_cmpR op_le (pe_callB call_len rfl T.b_len (by decide +kernel) (pa_cons (pv 0) pa_nil)) (pe_gi T.c_MOST_RULES) (nomark _)) (pe_one (pe_callB (cr_all rfl) rfl T.b_all (by decide +kernel) (pa_cons (pe_lc (own := [("rule", 1)]) rfl sc_is_rule_list.nd (pi_tup (pv 0)) (blkOk_by (own := [("rule", 1)]) (N := N_is_rule_list) (sc := defScope s_is_rule_list) (by decide +kernel)) (fun _ _ _ _ _ => (pg_name (i := 1) sc_is_rule_list.nd rfl (Or.inl rfl))) (fun _ _ _ _ _ => pts_nil) (fun _ _ _ _ _ => (pe_g (k_is_rule T) (hr.mono (by decide)) pass0 (pa_cons (pv 1) pa_nil)))) pa_nil))))))), ?_⟩
    refine ⟨_, rfl, _, _, "tuple", true, rfl, hd.ty, by decide +kernel, true, rfl, iteT ?_⟩
    refine ⟨_, rfl, _, xs.length, rfl, .inr ⟨_, hd.sq, rfl⟩, _, _, rfl, rfl, true, congrArg V.bl (decide_eq_true (by omega)), iteT ?_⟩
    refine ⟨_, rfl, d, rfl, ⟨_, hd.sq⟩, lcAll (src_tup hd.sq) (by omega) (fun i v H2 Kt hi s2 hv kt => ?_) (fun D H2 s2 hD => ?_)⟩
    · obtain ⟨r, hr1, hr2⟩ := Paired.get hp hv
      exact ⟨rfl, _, rfl, v, r, rfl, hr2.tm (TM.of s2), ro r (List.mem_of_getElem? hr1), kt⟩
    · refine ⟨D, _, rfl, SqL.of hD, ?_⟩
      rw [all_true]
      exact k _ s2
/-! ### checks -/
def Non (H : Hp) (Q : VK) : Prop := ∀ H2, Same H H2 → Q .non H2
def spCheckO : Sp := fun vs H Q _ => ∃ (v : V) (x : Str) (o : Ord Str), vs = [v, .str x] ∧ OrdA H v o ∧ WO o ∧ Non H Q
abbrev N_check_order : List Str := ["order", "name"]
theorem sc_check_order : FnScope N_check_order ["order", "name"] (defScope s_check_order) := ⟨rfl, rfl, rfl, by decide +kernel, rfl, by decide +kernel, by decide +kernel⟩
-- slots: 0 order, 1 name
theorem k_check_order (T : Txt K mg CP CW CN SD) : Kp P w K mg base CX0 4 "check_order" ["order", "name"] spCheckO := by
  refine T.d_check_order.ok sc_check_order (fun vs H Q E h => ?_) (fun f cdv A outer s H vs Q E hr h => ?_)
  · obtain ⟨v, x, o, rfl, _⟩ := h
    rfl
  · obtain ⟨v, x, o, rfl, ho, wo, k⟩ := h
    refine ⟨_, (pss_one (ps_if (pt_not (pt_val (pe_g (k_is_order T) (hr.mono (by decide)) pass0 (pa_cons (pv 0) pa_nil)))) pss_never pss_nil)), ?_⟩
    exact ⟨_, rfl, v, o, rfl, ho, wo, fun H2 s2 => ⟨true, rfl, iteF (k H2 s2)⟩⟩
def spCheckR : Sp := fun vs H Q _ => ∃ (v u : V) (o : Ord Str) (r : Rul Str), vs = [v, u] ∧ OrdA H v o ∧ WO o ∧ RulA H u r ∧ RO r ∧ Non H Q
abbrev N_check_rule : List Str := ["order", "rule"]
theorem sc_check_rule : FnScope N_check_rule ["order", "rule"] (defScope s_check_rule) := ⟨rfl, rfl, rfl, by decide +kernel, rfl, by decide +kernel, by decide +kernel⟩
-- slots: 0 order, 1 rule
theorem k_check_rule (T : Txt K mg CP CW CN SD) : Kp P w K mg base CX0 5 "check_rule" ["order", "rule"] spCheckR := by
  refine T.d_check_rule.ok sc_check_rule (fun vs H Q E h => ?_) (fun f cdv A outer s H vs Q E hr h => ?_)
  · obtain ⟨v, u, o, r, rfl, _⟩ := h
    rfl
  · obtain ⟨v, u, o, r, rfl, ho, wo, hr1, ro, k⟩ := h
    refine ⟨_, (pss_cons (ps_expr (pe_g (k_check_order T) (hr.mono (by decide)) pass0 (pa_cons (pv 0) (pa_cons pe_str pa_nil))))
      (pss_one (ps_if (pt_not (pt_val (pe_g (k_is_rule T) (hr.mono (by decide)) pass0 (pa_cons (pv 1) pa_nil)))) pss_never pss_nil))), ?_⟩
    refine ⟨_, rfl, v, _, o, rfl, ho, wo, fun H2 s2 => ?_⟩
    exact ⟨_, rfl, u, r, rfl, hr1.tm (TM.of s2), ro, fun H3 s3 => ⟨true, rfl, iteF (k H3 (s2.trans s3))⟩⟩
def spWhy : Sp := fun vs H Q _ => ∃ (v u : V) (o : Ord Str) (r : Rul Str), vs = [v, u] ∧ OrdA H v o ∧ WO o ∧ RulA H u r ∧ ∀ H2, Same H H2 → Q (.str (if r.anc ∈ o.ls then "" else "anchor")) H2
abbrev N_why_not : List Str := ["order", "rule"]
theorem sc_why_not : FnScope N_why_not ["order", "rule"] (defScope s_why_not) := ⟨rfl, rfl, rfl, by decide +kernel, rfl, by decide +kernel, by decide +kernel⟩
-- slots: 0 order, 1 rule
theorem k_why_not (T : Txt K mg CP CW CN SD) : Kp P w K mg base CX0 1 "why_not" ["order", "rule"] spWhy := by
  refine T.d_why_not.ok sc_why_not (fun vs H Q E h => ?_) (fun f cdv A outer s H vs Q E hr h => ?_)
  · obtain ⟨v, u, o, r, rfl, _⟩ := h
    rfl
  · obtain ⟨v, u, o, r, rfl, ⟨a, b, c, rfl, ha, hb, hc⟩, wo, ⟨d, rfl, hd⟩, k⟩ := h
    have le := wo.le
    refine ⟨_, (pss_cons (ps_if (pt_cmpR op_notInS (pe_ix ix_tup (pv 1) pe_int (fun _ _ => rfl)) (pe_ix ix_tup (pv 0) pe_int (fun _ _ => rfl)) (by rfl)) (pss_one (ps_ret pe_str)) pss_nil)
      (pss_one (ps_ret (pe_ifExp (PW.pt (pw_and (pt_cmpR op_ge (pe_callB call_len rfl T.b_len (by decide +kernel) (pa_cons (pe_ix ix_tup (pv 0) pe_int (fun _ _ => rfl)) pa_nil)) (pe_gi T.c_MOST_LETTERS) (nomark _)) (pw_and1 (pt_cmpR op_notInS (pe_ix ix_tup (pv 1) pe_int (fun _ _ => rfl)) (pe_ix ix_tup (pv 0) pe_int (fun _ _ => rfl)) (by rfl))))) pe_str pe_str)))), ?_⟩
    refine ⟨_, rfl, d, _, 1, _, rfl, rfl, hd.sq, atI_nat (j := 1) rfl, _, rfl, a, _, 0, _, rfl, rfl, ha.sq, atI_nat (j := 0) rfl, b, _, _, rfl, rfl, hb.sq, _, rfl, ?_⟩
    have k1 := k H (Same.refl _)
    refine ite2 (fun e => ?_) (fun e => ?_)
    · have e2 : ¬ r.anc ∈ o.ls := by
        intro z
        have e3 : (!decide (r.anc ∈ o.ls)) = true := e
        rw [decide_eq_true z] at e3
        cases e3
      rw [if_neg e2] at k1
      exact k1
    · have e2 : r.anc ∈ o.ls := by
        by_cases z : r.anc ∈ o.ls
        · exact z
        · refine absurd ?_ e
          show (!decide (r.anc ∈ o.ls)) = true
          rw [decide_eq_false z]
          rfl
      rw [if_pos e2] at k1
      refine ⟨_, rfl, a, _, 0, _, rfl, rfl, ha.sq, atI_nat (j := 0) rfl, _, o.ls.length, rfl, .inr ⟨_, hb.sq, by rw [List.length_map]⟩, _, _, rfl, rfl, false, congrArg V.bl (decide_eq_false (by omega)), iteF (iteF k1)⟩
def spApplied : Sp := fun vs H Q _ => ∃ (v u : V) (o : Ord Str) (r : Rul Str), vs = [v, u] ∧ OrdA H v o ∧ RulA H u r ∧ WO o ∧ RO r ∧ r.anc ∈ o.ls ∧ RetO H Q (put o r)
abbrev N_applied : List Str := ["order", "rule", "why"]
theorem sc_applied : FnScope N_applied ["order", "rule"] (defScope s_applied) := ⟨rfl, rfl, rfl, by decide +kernel, rfl, by decide +kernel, by decide +kernel⟩
-- slots: 0 order, 1 rule, 2 why
theorem k_applied (T : Txt K mg CP CW CN SD) : Kp P w K mg base CX0 6 "applied" ["order", "rule"] spApplied := by
  refine T.d_applied.ok sc_applied (fun vs H Q E h => ?_) (fun f cdv A outer s H vs Q E hr h => ?_)
  · obtain ⟨v, u, o, r, rfl, _⟩ := h
    rfl
  · obtain ⟨v, u, o, r, rfl, ho, hr1, wo, ro, ha, k⟩ := h
    refine ⟨_, (pss_cons (ps_expr (pe_g (k_check_rule T) (hr.mono (by decide)) pass0 (pa_cons (pv 0) (pa_cons (pv 1) pa_nil))))
      (pss_cons (ps_set (i := 2) sc_applied.nd rfl (Or.inl rfl) (pe_g (k_why_not T) (hr.mono (by decide)) pass0 (pa_cons (pv 0) (pa_cons (pv 1) pa_nil))))
      (pss_cons (ps_if (pt_cmpR op_ne (pv 2) pe_str (nomark _)) pss_never pss_nil)
      (pss_one (ps_ret (pe_g (k_put T) (hr.mono (by decide)) pass0 (pa_cons (pv 0) (pa_cons (pv 1) pa_nil)))))))), ?_⟩
    refine ⟨_, rfl, _, rfl, v, u, o, r, rfl, ho, wo, hr1, ro, fun H2 s2 => ?_⟩
    refine ⟨_, rfl, _, rfl, v, u, o, r, rfl, ho.tm (TM.of s2), wo, hr1.tm (TM.of s2), fun H3 s3 => ?_⟩
    rw [if_pos ha]
    have s23 := s2.trans s3
    refine ⟨_, rfl, rfl, false, congrArg V.bl (by decide +kernel), iteF ?_⟩
    exact ⟨_, rfl, _, rfl, v, u, o, r, rfl, ho.tm (TM.of s23), hr1.tm (TM.of s23), wo, ro, ha, fun v4 H4 s4 h4 => k v4 H4 (s23.trans s4) h4⟩
end
end Fw

set_option maxHeartbeats 4000000
/-! FwD3: the exception, led -/
namespace Fw
open PySem PySem.Spec PySem.W PyProof.Rows L2
section
variable {P : Program} {w : World} {K : PySem.W.Frag} {mg : Str → Option Value} {base : Heap} {CP CW CN SD : Addr}
section
variable (P : Program) (w : World) (K : PySem.W.Frag) (mg : Str → Option Value) (base : Heap)
def KpX (k : Nat) (C : Addr) (ps : List Str) (sp : Sp) : Prop := ∃ f fd, OexC K C ∧ PySem.W.findIn K (.ref C) "__init__" = some (some (.ref f)) ∧ PySem.W.typeIn K (.ref f) = some (.type "function") ∧ Binds K fd ps [] ∧ FnOk P w K mg base CX0 k f fd ps sp
end
theorem pmk_g {X : Cx} {k : Nat} {C : Addr} {ps : List Str} {sp : Sp} {x : Str} {e : Expr} {es : List Expr} {ta : TA} {p pos : Pos} (F : KpX X.prog X.w X.K X.mg X.base k C ps sp) (hr : Room (k + 1) X.A) (hm : X.mg x = some (.ref C)) (ha : PA X (e :: es) ta) (hg : Gl X x := by rfl)
    (hdb : (x == ("__debug__" : Str)) = false := by decide) (he : starEach (e :: es) X.env = (false, eval e X.env) :: starEach es X.env := by rfl) (hpl : (backTo pos (starEach es X.env)).any (·.1) = false := by rfl) : PMk X (.Call (.Name x p) (e :: es) [] pos) (tMkO C sp [] ta) := by
  obtain ⟨f, fd, h1, h2, h3, h4, h5⟩ := F
  exact pmk_oex h1 h2 h3 h5 hr h4 .nil (fun _ _ _ _ _ _ _ h => h.elim) hg hm ha hdb he hpl
/-- the exception's dict -/
def naFs (i : Int) (y : Str) : List (Str × V) := [("why", .str y), ("index", .int i)]
def spNA (C : Addr) : Sp := fun vs H Q _ => ∃ (a : Addr) (i : Int) (y : Str), vs = [.ref a, .int i, .str y] ∧ H a = some (exo a C none) ∧
  ∀ dx, H dx = none → dx ≠ a → Q .non (upd (upd (upd H dx (exd dx [("index", .int i)])) a (exo a C (some dx))) dx (exd dx (naFs i y)))
abbrev N_NotApplicable_init : List Str := ["self", "index", "why"]
theorem sc_NotApplicable_init : FnScope N_NotApplicable_init ["self", "index", "why"] (defScope s_NotApplicable_init) := ⟨rfl, rfl, rfl, by decide +kernel, rfl, by decide +kernel, by decide +kernel⟩
-- slots: 0 self, 1 index, 2 why
theorem k_NA (T : Txt K mg CP CW CN SD) : KpX P w K mg base 1 CN ["self", "index", "why"] (spNA CN) := by
  obtain ⟨f, fd, h1, h2, h3, h4, F, b⟩ := T.d_NotApplicable_init
  refine ⟨f, fd, h1, h3, h4, b, F.ok sc_NotApplicable_init (fun vs H Q E h => ?_) (fun cdv A outer s H vs Q E hr h => ?_)⟩
  · obtain ⟨a, i, y, rfl, _⟩ := h
    rfl
  · obtain ⟨a, i, y, rfl, ha, k⟩ := h
    refine ⟨_, (pss_cons (ps_ost (pv 0) (pv 1))
      (pss_one (ps_ost (pv 0) (pv 2)))), ?_⟩
    refine ⟨_, rfl, _, rfl, a, CN, rfl, h1, T.n_NotApplicable_index, .inl ⟨ha, fun dx hdx hne => ?_⟩⟩
    refine ⟨_, rfl, _, rfl, a, CN, rfl, h1, T.n_NotApplicable_why, .inr ⟨dx, _, upd_same, by rw [upd_ne hne, upd_same], (by show 1 ≤ 900; decide), ?_⟩⟩
    exact k dx hdx hne
/-! ### led -/
def Raises1 (C : Addr) (H : Hp) (E : XK) (i : Nat) : Prop := ∀ d H2, Same H H2 → H2 d = some (.xd (naFs (i : Nat) "anchor")) → E (.ref C) (some d) H2
def spLed (C : Addr) : Sp := fun vs H Q E => ∃ (v u : V) (o : Ord Str) (rs : List (Rul Str)), vs = [v, u] ∧ OrdA H v o ∧ RulsA H u rs ∧ WO o ∧ (∀ r ∈ rs, RO r) ∧ rs.length ≤ 20 ∧ (∀ z, ledX 0 o rs = .inl z → RetO H Q z) ∧ ∀ i, ledX 0 o rs = .inr i → Raises1 C H E i
theorem ledX_step {α : Type} [DecidableEq α] {i : Nat} {o : Ord α} {r : Rul α} {rs : List (Rul α)} (h : r.anc ∈ o.ls) : ledX i o (r :: rs) = ledX (i + 1) (put o r) rs := by
  rw [ledX, if_pos h]
theorem ledX_out {α : Type} [DecidableEq α] {i : Nat} {o : Ord α} {r : Rul α} {rs : List (Rul α)} (h : ¬ r.anc ∈ o.ls) : ledX i o (r :: rs) = .inr i := by
  rw [ledX, if_neg h]
abbrev N_led : List Str := ["order", "rules", "index", "rule", "why"]
theorem sc_led : FnScope N_led ["order", "rules"] (defScope s_led) := ⟨rfl, rfl, rfl, by decide +kernel, rfl, by decide +kernel, by decide +kernel⟩
-- slots: 0 order, 1 rules, 2 index, 3 rule, 4 why
theorem k_led (T : Txt K mg CP CW CN SD) : Kp P w K mg base (L2.CX P w) 5 "led" ["order", "rules"] (spLed CN) := by
  refine T.d_led.okX sc_led (fun vs H Q E h => ?_) (fun f cdv A outer s H vs Q E hr h => ?_)
  · obtain ⟨v, u, o, rs, rfl, _⟩ := h
    rfl
  · obtain ⟨v, u, o, rs, rfl, ho, ⟨d, xs, rfl, hd, hp⟩, wo, ro, hl, k, kx⟩ := h
    refine ⟨_, (pss_cons (ps_expr (pe_g (k_check_order T) (hr.mono (by decide)) pass0 (pa_cons (pv 0) (pa_cons pe_str pa_nil))))
      (pss_cons (ps_if (pt_not (pt_val (pe_g (k_is_rule_list T) (hr.mono (by decide)) pass0 (pa_cons (pv 1) pa_nil)))) pss_never pss_nil)
      (pss_cons (ps_for (passes_of rfl) rfl (pi_enumT rfl T.b_enumerate (pa_cons (pv 1) pa_nil)) (pg_tup rfl (pgs_cons (pg_name (i := 2) sc_led.nd rfl (Or.inl rfl)) (pgs_cons (pg_name (i := 3) sc_led.nd rfl (Or.inl rfl)) pgs_nil)))
      (pss_cons (ps_set (i := 4) sc_led.nd rfl (Or.inl rfl) (pe_g (k_why_not T) (hr.mono (by decide)) pass0 (pa_cons (pv 0) (pa_cons (pv 3) pa_nil))))
      (pss_cons (ps_if (pt_cmpR op_ne (pv 4) pe_str (nomark _)) (pss_one (ps_raise rfl (takes_of rfl rfl rfl rfl) (pmk_g (k_NA T) (hr.mono (by decide)) T.g_NotApplicable (pa_cons (pv 2) (pa_cons (pv 4) pa_nil))))) pss_nil)
      (pss_one (ps_set (i := 0) sc_led.nd rfl (Or.inl rfl) (pe_g (k_put T) (hr.mono (by decide)) pass0 (pa_cons (pv 0) (pa_cons (pv 3) pa_nil))))))))
      (pss_one (ps_ret (pv 0)))))), ?_⟩
    refine ⟨_, rfl, v, _, o, rfl, ho, wo, fun H2 s2 => ?_⟩
    refine ⟨_, rfl, _, rs, rfl, ⟨d, xs, rfl, hd.same s2, Paired.mapP hp fun _ _ q => q.tm (TM.of s2)⟩, ro, hl, fun H3 s3 => ⟨true, rfl, iteF ?_⟩⟩
    have s03 := s2.trans s3
    refine ⟨_, rfl, d, xs, rfl, (hd.same s03).sq, for_enumT (xs := xs) (fun i σ H4 => ∃ v4 o4 a b c, Same H H4 ∧ OrdA H4 v4 o4 ∧ WO o4 ∧ ledX 0 o rs = ledX i o4 (rs.drop i) ∧ σ = [some v4, some (.ref d), a, b, c]) ⟨v, o, none, none, none, s03, ho.tm (TM.of s03), wo, rfl, rfl⟩ (fun i σ H4 h => ?_) ?_ ?_⟩
    · obtain ⟨_, _, _, _, _, s4, _⟩ := h
      exact (hd.same s4).sq
    · rintro i x T4 σ H4 hx ⟨v4, o4, _, _, _, s4, ho4, wo4, e4, rfl⟩ hT
      obtain ⟨r, hr1, hr2⟩ := Paired.get hp hx
      have ed : rs.drop i = r :: rs.drop (i + 1) := by
        obtain ⟨hi, e⟩ := List.getElem?_eq_some_iff.mp hr1
        rw [List.drop_eq_getElem_cons hi, e]
      have s45 : Same H4 (upd H4 T4 (.tup [.int (i : Nat), x])) := Same.new hT
      refine ⟨T4, _, rfl, SqT.of upd_same, rfl, _, _, rfl, _, _, rfl, rfl, ?_⟩
      refine ⟨_, rfl, _, rfl, v4, x, o4, r, rfl, ho4.tm (TM.of s45), wo4, hr2.tm (TM.of (s4.trans s45)), fun H5 s5 => ?_⟩
      have s05 := (s4.trans s45).trans s5
      by_cases ha : r.anc ∈ o4.ls
      · rw [if_pos ha]
        refine ⟨_, rfl, rfl, false, congrArg V.bl (by decide +kernel), iteF ?_⟩
        refine ⟨_, rfl, _, rfl, v4, x, o4, r, rfl, ho4.tm (TM.of (s45.trans s5)), hr2.tm (TM.of s05), wo4, ro r (List.mem_of_getElem? hr1), ha, fun v6 H6 s6 h6 => ?_⟩
        refine ⟨v6, put o4 r, _, _, _, s05.trans s6, h6, put_wo wo4 (ro r (List.mem_of_getElem? hr1)) ha, ?_, rfl⟩
        rw [e4, ed, ledX_step ha]
      · rw [if_neg ha]
        refine ⟨_, rfl, rfl, true, congrArg V.bl (by decide +kernel), iteT ?_⟩
        refine ⟨_, rfl, _, rfl, (by show 2 ≤ 1000; decide), fun a hna => ⟨a, (i : Nat), "anchor", rfl, upd_same, fun dx hdx hne => ⟨rfl, dx, naFs (i : Nat) "anchor", ?_, upd_same, ?_, ?_⟩⟩⟩
        · rw [upd_ne hne.symm, upd_same]
        · rw [upd_ne hne] at hdx
          exact hdx
        · have hdx5 : H5 dx = none := by
            rw [upd_ne hne] at hdx
            exact hdx
          have e5 : ledX 0 o rs = .inr i := by rw [e4, ed, ledX_out ha]
          refine kx i e5 dx _ (fun b ob hb => ?_) upd_same
          have h5 := s05 b ob hb
          rw [upd_ne (ne_of_none h5 hdx5), del_ne (ne_of_none h5 hna), upd_ne (ne_of_none h5 hdx5), upd_ne (ne_of_none h5 hna), upd_ne (ne_of_none h5 hdx5), upd_ne (ne_of_none h5 hna)]
          exact h5
    · rintro σ H4 ⟨v4, o4, _, _, _, s4, ho4, wo4, e4, rfl⟩
      rw [List.drop_of_length_le (by rw [hp.length]; exact Nat.le_refl _)] at e4
      exact ⟨_, rfl, k o4 e4 v4 H4 s4 ho4⟩
end
end Fw

set_option maxHeartbeats 4000000
/-! FwD4: common.py, the pairs -/
namespace Fw
open PySem PySem.Spec PySem.W PyProof.Rows L2
/-! ### rules inside a comprehension's block: the table is named -/
section
variable {X : Cx} {pos : Pos}
theorem pg_tupK (K' : PySem.W.Frag) (n : Nat) {es : List Expr} {k : Nat} {t : TGs} (hc : X.calm = true) (h : PGs X es t) (hK : X.K = K' := by rfl)
    (hn : (assignEach es X.env).length = n := by rfl) (hst : (assignEach es X.env).findIdx? (·.1) = none := by rfl) : PG X (.Tuple es k pos) (gTup K' n t) := by
  subst hK
  exact pg_tup hc h hn hst
theorem ix_listK (K' : PySem.W.Frag) (hK : X.K = K' := by rfl) : IxR X (rIxL K') := by
  subst hK
  exact ix_list
theorem ix_tupK (K' : PySem.W.Frag) (hK : X.K = K' := by rfl) : IxR X (rIxT K') := by
  subst hK
  exact ix_tup
theorem op_inSK (K' : PySem.W.Frag) (hK : X.K = K' := by rfl) : OpR X (compareOp .In) (rInS K' false) := by
  subst hK
  exact op_inS
theorem pe_fldK (K' : PySem.W.Frag) {e : Expr} {f : Str} {ta : TE} (he : PE X e ta) (hb : attributeBase e f X.env (eval e X.env) = eval e X.env) (hK : X.K = K' := by rfl) : PE X (.Attribute e f pos) (tFld K' ta f) := by
  subst hK
  exact pe_fld he hb
end
/-! ### a dict by a comprehension -/
theorem dcS {J : It} {H1 : Hp} {n : Nat} {Y : Nat → V → Hp → Prop} (src : Src J H1 n Y) {g : TG} {tk tv : TE} {vs : List Nat} {σ : L2.St} {Qd : Addr → Hp → Prop} (acc : Nat → List (Key × V)) (a0 : acc 0 = []) (hn : n ≤ 5000)
    (turn : ∀ i x H2 (Kt : V → V → Hp → Prop), i < n → Same H1 H2 → Y i x H2 → (∀ k z H4, Same H2 H4 → acc (i + 1) = putK (acc i) k z → Kt (kV k) z H4) →
      g x (wipe σ vs) H2 fun σ2 H2' => wipe σ2 vs = wipe σ vs ∧ tk σ2 H2' fun y H4 => tv σ2 H4 fun z H5 => Kt y z H5)
    (done : ∀ D H2, Same H1 H2 → H2 D = some (.dK (acc n)) → Qd D H2) :
    ∀ D, H1 D = none → ∃ W : Nat → Nat → Hp → Prop, (∃ m, W 0 m (upd H1 D (.dK []))) ∧ ∀ i m H, W i m H →
      (J.stop i H ∧ Qd D H) ∨ (J.go i H ∧ ∃ Nx : Hp → Prop, (∀ H2, Nx H2 → ∃ m', m' < m ∧ W (i + 1) m' H2) ∧ ∀ x H2, J.yld i H x H2 → g x (wipe σ vs) H2 fun σ2 H2 => wipe σ2 vs = wipe σ vs ∧ tYes σ2 H2 fun b H3 =>
        if b = true then tk σ2 H3 fun y H4 => tv σ2 H4 fun z H5 => ∃ kvs k, y = kV k ∧ H5 D = some (.dK kvs) ∧ kvs.length < sizeLine ∧ Nx (upd H5 D (.dK (putK kvs k z))) else Nx H3) := by
  intro D hD
  refine ⟨fun i m H => m = n - i ∧ i ≤ n ∧ Same H1 H ∧ (acc i).length ≤ i ∧ H D = some (.dK (acc i)), ⟨n, rfl, Nat.zero_le _, Same.new hD, by rw [a0]; exact Nat.le_refl _, by rw [a0]; exact upd_same⟩, ?_⟩
  rintro i m H ⟨rfl, hi, hs, hl, hy⟩
  by_cases hlt : i < n
  · refine .inr ⟨src.go i H hlt hs, fun H2 => Same H1 H2 ∧ (acc (i + 1)).length ≤ i + 1 ∧ H2 D = some (.dK (acc (i + 1))), fun H2 q => ⟨n - (i + 1), by omega, rfl, hlt, q⟩, fun x H2 y => ?_⟩
    obtain ⟨s2, hY⟩ := src.yld i H x H2 hlt hs y
    refine turn i x H2 (fun y z H5 => ∃ kvs k, y = kV k ∧ H5 D = some (.dK kvs) ∧ kvs.length < sizeLine ∧ _) hlt (hs.trans s2) hY fun k z H4 s4 e => ?_
    refine ⟨acc i, k, rfl, s4 _ _ (s2 _ _ hy), small' (by omega), Same.mut ((hs.trans s2).trans s4) hD, ?_, ?_⟩
    · have := length_putK (acc i) k z
      rw [e]
      omega
    · rw [e]
      exact upd_same
  · have e : i = n := by omega
    subst e
    exact .inl ⟨src.stop H hs, done D H hs hy⟩
/-- the places, as a table -/
def plc (ls : List Str) : Nat → List (Key × V)
  | 0 => []
  | i + 1 => match ls[i]? with
    | some x => putK (plc ls i) (.inr x) (.int (i : Nat))
    | none => plc ls i
theorem plc_get {ls : List Str} (nd : ls.Nodup) (x : Str) (t : Nat) : valV (plc ls t) (.inr x) = if ls.idxOf x < t ∧ x ∈ ls then some (.int (ls.idxOf x : Nat)) else none := by
  induction t with
  | zero => rw [if_neg (by omega)]; rfl
  | succ t ih =>
    rw [plc]
    split
    · rename_i y e
      rw [valV_put, ih]
      have hy := idx_at nd e
      by_cases q : x = y
      · subst q
        rw [if_pos rfl, if_pos ⟨by omega, List.mem_of_getElem? e⟩, hy]
      · rw [if_neg fun z => q (Sum.inr.inj z)]
        have : ls.idxOf x ≠ t ∨ ¬ x ∈ ls := by
          by_cases m : x ∈ ls
          · refine .inl fun z => q ?_
            have h1 := idx_get m
            rw [z, e] at h1
            exact (Option.some.inj h1).symm
          · exact .inr m
        by_cases c : ls.idxOf x < t ∧ x ∈ ls
        · rw [if_pos c, if_pos ⟨by omega, c.2⟩]
        · refine (if_neg c).trans (if_neg fun z => c ⟨?_, z.2⟩).symm
          rcases this with h | h
          · omega
          · exact absurd z.2 h
    · rename_i e
      rw [ih]
      have hl := List.getElem?_eq_none_iff.mp e
      by_cases m : x ∈ ls
      · have := idx_lt m
        rw [if_pos ⟨by omega, m⟩, if_pos ⟨by omega, m⟩]
      · rw [if_neg fun z => m z.2, if_neg fun z => m z.2]
theorem plc_all {ls : List Str} (nd : ls.Nodup) (x : Str) : valV (plc ls ls.length) (.inr x) = if x ∈ ls then some (.int (ls.idxOf x : Nat)) else none := by
  rw [plc_get nd]
  by_cases m : x ∈ ls
  · rw [if_pos ⟨idx_lt m, m⟩, if_pos m]
  · rw [if_neg fun z => m z.2, if_neg m]
section
variable {P : Program} {w : World} {K : PySem.W.Frag} {mg : Str → Option Value} {base : Heap} {CP CW CN SD : Addr}
def spPlaces : Sp := fun vs H Q _ => ∃ (v : V) (o : Ord Str), vs = [v] ∧ OrdA H v o ∧ WO o ∧ ∀ d H2, Same H H2 → H2 d = some (.dK (plc o.ls o.ls.length)) → Q (.ref d) H2
abbrev N_places_of : List Str := ["order", "at", "letter"]
theorem sc_places_of : FnScope N_places_of ["order"] (defScope s_places_of) := ⟨rfl, rfl, rfl, by decide +kernel, rfl, by decide +kernel, by decide +kernel⟩
-- slots: 0 order, 1 at, 2 letter
theorem k_places_of (T : Txt K mg CP CW CN SD) : Kp P w K mg base CX0 1 "places_of" ["order"] spPlaces := by
  refine T.d_places_of.ok sc_places_of (fun vs H Q E h => ?_) (fun f cdv A outer s H vs Q E hr h => ?_)
  · obtain ⟨v, o, rfl, _⟩ := h
    rfl
  · obtain ⟨v, o, rfl, ⟨a, b, c, rfl, ha, hb, hc⟩, wo, k⟩ := h
    have le := wo.le
    refine ⟨_, (pss_one (ps_ret (pe_dc (own := [("at", 1), ("letter", 2)]) rfl sc_places_of.nd (pi_enumT rfl T.b_enumerate (pa_cons (pe_ix ix_tup (pv 0) pe_int (fun _ _ => rfl)) pa_nil)) (blkOk_by (own := [("at", 1), ("letter", 2)]) (N := N_places_of) (sc := defScope s_places_of) (by decide +kernel)) (fun _ _ _ _ _ => (pg_tupK K 2 rfl (pgs_cons (pg_name (i := 1) sc_places_of.nd rfl (Or.inl rfl)) (pgs_cons (pg_name (i := 2) sc_places_of.nd rfl (Or.inl rfl)) pgs_nil)))) (fun _ _ _ _ _ => pts_nil) (fun _ _ _ _ _ => (pv 2)) (fun _ _ _ _ _ => (pv 1))))), ?_⟩
    refine ⟨_, rfl, a, _, 0, _, rfl, rfl, ha.sq, atI_nat (j := 0) rfl, b, _, rfl, hb.sq, dcS (src_enumT hb.sq) (plc o.ls) rfl (by rw [List.length_map]; omega) (fun i v H2 Kt hi s2 hv kt => ?_) (fun D H2 s2 hD => ?_)⟩
    · obtain ⟨T2, x, rfl, hT, hx⟩ := hv
      rw [List.getElem?_map] at hx
      cases e : o.ls[i]? with
      | none => rw [e] at hx; cases hx
      | some y =>
        rw [e] at hx
        cases hx
        refine ⟨T2, _, rfl, SqT.of hT, rfl, _, _, rfl, _, _, rfl, rfl, rfl, _, rfl, _, rfl, ?_⟩
        exact kt (.inr y) (.int (i : Nat)) H2 (Same.refl _) (by rw [plc, e])
    · rw [List.length_map] at hD
      exact k D H2 s2 hD
def spLeast : Sp := fun vs H Q _ => ∃ (v : V) (o : Ord Str) (a b : Nat), vs = [v, .int (a : Nat), .int (b : Nat)] ∧ OrdA H v o ∧ a < b ∧ b ≤ o.ss.length ∧ ∀ H2, Same H H2 → Q (.int (leastB o.ss a b)) H2
abbrev N_least_between : List Str := ["order", "low", "high"]
theorem sc_least_between : FnScope N_least_between ["order", "low", "high"] (defScope s_least_between) := ⟨rfl, rfl, rfl, by decide +kernel, rfl, by decide +kernel, by decide +kernel⟩
-- slots: 0 order, 1 low, 2 high
theorem k_least_between (T : Txt K mg CP CW CN SD) : Kp P w K mg base CX0 1 "least_between" ["order", "low", "high"] spLeast := by
  refine T.d_least_between.ok sc_least_between (fun vs H Q E h => ?_) (fun f cdv A outer s H vs Q E hr h => ?_)
  · obtain ⟨v, o, i, j, rfl, _⟩ := h
    rfl
  · obtain ⟨v, o, i, j, rfl, ⟨a, b, c, rfl, ha, hb, hc⟩, hij, hj, k⟩ := h
    have hu := hu_of hr
    refine ⟨_, (pss_one (ps_ret (pe_callB (cr_minT rfl hu) rfl T.b_min (by decide +kernel) (pa_cons (pe_slice sl_tupS (pe_ix ix_tup (pv 0) pe_int (fun _ _ => rfl)) (po_some (pv 1)) (po_some (pv 2))) pa_nil)))), ?_⟩
    refine ⟨_, rfl, a, _, 1, _, rfl, rfl, ha.sq, atI_nat (j := 1) rfl, _, rfl, _, rfl, _, rfl, _, rfl, c, _, rfl, hc, fun p H2 s2 h2 => ?_⟩
    rw [cut_mid (k := i) (m := j) rfl rfl (by rw [List.length_map]; exact hj), ← List.map_drop, ← List.map_take] at h2
    refine ⟨p, _, rfl, h2, fun z => ?_, fun m h3 h4 => ?_⟩
    · have := congrArg List.length z
      simp only [List.length_take, List.length_drop, List.length_nil] at this
      omega
    · have e : m = leastB o.ss i j := lo_eq h3 h4
      rw [e]
      exact k H2 s2
end
end Fw

set_option maxHeartbeats 4000000
/-! FwD5: the pairs: which letter can follow, what stands in the object -/
namespace Fw
open PySem PySem.Spec PySem.W PyProof.Rows L2
theorem lks {f : Str} {v : V} {fs : List (Str × V)} : (putF f v fs).lookup f = some v := by rw [lookup_putF, if_pos rfl]
theorem lkn {f g : Str} {v : V} {fs : List (Str × V)} {r : Option V} (h : g ≠ f) (e : fs.lookup g = r) : (putF f v fs).lookup g = r := by rw [lookup_putF, if_neg h, e]
def nV (l : List Nat) : List V := l.map fun i => V.int (i : Nat)
theorem plen {f : Str} {v : V} {fs : List (Str × V)} {n : Nat} (h : fs.length ≤ n) : (putF f v fs).length ≤ n + 1 := Nat.le_trans (length_putF f v fs) (Nat.succ_le_succ h)
theorem nV_inv {l : List Nat} {i : Nat} {x : V} (h : (nV l)[i]? = some x) : ∃ a : Nat, x = V.int (a : Nat) ∧ l[i]? = some a := by
  unfold nV at h
  rw [List.getElem?_map] at h
  cases e : l[i]? with
  | none => rw [e] at h; cases h
  | some a =>
    rw [e] at h
    exact ⟨a, (Option.some.inj h).symm, rfl⟩
theorem nV_of {ys : List V} {ns : List Nat} (h : Paired (fun v (n : Nat) => v = V.int (n : Nat)) ys ns) : ys = nV ns := Paired.map_eq h
theorem yes_ {σ : L2.St} {H : Hp} {te : TE} {Kt : V → Hp → Prop} {Kf : Hp → Prop} (h : te σ H Kt) : tYes σ H fun b H3 => if b = true then te σ H3 Kt else Kf H3 := h
theorem dec_int {a b : Int} : decide (V.int a = V.int b) = decide (a = b) := decide_eq_decide.mpr ⟨V.int.inj, congrArg _⟩
theorem nV_get {l : List Nat} {i a : Nat} (h : l[i]? = some a) : (nV l)[i]? = some (V.int (a : Nat)) := by
  unfold nV
  rw [List.getElem?_map, h]
  rfl
theorem nV_len {l : List Nat} : (nV l).length = l.length := List.length_map _
abbrev Fl (fs : List (Str × V)) (n : Str) (r : Option V) : Prop := fs.lookup n = r
/-- the pairs, the links not asked -/
structure PairsF (H : Hp) (fs : List (Str × V)) (v1 v2 : V) (f o : Ord Str) (d l1 l2 : Addr) : Prop where
  places : Fl fs "places" (some (.ref d))
  first : Fl fs "first" (some v1)
  second : Fl fs "second" (some v2)
  own : Fl fs "own" (some (.ref l1))
  letters : Fl fs "letters" (some (.ref l2))
  nofol : Fl fs "can_follow" (none)
  hd : H d = some (.dK (plc f.ls f.ls.length))
  h1 : OrdA H v1 f
  h2 : OrdA H v2 o
  ho : H l1 = some (.lst (nV (Fw.own f o)))
  hl : H l2 = some (.lst ((lets f o).map V.str))
def PairsC (CP : Addr) (H : Hp) (x : Addr) (f o : Ord Str) : Prop := ∃ dx fs v1 v2 d l1 l2, H x = some (.ins CP dx fs) ∧ PairsF H fs v1 v2 f o d l1 l2
theorem PairsF.same {H H2 : Hp} {fs : List (Str × V)} {v1 v2 : V} {f o : Ord Str} {d l1 l2 : Addr} (s : Same H H2) (h : PairsF H fs v1 v2 f o d l1 l2) : PairsF H2 fs v1 v2 f o d l1 l2 :=
  { h with hd := s _ _ h.hd, h1 := h.h1.tm (TM.of s), h2 := h.h2.tm (TM.of s), ho := s _ _ h.ho, hl := s _ _ h.hl }
theorem PairsC.same {CP : Addr} {H H2 : Hp} {x : Addr} {f o : Ord Str} (s : Same H H2) (h : PairsC CP H x f o) : PairsC CP H2 x f o := by
  obtain ⟨dx, fs, v1, v2, d, l1, l2, hx, h⟩ := h
  exact ⟨dx, fs, v1, v2, d, l1, l2, s _ _ hx, h.same s⟩
theorem plc_dget {H : Hp} {d : Addr} {ls : List Str} {x : Str} (nd : ls.Nodup) (hm : x ∈ ls) (h : H d = some (.dK (plc ls ls.length))) : DGet H d (.str x) (some (.int (ls.idxOf x : Nat))) := by
  have q := DGet.k (k := .inr x) h
  rw [plc_all nd, if_pos hm] at q
  exact q
theorem plc_din {H : Hp} {d : Addr} {ls : List Str} {x : Str} (nd : ls.Nodup) (h : H d = some (.dK (plc ls ls.length))) : ∃ o, DGet H d (.str x) o ∧ o.isSome = decide (x ∈ ls) := by
  have q := DGet.k (k := .inr x) h
  rw [plc_all nd] at q
  refine ⟨_, q, ?_⟩
  by_cases hm : x ∈ ls
  · rw [if_pos hm, decide_eq_true hm]
    rfl
  · rw [if_neg hm, decide_eq_false hm]
    rfl
section
variable {P : Program} {w : World} {K : PySem.W.Frag} {mg : Str → Option Value} {base : Heap} {CP CW CN SD : Addr}
def spFollow (CP : Addr) : Sp := fun vs H Q _ => ∃ (x : Addr) (f o : Ord Str) (i j : Nat), vs = [.ref x, .int (i : Nat), .int (j : Nat)] ∧ PairsC CP H x f o ∧ WO f ∧ WO o ∧ i < j ∧ j < many f o ∧ ∀ H2, Same H H2 → Q (.bl (fol f o i j)) H2
abbrev N_Pairs_can_follow : List Str := ["self", "i", "j", "low", "high"]
theorem sc_Pairs_can_follow : FnScope N_Pairs_can_follow ["self", "i", "j"] (defScope s_Pairs_can_follow) := ⟨rfl, rfl, rfl, by decide +kernel, rfl, by decide +kernel, by decide +kernel⟩
-- slots: 0 self, 1 i, 2 j, 3 low, 4 high
theorem k_Pairs_can_follow (T : Txt K mg CP CW CN SD) : KpM P w K mg base CX0 2 CP "can_follow" ["self", "i", "j"] (spFollow CP) := by
  refine T.d_Pairs_can_follow.ok sc_Pairs_can_follow (fun vs H Q E h => ?_) (fun f cdv A outer s H vs Q E hr h => ?_)
  · obtain ⟨x, f, o, i, j, rfl, _⟩ := h
    rfl
  · obtain ⟨x, fo, o, i, j, rfl, ⟨dx, fs, v1, v2, d, l1, l2, hx, hf⟩, wf, wo, hij, hj, k⟩ := h
    have hu := hu_of hr
    obtain ⟨a, y, ea, ey, eay, hyf, hal⟩ := own_at (f := fo) (o := o) (i := i) (by omega)
    obtain ⟨b, z, eb, ez, ebz, hzf, hbl⟩ := own_at (f := fo) (o := o) (i := j) hj
    have hab := own_get_lt hij ea eb
    have hfol : fol fo o i j = if fo.ls.idxOf y > fo.ls.idxOf z then false else decide (leastB fo.ss (fo.ls.idxOf y) (fo.ls.idxOf z) = leastB o.ss a b) := by
      unfold fol
      simp only [ea, eb, ey, ez]
    have hyz : fo.ls.idxOf y ≠ fo.ls.idxOf z := fun q => by
      have h1 := idx_get hyf
      rw [q, idx_get hzf] at h1
      have h2 : z = y := Option.some.inj h1
      subst h2
      have h3 := idx_at wo.wf.nd eay
      have h4 := idx_at wo.wf.nd ebz
      omega
    have hzl := idx_lt hzf
    have hlf := wf.wf.len
    have hlo := wo.wf.len
    refine ⟨_, (pss_cons (ps_set (i := 3) sc_Pairs_can_follow.nd rfl (Or.inl rfl) (pe_dget hu (pe_fld (pv 0) rfl) (pe_ix ix_list (pe_fld (pv 0) rfl) (pv 1) (fun _ _ => rfl)) (fun _ _ => rfl)))
      (pss_cons (ps_set (i := 4) sc_Pairs_can_follow.nd rfl (Or.inl rfl) (pe_dget hu (pe_fld (pv 0) rfl) (pe_ix ix_list (pe_fld (pv 0) rfl) (pv 2) (fun _ _ => rfl)) (fun _ _ => rfl)))
      (pss_cons (ps_if (pt_cmpR op_gt (pv 3) (pv 4) (nomark _)) (pss_one (ps_ret pe_bl)) pss_nil)
      (pss_one (ps_ret (pe_cmpR op_eq (pe_g (k_least_between T) (hr.mono (by decide)) pass0 (pa_cons (pe_fld (pv 0) rfl) (pa_cons (pv 3) (pa_cons (pv 4) pa_nil)))) (pe_g (k_least_between T) (hr.mono (by decide)) pass0 (pa_cons (pe_fld (pv 0) rfl) (pa_cons (pe_ix ix_list (pe_fld (pv 0) rfl) (pv 1) (fun _ _ => rfl)) (pa_cons (pe_ix ix_list (pe_fld (pv 0) rfl) (pv 2) (fun _ _ => rfl)) pa_nil)))) (nomark _))))))), ?_⟩
    refine ⟨_, rfl, x, CP, dx, fs, _, rfl, hx, T.cl_Pairs, T.n_Pairs_places, hf.places, _, rfl, x, CP, dx, fs, _, rfl, hx, T.cl_Pairs, T.n_Pairs_letters, hf.letters, _, rfl, l2, _, _, _, rfl, rfl, SqL.of hf.hl, atI_nat (tget ey), d, _, rfl, plc_dget wf.wf.nd hyf hf.hd, ?_⟩
    refine ⟨_, rfl, x, CP, dx, fs, _, rfl, hx, T.cl_Pairs, T.n_Pairs_places, hf.places, _, rfl, x, CP, dx, fs, _, rfl, hx, T.cl_Pairs, T.n_Pairs_letters, hf.letters, _, rfl, l2, _, _, _, rfl, rfl, SqL.of hf.hl, atI_nat (tget ez), d, _, rfl, plc_dget wf.wf.nd hzf hf.hd, ?_⟩
    refine ⟨_, rfl, _, rfl, _, _, rfl, rfl, _, rfl, ?_⟩
    refine ite2 (fun e => ?_) (fun e => ?_)
    · have e2 : fo.ls.idxOf y > fo.ls.idxOf z := by
        have := of_decide_eq_true e
        omega
      have q := k H (Same.refl _)
      rw [hfol, if_pos e2] at q
      exact q
    · have e2 : ¬ fo.ls.idxOf y > fo.ls.idxOf z := fun z2 => e (decide_eq_true (by omega))
      refine ⟨_, rfl, x, CP, dx, fs, _, rfl, hx, T.cl_Pairs, T.n_Pairs_first, hf.first, _, rfl, _, rfl, v1, fo, _, _, rfl, hf.h1, by omega, by omega, fun H2 s2 => ?_⟩
      have hx2 := s2 _ _ hx
      have hf2 := hf.same s2
      refine ⟨_, rfl, x, CP, dx, fs, _, rfl, hx2, T.cl_Pairs, T.n_Pairs_second, hf.second, _, rfl, x, CP, dx, fs, _, rfl, hx2, T.cl_Pairs, T.n_Pairs_own, hf.own, _, rfl, l1, _, _, _, rfl, rfl, SqL.of hf2.ho, atI_nat (nV_get ea), ?_⟩
      refine ⟨_, rfl, x, CP, dx, fs, _, rfl, hx2, T.cl_Pairs, T.n_Pairs_own, hf.own, _, rfl, l1, _, _, _, rfl, rfl, SqL.of hf2.ho, atI_nat (nV_get eb), v2, o, a, b, rfl, hf2.h2, hab, by omega, fun H3 s3 => ?_⟩
      have q := k H3 (s2.trans s3)
      rw [hfol, if_neg e2] at q
      refine ⟨rfl, ?_⟩
      show Q (.bl (decide (V.int _ = V.int _))) _
      rw [dec_int]
      exact q
/-! ### the object is made -/
def LstI (D : Addr) (H : Hp) (v : V) (js : List Nat) : Prop := ∃ p, v = .ref p ∧ p ≠ D ∧ H p = some (.lst (nV js))
/-- the pairs, whole -/
structure PairsL (H : Hp) (fs : List (Str × V)) (f o : Ord Str) (l3 : Addr) (ys : List V) : Prop where
  many : Fl fs "many" (some (.int (Fw.many f o : Nat)))
  links : Fl fs "links" (some (.ref l3))
  nolen : Fl fs "lengths" none
  nolev : Fl fs "levels" none
  h3 : H l3 = some (.lst ys)
  hp : Paired (LstI l3 H) ys ((List.range (Fw.many f o)).map (lk f o))
def PairsA (CP : Addr) (H : Hp) (x : Addr) (f o : Ord Str) : Prop := ∃ dx fs v1 v2 d l1 l2 l3 ys, H x = some (.ins CP dx fs) ∧ PairsF H fs v1 v2 f o d l1 l2 ∧ PairsL H fs f o l3 ys
theorem LstI.same {D : Addr} {H H2 : Hp} {v : V} {js : List Nat} (s : Same H H2) (h : LstI D H v js) : LstI D H2 v js := by
  obtain ⟨p, e, n, h⟩ := h
  exact ⟨p, e, n, s _ _ h⟩
theorem PairsL.same {H H2 : Hp} {fs : List (Str × V)} {f o : Ord Str} {l3 : Addr} {ys : List V} (s : Same H H2) (h : PairsL H fs f o l3 ys) : PairsL H2 fs f o l3 ys :=
  { h with h3 := s _ _ h.h3, hp := Paired.mapP h.hp fun _ _ q => q.same s }
theorem PairsA.same {CP : Addr} {H H2 : Hp} {x : Addr} {f o : Ord Str} (s : Same H H2) (h : PairsA CP H x f o) : PairsA CP H2 x f o := by
  obtain ⟨dx, fs, v1, v2, d, l1, l2, l3, ys, hx, h, h2⟩ := h
  exact ⟨dx, fs, v1, v2, d, l1, l2, l3, ys, s _ _ hx, h.same s, h2.same s⟩
/-- nothing but the object at x is changed -/
def But (x : Addr) (H H2 : Hp) : Prop := ∀ a o, a ≠ x → H a = some o → H2 a = some o
theorem But.of {x : Addr} {H H2 : Hp} (s : Same H H2) : But x H H2 := fun a o _ e => s a o e
theorem But.trans {x : Addr} {H H1 H2 : Hp} (s : But x H H1) (t : But x H1 H2) : But x H H2 := fun a o n e => t a o n (s a o n e)
theorem But.set {x : Addr} {H : Hp} {o : HO} : But x H (upd H x o) := fun a _ n e => by
  rw [upd_ne n]
  exact e
theorem But.tm {x : Addr} {H H2 : Hp} {C dx : Addr} {fs : List (Str × V)} (s : But x H H2) (h : H x = some (.ins C dx fs)) : TM H H2 := fun b o xs e => s b _ (fun z => by
  rw [z, h] at e
  cases e) e
def spPairs (CP : Addr) : Sp := fun vs H Q _ => ∃ (x dx : Addr) (v1 v2 : V) (f o : Ord Str), vs = [.ref x, v1, v2] ∧ H x = some (.ins CP dx []) ∧ OrdA H v1 f ∧ OrdA H v2 o ∧ WO f ∧ WO o ∧ ∀ H2, But x H H2 → PairsA CP H2 x f o → Q .non H2
abbrev N_Pairs_init : List Str := ["self", "first", "second", "at", "i", "letter", "j"]
theorem sc_Pairs_init : FnScope N_Pairs_init ["self", "first", "second"] (defScope s_Pairs_init) := ⟨rfl, rfl, rfl, by decide +kernel, rfl, by decide +kernel, by decide +kernel⟩
-- slots: 0 self, 1 first, 2 second, 3 at, 4 i, 5 letter, 6 j
theorem k_Pairs_init (T : Txt K mg CP CW CN SD) : KpI P w K mg base CX0 3 CP ["self", "first", "second"] (spPairs CP) := by
  refine T.d_Pairs_init.ok sc_Pairs_init (fun vs H Q E h => ?_) (fun f cdv A outer s H vs Q E hr h => ?_)
  · obtain ⟨x, dx, v1, v2, f, o, rfl, _⟩ := h
    rfl
  · obtain ⟨x, dx, v1, v2, fo, o, rfl, hx, h1, h2, wf, wo, k⟩ := h
    have hu := hu_of hr
    have le := wo.le
    have hmany := own_le fo o
    refine ⟨_, (pss_cons (ps_fld (pv 0) (pe_g (k_places_of T) (hr.mono (by decide)) pass0 (pa_cons (pv 1) pa_nil)) rfl)
      (pss_cons (ps_fld (pv 0) (pv 1) rfl)
      (pss_cons (ps_fld (pv 0) (pv 2) rfl)
      (pss_cons (ps_fld (pv 0) (pe_lc (own := [("at", 3), ("letter", 5)]) rfl sc_Pairs_init.nd (pi_enumT rfl T.b_enumerate (pa_cons (pe_ix ix_tup (pv 2) pe_int (fun _ _ => rfl)) pa_nil)) (blkOk_by (own := [("at", 3), ("letter", 5)]) (N := N_Pairs_init) (sc := defScope s_Pairs_init) (by decide +kernel)) (fun _ _ _ _ _ => (pg_tupK K 2 rfl (pgs_cons (pg_name (i := 3) sc_Pairs_init.nd rfl (Or.inl rfl)) (pgs_cons (pg_name (i := 5) sc_Pairs_init.nd rfl (Or.inl rfl)) pgs_nil)))) (fun _ _ _ _ _ => pts_one (pt_cmp (pc_din hu (pv 5) (pe_fldK K (pv 0) rfl)))) (fun _ _ _ _ _ => (pv 3))) rfl)
      (pss_cons (ps_fld (pv 0) (pe_lc (own := [("at", 3)]) rfl sc_Pairs_init.nd (pi_list (pe_fld (pv 0) rfl)) (blkOk_by (own := [("at", 3)]) (N := N_Pairs_init) (sc := defScope s_Pairs_init) (by decide +kernel)) (fun _ _ _ _ _ => (pg_name (i := 3) sc_Pairs_init.nd rfl (Or.inl rfl))) (fun _ _ _ _ _ => pts_nil) (fun _ _ _ _ _ => (pe_ix (ix_tupK K) (pe_ix (ix_tupK K) (pv 2) pe_int (fun _ _ => rfl)) (pv 3) (fun _ _ => rfl)))) rfl)
      (pss_cons (ps_fld (pv 0) (pe_callB call_len rfl T.b_len (by decide +kernel) (pa_cons (pe_fld (pv 0) rfl) pa_nil)) rfl)
      (pss_one (ps_fld (pv 0) (pe_lc (own := [("i", 4)]) rfl sc_Pairs_init.nd (pi_range1 rfl T.b_range (pa_cons (pe_fld (pv 0) rfl) pa_nil)) (blkOk_by (own := [("i", 4)]) (N := N_Pairs_init) (sc := defScope s_Pairs_init) (by decide +kernel)) (fun _ _ _ _ _ => (pg_name (i := 4) sc_Pairs_init.nd rfl (Or.inr rfl))) (fun _ _ _ _ _ => pts_nil) (fun _ _ _ _ _ => (pe_lc (own := [("j", 6)]) rfl sc_Pairs_init.nd (pi_range2 rfl T.b_range (pa_cons (pe_op op_add (pv 4) pe_int) (pa_cons (pe_fldK K (pv 0) rfl) pa_nil))) (blkOk_by (own := [("j", 6)]) (by rfl)) (fun _ _ _ _ _ => (pg_name (i := 6) sc_Pairs_init.nd rfl (Or.inl rfl))) (fun _ _ _ _ _ => pts_one (pt_val (pe_mg (k_Pairs_can_follow T) T.cl_Pairs (hr.mono (by decide)) pass0 (pv 0) (pa_cons (pv 4) (pa_cons (pv 6) pa_nil))))) (fun _ _ _ _ _ => (pv 6))))) rfl)))))))), ?_⟩
    -- places, first, second
    refine ⟨_, rfl, v1, fo, rfl, h1, wf, fun d Ha sa hd => ?_⟩
    have hxa := sa _ _ hx
    refine ⟨_, rfl, x, CP, dx, _, rfl, hxa, T.cl_Pairs, T.n_Pairs_places, (by show 0 < 1000; decide), ?_⟩
    refine ⟨_, rfl, _, rfl, x, CP, dx, _, rfl, upd_same, T.cl_Pairs, T.n_Pairs_first, (by show 1 < 1000; decide), ?_⟩
    rw [upd_upd]
    refine ⟨_, rfl, _, rfl, x, CP, dx, _, rfl, upd_same, T.cl_Pairs, T.n_Pairs_second, (by have := length_putF "first" v1 (putF "places" (.ref d) []); have := length_putF "places" (.ref d) []; simp only [List.length_nil] at *; omega), ?_⟩
    rw [upd_upd]
    -- own
    generalize hF : putF "second" v2 (putF "first" v1 (putF "places" (.ref d) [])) = F3
    have f3 : F3.length ≤ 3 := by rw [← hF]; exact plen (plen (plen (Nat.le_refl 0)))
    have fp : F3.lookup ("places" : Str) = some (.ref d) := by rw [← hF]; exact lkn (by decide +kernel) (lkn (by decide +kernel) lks)
    have f1 : F3.lookup ("first" : Str) = some v1 := by rw [← hF]; exact lkn (by decide +kernel) lks
    have f2 : F3.lookup ("second" : Str) = some v2 := by rw [← hF]; exact lks
    have fc : F3.lookup ("can_follow" : Str) = none := by rw [← hF]; exact lkn (by decide +kernel) (lkn (by decide +kernel) (lkn (by decide +kernel) rfl))
    have fl : F3.lookup ("lengths" : Str) = none := by rw [← hF]; exact lkn (by decide +kernel) (lkn (by decide +kernel) (lkn (by decide +kernel) rfl))
    have fv : F3.lookup ("levels" : Str) = none := by rw [← hF]; exact lkn (by decide +kernel) (lkn (by decide +kernel) (lkn (by decide +kernel) rfl))
    have b3 : But x H (upd Ha x (.ins CP dx F3)) := (But.of sa).trans But.set
    have hd3 : upd Ha x (.ins CP dx F3) d = some (.dK (plc fo.ls fo.ls.length)) := by
      rw [upd_ne fun z => by rw [z, hxa] at hd; cases hd]
      exact hd
    have hx3 : upd Ha x (.ins CP dx F3) x = some (.ins CP dx F3) := upd_same
    generalize upd Ha x (.ins CP dx F3) = H3 at b3 hd3 hx3 ⊢
    obtain ⟨a, b, c, rfl, ha, hb, hc⟩ := h2.tm (b3.tm hx)
    have hb2 : H3 b = _ := hb.choose_spec.1
    refine ⟨_, rfl, a, _, 0, _, rfl, rfl, ha.sq, atI_nat (j := 0) rfl, b, _, rfl, hb.sq, lcS (src_enumT hb.sq) (fun _ v (n : Nat) => v = V.int (n : Nat)) (fun _ _ _ _ _ r => r) (ownT fo o) rfl (by rw [List.length_map]; omega) (fun i v H4 Kt Kf hi s4 hv kt kf => ?_) (fun D H4 ys hD s4 hy hp => ?_)⟩
    · obtain ⟨T2, y, rfl, hT, hy⟩ := hv
      rw [List.getElem?_map] at hy
      cases e : o.ls[i]? with
      | none => rw [e] at hy; cases hy
      | some y2 =>
        rw [e] at hy
        cases hy
        obtain ⟨oo, hg, hoo⟩ := plc_din (x := y2) wf.wf.nd (s4 _ _ hd3)
        refine ⟨T2, _, rfl, SqT.of hT, rfl, _, _, rfl, _, _, rfl, rfl, rfl, _, rfl, _, rfl, x, CP, dx, _, _, rfl, s4 _ _ hx3, T.cl_Pairs, T.n_Pairs_places, fp, d, oo, rfl, hg, ?_⟩
        have acc : ownT fo o (i + 1) = ownT fo o i ++ (if y2 ∈ fo.ls then [i] else []) := by
          unfold ownT
          rw [List.range_succ, List.filter_append]
          congr 1
          rw [List.filter_cons, e]
          by_cases m : y2 ∈ fo.ls <;> simp [m]
        rw [hoo]
        by_cases m : y2 ∈ fo.ls
        · rw [decide_eq_true m]
          rw [if_pos m] at acc
          exact ⟨_, rfl, iteT ⟨_, rfl, kt _ _ i (Same.refl _) rfl acc⟩⟩
        · rw [decide_eq_false m]
          rw [if_neg m, List.append_nil] at acc
          exact ⟨_, rfl, iteF (kf _ (Same.refl _) acc)⟩
    -- letters
    rw [List.length_map] at hp
    have e4 : H4 D = some (.lst (nV (own fo o))) := by rw [hy, nV_of hp]; rfl
    have nDx : D ≠ x := fun z => by rw [z, hx3] at hD; cases hD
    refine ⟨_, rfl, x, CP, dx, _, rfl, s4 _ _ hx3, T.cl_Pairs, T.n_Pairs_own, by omega, ?_⟩
    have b4 : But x H3 (upd H4 x (.ins CP dx (putF "own" (.ref D) F3))) := (But.of s4).trans But.set
    have ho5 : upd H4 x (.ins CP dx (putF "own" (.ref D) F3)) D = some (.lst (nV (own fo o))) := by
      rw [upd_ne nDx]
      exact e4
    have hx5 : upd H4 x (.ins CP dx (putF "own" (.ref D) F3)) x = some (.ins CP dx (putF "own" (.ref D) F3)) := upd_same
    generalize upd H4 x (.ins CP dx (putF "own" (.ref D) F3)) = H5 at b4 ho5 hx5 ⊢
    have tm5 : TM H3 H5 := b4.tm hx3
    have ha5 := ha.tm tm5
    have hb5 := hb.tm tm5
    refine ⟨_, rfl, x, CP, dx, _, _, rfl, hx5, T.cl_Pairs, T.n_Pairs_own, lks, D, rfl, ⟨_, SqL.of ho5⟩, lcS (src_list (SqL.of ho5)) (fun _ v (z : Str) => v = V.str z) (fun _ _ _ _ _ r => r) (letsT fo o) rfl (by rw [nV_len]; unfold many at hmany; omega) (fun i v H6 Kt Kf hi s6 hv kt kf => ?_) (fun L H6 ys hL s6 hy6 hp6 => ?_)⟩
    · obtain ⟨q, rfl, hq⟩ := nV_inv hv
      obtain ⟨y, hy1, hy2⟩ := own_mem (List.mem_of_getElem? hq)
      have acc : letsT fo o (i + 1) = letsT fo o i ++ [y] := by
        unfold letsT
        rw [List.take_add_one, hq, List.filterMap_append]
        simp [hy1]
      refine ⟨rfl, yes_ ?_⟩
      exact ⟨_, rfl, a, _, 0, _, rfl, rfl, (ha5.same s6).sq, atI_nat (j := 0) rfl, _, rfl, b, _, _, _, rfl, rfl, (hb5.same s6).sq, atI_nat (tget hy1), kt _ H6 y (Same.refl _) rfl acc⟩
    -- many
    rw [nV_len] at hp6
    have e6 : H6 L = some (.lst ((lets fo o).map V.str)) := by rw [hy6, Paired.map_eq hp6]; rfl
    have nLx : L ≠ x := fun z => by rw [z, hx5] at hL; cases hL
    have nLD : L ≠ D := fun z => by rw [z, ho5] at hL; cases hL
    refine ⟨_, rfl, x, CP, dx, _, rfl, s6 _ _ hx5, T.cl_Pairs, T.n_Pairs_letters, (Nat.lt_of_le_of_lt (plen f3) (by decide : 4 < 1000)), ?_⟩
    refine ⟨_, rfl, x, CP, dx, _, _, rfl, upd_same, T.cl_Pairs, T.n_Pairs_own, lkn (by decide +kernel) lks, _, many fo o, rfl, .inl ⟨_, SqL.of ((upd_ne nDx).trans (s6 _ _ ho5)), nV_len.symm⟩, ?_⟩
    refine ⟨_, rfl, x, CP, dx, _, rfl, upd_same, T.cl_Pairs, T.n_Pairs_many, (Nat.lt_of_le_of_lt (plen (plen f3)) (by decide : 5 < 1000)), ?_⟩
    rw [upd_upd]
    generalize hF6 : putF "many" (V.int (many fo o : Nat)) (putF "letters" (.ref L) (putF "own" (.ref D) F3)) = F6
    have f6 : F6.length ≤ 6 := by rw [← hF6]; exact plen (plen (plen f3))
    have fm6 : F6.lookup ("many" : Str) = some (.int (many fo o : Nat)) := by rw [← hF6]; exact lks
    have g6 : ∀ {n : Str} {r : Option V}, n ≠ "many" → n ≠ "letters" → n ≠ "own" → F3.lookup n = r → F6.lookup n = r := fun a b c e => by rw [← hF6]; exact lkn a (lkn b (lkn c e))
    have fo6 : F6.lookup ("own" : Str) = some (.ref D) := by rw [← hF6]; exact lkn (by decide +kernel) (lkn (by decide +kernel) lks)
    have fl6 : F6.lookup ("letters" : Str) = some (.ref L) := by rw [← hF6]; exact lkn (by decide +kernel) lks
    have b6 : But x H3 (upd H6 x (.ins CP dx F6)) := (b4.trans (But.of s6)).trans But.set
    have pf7 : PairsF (upd H6 x (.ins CP dx F6)) F6 v1 (.ref a) fo o d D L :=
      { places := g6 (by decide +kernel) (by decide +kernel) (by decide +kernel) fp
        first := g6 (by decide +kernel) (by decide +kernel) (by decide +kernel) f1
        second := g6 (by decide +kernel) (by decide +kernel) (by decide +kernel) f2
        own := fo6
        letters := fl6
        nofol := g6 (by decide +kernel) (by decide +kernel) (by decide +kernel) fc
        hd := b6 _ _ (fun z => by rw [z, hx3] at hd3; cases hd3) hd3
        h1 := (h1.tm (b3.tm hx)).tm (b6.tm hx3)
        h2 := ⟨a, b, c, rfl, ha.tm (b6.tm hx3), hb.tm (b6.tm hx3), hc.tm (b6.tm hx3)⟩
        ho := (upd_ne nDx).trans (s6 _ _ ho5)
        hl := (upd_ne nLx).trans e6 }
    have hx7 : upd H6 x (.ins CP dx F6) x = some (.ins CP dx F6) := upd_same
    generalize upd H6 x (.ins CP dx F6) = H7 at b6 pf7 hx7 ⊢
    -- links
    have em : ((many fo o : Nat) : Int).toNat = many fo o := Int.toNat_natCast _
    refine ⟨_, rfl, x, CP, dx, _, _, rfl, hx7, T.cl_Pairs, T.n_Pairs_many, fm6, _, rfl, by omega, by omega, lcG (src_range 0 _ H7) LstI (fun D2 Ha Hb v js ys hy s h => ?_) (fun t => (List.range t).map (lk fo o)) rfl (by rw [em]; omega) (fun D2 i v H8 ys Kt Kf hi hy8 s8 hv kt kf => ?_) (fun D2 H8 ys hD2 s8 hy8 hp8 => ?_)⟩
    · obtain ⟨p, e, n, h⟩ := h
      exact ⟨p, e, n, s p _ n h⟩
    · obtain rfl : v = V.int (i : Nat) := by
        rw [hv]
        congr 1
        omega
      rw [em] at hi
      have hx8 := s8 _ _ hx7
      have pf8 := pf7.same s8
      refine ⟨rfl, yes_ ?_⟩
      refine ⟨_, rfl, _, _, rfl, rfl, _, rfl, x, CP, dx, _, _, rfl, hx8, T.cl_Pairs, T.n_Pairs_many, fm6, _, _, rfl, ⟨by omega, by omega, by omega, by omega⟩, lcS (src_range _ _ H8) (fun _ v (n : Nat) => v = V.int (n : Nat)) (fun _ _ _ _ _ r => r) (lkT fo o i) rfl (by omega) (fun t v H9 Kt2 Kf2 ht s9 hv2 kt2 kf2 => ?_) (fun D3 H9 ys2 hD3 s9 hy9 hp9 => ?_)⟩
      · obtain rfl : v = V.int ((i + 1 + t : Nat) : Nat) := by
          exact hv2.trans (congrArg V.int (by omega))
        have acc : lkT fo o i (t + 1) = lkT fo o i t ++ (if fol fo o i (i + 1 + t) = true then [i + 1 + t] else []) := by
          unfold lkT
          rw [List.range_succ, List.map_append, List.filter_append, List.map_cons, List.map_nil]
          by_cases m : fol fo o i (i + 1 + t) = true
          · rw [if_pos m, List.filter_cons_of_pos m, List.filter_nil]
          · rw [if_neg m, List.filter_cons_of_neg m, List.filter_nil]
        refine ⟨rfl, _, rfl, x, dx, F6, rfl, s9 _ _ hx8, pf8.nofol, _, rfl, _, rfl, x, fo, o, i, i + 1 + t, rfl, ⟨dx, F6, v1, _, d, D, L, s9 _ _ hx8, pf8.same s9⟩, wf, wo, by omega, by omega, fun H10 s10 => ⟨_, rfl, ?_⟩⟩
        by_cases m : fol fo o i (i + 1 + t) = true
        · rw [if_pos m] at acc
          rw [m]
          exact iteT ⟨_, rfl, kt2 _ _ _ s10 rfl acc⟩
        · rw [if_neg m, List.append_nil] at acc
          rw [Bool.eq_false_iff.mpr m]
          exact iteF (kf2 _ s10 acc)
      · have e9 : H9 D3 = some (.lst (nV (lk fo o i))) := by
          have en : (((many fo o : Nat) : Int) - ((i : Nat) + 1)).toNat = many fo o - (i + 1) := by omega
          rw [hy9, nV_of hp9, en]
          rfl
        refine kt _ H9 (lk fo o i) s9 ⟨D3, rfl, fun z => ?_, e9⟩ (by rw [List.range_succ, List.map_append, List.map_singleton])
        rw [z, hy8] at hD3
        cases hD3
    · rw [em] at hp8
      have nD2 : D2 ≠ x := fun z => by rw [z, hx7] at hD2; cases hD2
      refine ⟨_, rfl, x, CP, dx, _, rfl, s8 _ _ hx7, T.cl_Pairs, T.n_Pairs_links, by omega, ?_⟩
      have b8 : But x H7 (upd H8 x (.ins CP dx (putF "links" (.ref D2) F6))) := (But.of s8).trans But.set
      refine k _ ((b3.trans b6).trans b8) ⟨dx, _, v1, .ref a, d, D, L, D2, ys, upd_same, ?_, ?_⟩
      · exact { places := lkn (by decide +kernel) pf7.places
                first := lkn (by decide +kernel) pf7.first
                second := lkn (by decide +kernel) pf7.second
                own := lkn (by decide +kernel) pf7.own
                letters := lkn (by decide +kernel) pf7.letters
                nofol := lkn (by decide +kernel) pf7.nofol
                hd := b8 _ _ (fun z => by have q := pf7.hd; rw [z, hx7] at q; cases q) pf7.hd
                h1 := pf7.h1.tm (b8.tm hx7)
                h2 := pf7.h2.tm (b8.tm hx7)
                ho := b8 _ _ nDx pf7.ho
                hl := b8 _ _ nLx pf7.hl }
      · exact { many := lkn (by decide +kernel) fm6
                links := lks
                nolen := lkn (by decide +kernel) (g6 (by decide +kernel) (by decide +kernel) (by decide +kernel) fl)
                nolev := lkn (by decide +kernel) (g6 (by decide +kernel) (by decide +kernel) (by decide +kernel) fv)
                h3 := (upd_ne nD2).trans hy8
                hp := Paired.mapP hp8 fun v js q => by
                  obtain ⟨p, e, n, h⟩ := q
                  exact ⟨p, e, n, (upd_ne fun z => by rw [z, s8 _ _ hx7] at h; cases h).trans h⟩ }
end
end Fw

set_option maxHeartbeats 4000000
/-! FwD6: lengths, levels, the longest common list -/
namespace Fw
open PySem PySem.Spec PySem.W PyProof.Rows L2
theorem Paired.at2 {α β : Type} {F : α → β → Prop} : ∀ {xs : List α} {ys : List β} {i : Nat} {y : β}, Paired F xs ys → ys[i]? = some y → ∃ x, xs[i]? = some x ∧ F x y
  | _, _, _, _, .nil, e => by simp at e
  | _, _, 0, _, .cons r _, e => by
    simp at e
    subst e
    exact ⟨_, rfl, r⟩
  | _, _, i + 1, x, .cons _ t, e => by
    obtain ⟨y, h1, h2⟩ := Paired.at2 (i := i) t (by simpa using e)
    exact ⟨y, by simpa using h1, h2⟩
theorem lk_len (f o : Ord Str) (i : Nat) : (lk f o i).length ≤ Fw.many f o := by
  have h := List.length_filter_le (fol f o i) ((List.range (Fw.many f o - (i + 1))).map (i + 1 + ·))
  rw [List.length_map, List.length_range] at h
  exact Nat.le_trans h (Nat.sub_le _ _)
theorem PairsL.link {H : Hp} {fs : List (Str × V)} {f o : Ord Str} {l3 : Addr} {ys : List V} (h : PairsL H fs f o l3 ys) {i : Nat} (hi : i < Fw.many f o) : ∃ p, ys[i]? = some (.ref p) ∧ H p = some (.lst (nV (lk f o i))) := by
  obtain ⟨v, h1, p, rfl, _, h2⟩ := Paired.at2 (i := i) (y := lk f o i) h.hp (by rw [List.getElem?_map, List.getElem?_range hi]; rfl)
  exact ⟨p, h1, h2⟩
def iV (l : List Int) : List V := l.map V.int
theorem iV_getD {l : List Int} {j : Nat} (h : j < l.length) : (iV l)[j]? = some (V.int (l.getD j 0)) := by
  unfold iV
  rw [List.getElem?_map, List.getElem?_eq_getElem h, List.getD_eq_getElem?_getD, List.getElem?_eq_getElem h]
  rfl
theorem iV_len {l : List Int} : (iV l).length = l.length := List.length_map _
theorem iV_set {l : List Int} {j : Nat} {n : Int} : (iV l).set j (V.int n) = iV (l.set j n) := by
  unfold iV
  rw [List.map_set]
theorem take_get {l : List Nat} {t j : Nat} (h : l[t]? = some j) : l.take (t + 1) = l.take t ++ [j] := by
  rw [List.take_add_one, h]
  rfl
theorem filt1 {p : Nat → Bool} {c : Nat} : [c].filter p = if p c = true then [c] else [] := by
  cases h : p c with
  | true => rw [List.filter_cons_of_pos h, List.filter_nil, if_pos rfl]
  | false => rw [List.filter_cons_of_neg (by rw [h]; exact Bool.false_ne_true), List.filter_nil, if_neg Bool.false_ne_true]
theorem long_le (f o : Ord Str) : (long f o).length ≤ many f o := by
  obtain ⟨h1, h2, h3⟩ := longI_facts f o
  have q := nodup_le (longI f o) (List.range (many f o)) (h3.imp fun h => Nat.ne_of_lt h) fun x hx => List.mem_range.mpr (h2 x hx)
  rw [List.length_range] at q
  rw [long_len, ← h1]
  exact q
theorem same_non {H H2 : Hp} {p : Addr} (s : Same H H2) (h : H2 p = none) : H p = Option.none := by
  cases e : H p with
  | none => rfl
  | some o => rw [s _ _ e] at h; cases h
theorem rgV_nat (n : Nat) : rgV 0 (n : Nat) = nV (List.range n) := by
  unfold rgV nV
  have e : ((n : Nat) : Int) - 0 = n := by omega
  rw [e, Int.toNat_natCast]
  exact List.map_congr_left fun i _ => congrArg V.int (by omega)
theorem nV_iV (l : List Nat) : nV l = iV (l.map fun n => ((n : Nat) : Int)) := by
  unfold nV iV
  rw [List.map_map]
  rfl
section
variable {P : Program} {w : World} {K : PySem.W.Frag} {mg : Str → Option Value} {base : Heap} {CP CW CN SD : Addr}
def spLens (CP : Addr) : Sp := fun vs H Q _ => ∃ (x : Addr) (f o : Ord Str), vs = [.ref x] ∧ PairsA CP H x f o ∧ WO o ∧ ∀ p H2, Same H H2 → H p = none → H2 p = some (.lst (iV (lens (lk f o) (many f o)))) → Q (.ref p) H2
abbrev N_Pairs_lengths : List Str := ["self", "found", "i", "_", "j"]
theorem sc_Pairs_lengths : FnScope N_Pairs_lengths ["self"] (defScope s_Pairs_lengths) := ⟨rfl, rfl, rfl, by decide +kernel, rfl, by decide +kernel, by decide +kernel⟩
-- slots: 0 self, 1 found, 2 i, 3 _, 4 j
theorem k_Pairs_lengths (T : Txt K mg CP CW CN SD) : KpM P w K mg base CX0 1 CP "lengths" ["self"] (spLens CP) := by
  refine T.d_Pairs_lengths.ok sc_Pairs_lengths (fun vs H Q E h => ?_) (fun f cdv A outer s H vs Q E hr h => ?_)
  · obtain ⟨x, f, o, rfl, _⟩ := h
    rfl
  · obtain ⟨x, fo, o, rfl, ⟨dx, fs, v1, v2, d, l1, l2, l3, ys, hx, hf, hl⟩, wo, k⟩ := h
    have le := wo.le
    have hmany := own_le fo o
    refine ⟨_, (pss_cons (ps_set (i := 1) sc_Pairs_lengths.nd rfl (Or.inr rfl) (pe_lc (own := [("_", 3)]) rfl sc_Pairs_lengths.nd (pi_list (pe_fld (pv 0) rfl)) (blkOk_by (own := [("_", 3)]) (N := N_Pairs_lengths) (sc := defScope s_Pairs_lengths) (by decide +kernel)) (fun _ _ _ _ _ => (pg_name (i := 3) sc_Pairs_lengths.nd rfl (Or.inl rfl))) (fun _ _ _ _ _ => pts_nil) (fun _ _ _ _ _ => pe_int)))
      (pss_cons (ps_for PassesOwn.never rfl (pi_range3 rfl T.b_range (pa_cons (pe_op op_sub (pe_fld (pv 0) rfl) pe_int) (pa_cons (pe_un un_neg pe_int) (pa_cons (pe_un un_neg pe_int) pa_nil)))) (pg_name (i := 2) sc_Pairs_lengths.nd rfl (Or.inl rfl))
      (pss_one (ps_asg (pe_op op_add pe_int (pe_callB (cr_max rfl) rfl T.b_max (by decide +kernel) (pa_cons (pe_op op_cat (pe_lst (pa_cons pe_int pa_nil)) (pe_lc (own := [("j", 4)]) rfl sc_Pairs_lengths.nd (pi_list (pe_ix ix_list (pe_fld (pv 0) rfl) (pv 2) (fun _ _ => rfl))) (blkOk_by (own := [("j", 4)]) (N := N_Pairs_lengths) (sc := defScope s_Pairs_lengths) (by decide +kernel)) (fun _ _ _ _ _ => (pg_name (i := 4) sc_Pairs_lengths.nd rfl (Or.inl rfl))) (fun _ _ _ _ _ => pts_nil) (fun _ _ _ _ _ => (pe_ix (ix_listK K) (pv 1) (pv 4) (fun _ _ => rfl))))) pa_nil))) (pg_sub (pv 1) (pv 2) set_list))))
      (pss_one (ps_ret (pv 1))))), ?_⟩
    refine ⟨_, rfl, x, CP, dx, fs, _, rfl, hx, T.cl_Pairs, T.n_Pairs_letters, hf.letters, l2, rfl, ⟨_, SqL.of hf.hl⟩, lcS (src_list (SqL.of hf.hl)) (fun _ v (n : Int) => v = V.int n) (fun _ _ _ _ _ r => r) (fun t => List.replicate t 1) rfl (by rw [List.length_map, lets_len]; omega) (fun i v H2 Kt Kf hi s2 hv kt kf => ⟨rfl, yes_ (te := tC (.int 1)) (kt _ H2 1 (Same.refl _) rfl List.replicate_succ')⟩) (fun D H2 zs hD s2 hy hp => ?_)⟩
    rw [List.length_map, lets_len] at hp
    have h0 : H2 D = some (.lst (iV (lenS (lk fo o) (many fo o) 0))) := by rw [hy, Paired.map_eq hp]; rfl
    have hx2 := s2 _ _ hx
    have en : (((many fo o : Nat) : Int) - 1 - (-1)).toNat = many fo o := by omega
    refine ⟨_, rfl, x, CP, dx, fs, _, rfl, hx2, T.cl_Pairs, T.n_Pairs_many, hl.many, _, _, rfl, rfl, 1, rfl, 1, rfl, _, _, _, _, rfl, RgC.neg (by omega) (by omega) (by omega) (by omega), for_rangeC (fun t σ H3 => ∃ w1, Same H H3 ∧ H3 D = some (.lst (iV (lenS (lk fo o) (many fo o) t))) ∧ σ = [some (.ref x), some (.ref D), w1, none, none]) ⟨none, s2, h0, rfl⟩ ?_ ?_⟩
    · rintro t σ H3 ht ⟨w1, s3, h3, rfl⟩
      have ht2 : t < many fo o := by omega
      have ev : ((many fo o : Nat) : Int) - 1 + (t : Nat) * (-1) = ((many fo o - 1 - t : Nat) : Nat) := by omega
      rw [ev]
      have hx3 := s3 _ _ hx
      have hl3 := hl.same s3
      obtain ⟨pj, e1, e2⟩ := hl3.link (i := many fo o - 1 - t) (by omega)
      have nD3 : pj ≠ D := fun z => by
        obtain ⟨pj2, f1, f2⟩ := hl.link (i := many fo o - 1 - t) (by omega)
        rw [e1] at f1
        cases f1
        rw [z, hD] at f2
        cases f2
      refine ⟨(by show 1 ≤ sizeLine; decide), fun q0 hq0 => ?_⟩
      have s30 : Same H3 (upd H3 q0 (.lst [.int 0])) := Same.new hq0
      refine ⟨_, rfl, x, CP, dx, fs, _, rfl, s30 _ _ hx3, T.cl_Pairs, T.n_Pairs_links, hl.links, _, rfl, l3, _, _, _, rfl, rfl, SqL.of (s30 _ _ hl3.h3), atI_nat e1, pj, rfl, ⟨_, SqL.of (s30 _ _ e2)⟩, lcS (src_list (SqL.of (s30 _ _ e2))) (fun _ v (n : Int) => v = V.int n) (fun _ _ _ _ _ r => r) (fun i => ((lk fo o (many fo o - 1 - t)).take i).map fun j => (lenS (lk fo o) (many fo o) t).getD j 0) rfl (by rw [nV_len]; have := lk_len fo o (many fo o - 1 - t); omega) (fun i v H4 Kt Kf hi s4 hv kt kf => ?_) (fun L H4 zs2 hL s4 hy4 hp4 => ?_)⟩
      · obtain ⟨j, rfl, hj⟩ := nV_inv hv
        have hjl := (lk_mem (List.mem_of_getElem? hj)).2
        refine ⟨rfl, yes_ ?_⟩
        refine ⟨_, rfl, _, rfl, D, _, _, _, rfl, rfl, SqL.of (s4 _ _ (s30 _ _ h3)), atI_nat (iV_getD (by rw [lenS_len]; exact hjl)), kt _ H4 _ (Same.refl _) rfl ?_⟩
        rw [take_get hj, List.map_append]
        rfl
      · rw [nV_len, List.take_length] at hp4
        have e4 : H4 L = some (.lst (iV ((lk fo o (many fo o - 1 - t)).map fun j => (lenS (lk fo o) (many fo o) t).getD j 0))) := by rw [hy4, Paired.map_eq hp4]; rfl
        have hq4 : H4 q0 = some (.lst [.int 0]) := s4 _ _ upd_same
        have hll := lk_len fo o (many fo o - 1 - t)
        refine ⟨q0, L, _, _, rfl, rfl, hq4, e4, small (by rw [iV_len, List.length_map]; show 1 + _ ≤ _; omega), fun q1 hq1 => ?_⟩
        refine ⟨q1, 0 :: ((lk fo o (many fo o - 1 - t)).map fun j => (lenS (lk fo o) (many fo o) t).getD j 0), rfl, SqL.of upd_same, Nat.succ_pos _, fun m hm hle => ?_⟩
        obtain rfl := mx0_eq hm hle
        have s14 : Same H3 (upd H4 q1 (.lst ([.int 0] ++ iV ((lk fo o (many fo o - 1 - t)).map fun j => (lenS (lk fo o) (many fo o) t).getD j 0)))) := (s30.trans s4).trans (Same.new hq1)
        refine ⟨_, _, rfl, rfl, _, rfl, _, rfl, D, _, _, _, rfl, rfl, s14 _ _ h3, Evl.ixN_nat (by rw [iV_len, lenS_len]; omega), ?_⟩
        refine ⟨_, Same.mut (s3.trans s14) hD, ?_, rfl⟩
        rw [upd_same, iV_set]
        rfl
    · rintro σ H3 ⟨w1, s3, h3, rfl⟩
      rw [en] at h3
      exact ⟨_, rfl, k D H3 s3 hD h3⟩
/-! ### levels -/
def spLevs (CP : Addr) : Sp := fun vs H Q _ => ∃ (x : Addr) (f o : Ord Str), vs = [.ref x] ∧ PairsA CP H x f o ∧ WO o ∧ ∀ p H2, Same H H2 → H p = none → H2 p = some (.lst (iV (lvT (lk f o) (many f o) (many f o)))) → Q (.ref p) H2
abbrev N_Pairs_levels : List Str := ["self", "found", "i", "j", "_"]
theorem sc_Pairs_levels : FnScope N_Pairs_levels ["self"] (defScope s_Pairs_levels) := ⟨rfl, rfl, rfl, by decide +kernel, rfl, by decide +kernel, by decide +kernel⟩
-- slots: 0 self, 1 found, 2 i, 3 j, 4 _
theorem k_Pairs_levels (T : Txt K mg CP CW CN SD) : KpM P w K mg base CX0 1 CP "levels" ["self"] (spLevs CP) := by
  refine T.d_Pairs_levels.ok sc_Pairs_levels (fun vs H Q E h => ?_) (fun f cdv A outer s H vs Q E hr h => ?_)
  · obtain ⟨x, f, o, rfl, _⟩ := h
    rfl
  · obtain ⟨x, fo, o, rfl, ⟨dx, fs, v1, v2, d, l1, l2, l3, ys, hx, hf, hl⟩, wo, k⟩ := h
    have le := wo.le
    have hmany := own_le fo o
    refine ⟨_, (pss_cons (ps_setLc (i := 1) (own := [("_", 4)]) rfl sc_Pairs_levels.nd rfl rfl (sw_true rfl rfl rfl (by decide +kernel)) (pi_list (pe_fld (pv 0) rfl)) (blkOk_by (own := [("_", 4)]) (N := N_Pairs_levels) (sc := defScope s_Pairs_levels) (by decide +kernel)) (fun _ _ _ _ _ => (pg_name (i := 4) sc_Pairs_levels.nd rfl (Or.inl rfl))) (fun _ _ _ _ _ => pts_nil) (fun _ _ _ _ _ => pe_int))
      (pss_cons (ps_for PassesOwn.never rfl (pi_range1 rfl T.b_range (pa_cons (pe_fld (pv 0) rfl) pa_nil)) (pg_name (i := 2) sc_Pairs_levels.nd rfl (Or.inl rfl))
      (pss_one (ps_for PassesOwn.never rfl (pi_list (pe_ix ix_list (pe_fld (pv 0) rfl) (pv 2) (fun _ _ => rfl))) (pg_name (i := 3) sc_Pairs_levels.nd rfl (Or.inl rfl))
      (pss_one (ps_asg (pe_callB (call_max2 rfl) rfl T.b_max (by decide +kernel) (pa_cons (pe_ix ix_list (pv 1) (pv 3) (fun _ _ => rfl)) (pa_cons (pe_op op_add (pe_ix ix_list (pv 1) (pv 2) (fun _ _ => rfl)) pe_int) pa_nil))) (pg_sub (pv 1) (pv 3) set_list))))))
      (pss_one (ps_ret (pv 1))))), ?_⟩
    refine ⟨_, rfl, x, CP, dx, fs, _, rfl, hx, T.cl_Pairs, T.n_Pairs_letters, hf.letters, l2, rfl, ⟨_, SqL.of hf.hl⟩, lcS (src_list (SqL.of hf.hl)) (fun _ v (n : Int) => v = V.int n) (fun _ _ _ _ _ r => r) (fun t => List.replicate t 1) rfl (by rw [List.length_map, lets_len]; omega) (fun i v H2 Kt Kf hi s2 hv kt kf => ⟨rfl, yes_ (te := tC (.int 1)) (kt _ H2 1 (Same.refl _) rfl List.replicate_succ')⟩) (fun D H2 zs hD s2 hy hp => ?_)⟩
    rw [List.length_map, lets_len] at hp
    have h0 : H2 D = some (.lst (iV (lvT (lk fo o) (many fo o) 0))) := by rw [hy, Paired.map_eq hp]; rfl
    have hx2 := s2 _ _ hx
    have en : ((many fo o : Nat) : Int).toNat = many fo o := Int.toNat_natCast _
    refine ⟨_, rfl, x, CP, dx, fs, _, rfl, hx2, T.cl_Pairs, T.n_Pairs_many, hl.many, _, rfl, by omega, by omega, for_range (fun t σ H3 => ∃ w1 w2, Same H H3 ∧ H3 D = some (.lst (iV (lvT (lk fo o) (many fo o) t))) ∧ σ = [some (.ref x), some (.ref D), w1, w2, none]) ⟨none, none, s2, h0, rfl⟩ ?_ ?_⟩
    · rintro t σ H3 ht ⟨w1, w2, s3, h3, rfl⟩
      rw [en] at ht
      have ev : (0 : Int) + (t : Nat) = ((t : Nat) : Nat) := by omega
      rw [ev]
      have hx3 := s3 _ _ hx
      have hl3 := hl.same s3
      obtain ⟨pj, e1, e2⟩ := hl3.link ht
      have hpj : H pj = some (.lst (nV (lk fo o t))) := by
        obtain ⟨pj2, f1, f2⟩ := hl.link ht
        rw [e1] at f1
        cases f1
        exact f2
      refine ⟨_, rfl, x, CP, dx, fs, _, rfl, hx3, T.cl_Pairs, T.n_Pairs_links, hl.links, _, rfl, l3, _, _, _, rfl, rfl, SqL.of hl3.h3, atI_nat e1, pj, rfl, ⟨_, SqL.of e2⟩, for_list (xs := nV (lk fo o t)) (fun i σ H4 => ∃ w2, Same H H4 ∧ H4 D = some (.lst (iV (lvIn t (lvT (lk fo o) (many fo o) t) ((lk fo o t).take i)))) ∧ σ = [some (.ref x), some (.ref D), some (.int (t : Nat)), w2, none]) ⟨w2, s3, h3, rfl⟩ (fun i σ H4 hi h => ?_) ?_ ?_⟩
      · obtain ⟨_, s4, _⟩ := h
        exact SqL.of (s4 _ _ hpj)
      · rintro i v σ H4 hv ⟨w2, s4, h4, rfl⟩
        obtain ⟨j, rfl, hj⟩ := nV_inv hv
        have hjl := (lk_mem (List.mem_of_getElem? hj)).2
        have hlen : (lvIn t (lvT (lk fo o) (many fo o) t) ((lk fo o t).take i)).length = many fo o := by rw [lvIn_len, lvT_len]
        refine ⟨_, rfl, _, rfl, D, _, _, _, rfl, rfl, SqL.of h4, atI_nat (iV_getD (by rw [hlen]; exact hjl)), _, rfl, _, rfl, D, _, _, _, rfl, rfl, SqL.of h4, atI_nat (iV_getD (by rw [hlen]; exact ht)), _, _, rfl, rfl, _, _, rfl, ?_⟩
        refine ⟨_, rfl, _, rfl, D, _, _, _, rfl, rfl, h4, Evl.ixN_nat (by rw [iV_len, hlen]; exact hjl), _, Same.mut s4 hD, ?_, rfl⟩
        rw [upd_same, iV_set, take_get hj, lvIn_snoc]
      · rintro σ H4 ⟨w2, s4, h4, rfl⟩
        rw [nV_len, List.take_length] at h4
        exact ⟨_, _, s4, h4, rfl⟩
    · rintro σ H3 ⟨w1, w2, s3, h3, rfl⟩
      rw [en] at h3
      exact ⟨_, rfl, k D H3 s3 hD h3⟩
/-! ### the longest -/
def spLongIn (CP : Addr) : Sp := fun vs H Q _ => ∃ (x : Addr) (f o : Ord Str), vs = [.ref x] ∧ PairsA CP H x f o ∧ WO o ∧ ∀ v H2, Same H H2 → StrsA H2 v (long f o) → Q v H2
abbrev N_longest_in : List Str := ["pairs", "lengths", "found", "left", "choices", "i", "one"]
theorem sc_longest_in : FnScope N_longest_in ["pairs"] (defScope s_longest_in) := ⟨rfl, rfl, rfl, by decide +kernel, rfl, by decide +kernel, by decide +kernel⟩
-- slots: 0 pairs, 1 lengths, 2 found, 3 left, 4 choices, 5 i, 6 one
theorem k_longest_in (T : Txt K mg CP CW CN SD) : Kp P w K mg base CX0 2 "longest_in" ["pairs"] (spLongIn CP) := by
  refine T.d_longest_in.ok sc_longest_in (fun vs H Q E h => ?_) (fun f cdv A outer s H vs Q E hr h => ?_)
  · obtain ⟨x, f, o, rfl, _⟩ := h
    rfl
  · obtain ⟨x, fo, o, rfl, hpa, wo, k⟩ := h
    have hpa2 := hpa
    obtain ⟨dx, fs, v1, v2, d, l1, l2, l3, ys, hx, hf, hl⟩ := hpa
    have le := wo.le
    have hmany := own_le fo o
    refine ⟨_, (pss_cons (ps_set (i := 1) sc_longest_in.nd rfl (Or.inr rfl) (pe_mg0 (k_Pairs_lengths T) T.cl_Pairs (hr.mono (by decide)) pass0 (pv 0)))
      (pss_cons (ps_set (i := 2) sc_longest_in.nd rfl (Or.inl rfl) (pe_lst pa_nil))
      (pss_cons (ps_set (i := 3) sc_longest_in.nd rfl (Or.inr rfl) (pe_callB (cr_max rfl) rfl T.b_max (by decide +kernel) (pa_cons (pe_op op_cat (pe_lst (pa_cons pe_int pa_nil)) (pv 1)) pa_nil)))
      (pss_cons (ps_set (i := 4) sc_longest_in.nd rfl (Or.inl rfl) (pe_listRg rfl rfl T.b_list (prg_1 rfl T.b_range (pe_fld (pv 0) rfl))))
      (Evl.pss_cut (ps_while PassesOwn.never (pt_cmpR op_gt (pv 3) pe_int (nomark _)) (pss_cons (ps_set (i := 5) sc_longest_in.nd rfl (Or.inl rfl) (pe_callB (cr_min rfl) rfl T.b_min (by decide +kernel) (pa_cons (pe_lc (own := [("one", 6)]) rfl sc_longest_in.nd (pi_list (pv 4)) (blkOk_by (own := [("one", 6)]) (N := N_longest_in) (sc := defScope s_longest_in) (by decide +kernel)) (fun _ _ _ _ _ => (pg_name (i := 6) sc_longest_in.nd rfl (Or.inl rfl))) (fun _ _ _ _ _ => pts_one (pt_cmpR op_eq (pe_ix (ix_listK K) (pv 1) (pv 6) (fun _ _ => rfl)) (pv 3) (nomark _))) (fun _ _ _ _ _ => (pv 6))) pa_nil)))
      (pss_cons (ps_expr (pe_bm PySem.F.plainAttrs_list PySem.F.slot_list_append PySem.F.type_list_append mt_append (pv 2) (pa_cons (pe_ix ix_list (pe_fld (pv 0) rfl) (pv 5) (fun _ _ => rfl)) pa_nil)))
      (pss_cons (ps_set (i := 4) sc_longest_in.nd rfl (Or.inl rfl) (pe_ix ix_list (pe_fld (pv 0) rfl) (pv 5) (fun _ _ => rfl)))
      (pss_one (ps_aug (i := 3) sc_longest_in.nd rfl (Or.inr rfl) pe_int ip_sub))))))
      (pss_one (ps_ret (pe_callTy call_tupS rfl T.b_tuple (by decide +kernel) (pa_cons (pv 2) pa_nil))))))))), ?_⟩
    refine ⟨_, rfl, x, dx, fs, rfl, hx, hl.nolen, x, fo, o, rfl, hpa2, wo, fun pl H2 s2 hpl h2 => ?_⟩
    refine ⟨(by show 0 ≤ sizeLine; decide), fun pf hpf => ?_⟩
    have s2b : Same H2 (upd H2 pf (.lst [])) := Same.new hpf
    have nplf : pl ≠ pf := ne_of_none h2 hpf
    have hf0 : H pf = none := same_non s2 hpf
    refine ⟨(by show 1 ≤ sizeLine; decide), fun q0 hq0 => ⟨_, rfl, q0, pl, _, _, rfl, rfl, upd_same, Same.new hq0 _ _ (s2b _ _ h2), small (by rw [iV_len]; unfold lens; rw [lenS_len]; show 1 + _ ≤ _; omega), fun q1 hq1 => ⟨q1, 0 :: lens (lk fo o) (many fo o), rfl, SqL.of upd_same, Nat.succ_pos _, fun m hm hle => ?_⟩⟩⟩
    obtain rfl := mx0_eq hm hle
    rw [← topK_eq]
    have s23 : Same (upd H2 pf (.lst [])) (upd (upd (upd H2 pf (.lst [])) q0 (.lst [.int 0])) q1 (.lst ([.int 0] ++ iV (lens (lk fo o) (many fo o))))) := (Same.new hq0).trans (Same.new hq1)
    generalize upd (upd (upd H2 pf (.lst [])) q0 (.lst [.int 0])) q1 (.lst ([.int 0] ++ iV (lens (lk fo o) (many fo o)))) = H4 at s23 ⊢
    have s04 : Same H H4 := (s2.trans s2b).trans s23
    have hx4 := s04 _ _ hx
    refine ⟨_, rfl, x, CP, dx, fs, _, rfl, hx4, T.cl_Pairs, T.n_Pairs_many, hl.many, _, rfl, RgOk.of_le (by omega) (by omega) (by omega) (by omega), fun pc hpc => ?_⟩
    rw [rgV_nat]
    have hpf4 : H4 pf = some (.lst []) := s23 _ _ upd_same
    have hpl4 : H4 pl = _ := s23 _ _ (s2b _ _ h2)
    have npcf : pc ≠ pf := fun z => by rw [z, hpf4] at hpc; cases hpc
    refine ⟨fun σ H5 => ∃ w1 w2 w3, Same H H5 ∧ H5 pf = some (.lst ((long fo o).map V.str)) ∧ σ = [some (.ref x), some (.ref pl), some (.ref pf), w1, w2, w3, none], ?_, ?_⟩
    · refine ⟨fun m σ H5 => ∃ cs pc w5 acc, Same H H5 ∧ H5 pf = some (.lst (acc.map V.str)) ∧ H5 pl = some (.lst (iV (lens (lk fo o) (many fo o)))) ∧ pc ≠ pf ∧ H5 pc = some (.lst (nV cs)) ∧ cs.length ≤ 8 ∧ Go (lk fo o) (many fo o) m cs ∧ acc ++ (goL (lk fo o) (Lf (lk fo o) (many fo o)) m cs).filterMap ((lets fo o)[·]?) = long fo o ∧ acc.length + m ≤ topK (lk fo o) (many fo o) ∧ σ = [some (.ref x), some (.ref pl), some (.ref pf), some (.int (m : Nat)), some (.ref pc), w5, none],
        ⟨topK (lk fo o) (many fo o), List.range (many fo o), pc, none, [], s04.trans (Same.new hpc), Same.new hpc _ _ hpf4, Same.new hpc _ _ hpl4, npcf, upd_same, by rw [List.length_range]; omega, go_top _ _, rfl, by simp, rfl⟩, ?_⟩
      rintro m σ H5 ⟨cs, pc, w5, acc, s5, hpf5, hpl5, ncf, hpc5, hcl, hgo, hacc, htk, rfl⟩
      refine ⟨_, rfl, _, _, rfl, rfl, _, rfl, ?_⟩
      refine ite2 (fun e => ?_) (fun e => ?_)
      · have e2 : (0 : Int) < (m : Nat) := of_decide_eq_true e
        obtain ⟨k2, rfl⟩ : ∃ k2, m = k2 + 1 := ⟨m - 1, by omega⟩
        refine ⟨_, fun σ2 H3 q => q, _, rfl, pc, rfl, ⟨_, SqL.of hpc5⟩, lcS (src_list (SqL.of hpc5)) (fun _ v (n : Nat) => v = V.int (n : Nat)) (fun _ _ _ _ _ r => r) (fun t => (cs.take t).filter fun c => decide (Lf (lk fo o) (many fo o) c = ((k2 + 1 : Nat) : Int))) rfl (by rw [nV_len]; omega) (fun i v H6 Kt Kf hi s6 hv kt kf => ?_) (fun D H6 zs hD s6 hy hp => ?_)⟩
        · obtain ⟨c, rfl, hc⟩ := nV_inv hv
          have hcm : c < many fo o := hgo.lt c (List.mem_of_getElem? hc)
          refine ⟨rfl, _, rfl, _, rfl, pl, _, _, _, rfl, rfl, SqL.of (s6 _ _ hpl5), atI_nat (iV_getD (by unfold lens; rw [lenS_len]; exact hcm)), _, rfl, rfl, _, rfl, ?_⟩
          have acc2 : (cs.take (i + 1)).filter (fun c => decide (Lf (lk fo o) (many fo o) c = ((k2 + 1 : Nat) : Int))) = (cs.take i).filter (fun c => decide (Lf (lk fo o) (many fo o) c = ((k2 + 1 : Nat) : Int))) ++ (if decide (Lf (lk fo o) (many fo o) c = ((k2 + 1 : Nat) : Int)) = true then [c] else []) := by
            rw [take_get hc, List.filter_append, filt1]
          refine ite2 (fun e => ?_) (fun e => ?_)
          · have e3 : Lf (lk fo o) (many fo o) c = ((k2 + 1 : Nat) : Int) := V.int.inj (of_decide_eq_true e)
            rw [if_pos (decide_eq_true e3)] at acc2
            exact ⟨_, rfl, kt _ _ c (Same.refl _) rfl acc2⟩
          · have e3 : ¬ Lf (lk fo o) (many fo o) c = ((k2 + 1 : Nat) : Int) := fun z => e (decide_eq_true (congrArg V.int z))
            rw [if_neg (fun z => e3 (of_decide_eq_true z)), List.append_nil] at acc2
            exact kf _ (Same.refl _) acc2
        · rw [nV_len, List.take_length] at hp
          have hy2 := hy
          rw [nV_of hp, nV_iV] at hy2
          obtain ⟨c0, hc0, hl0⟩ := hgo.pick
          have hpos : c0 ∈ cs.filter fun c => decide (Lf (lk fo o) (many fo o) c = ((k2 + 1 : Nat) : Int)) := List.mem_filter.mpr ⟨hc0, decide_eq_true hl0⟩
          refine ⟨D, _, rfl, SqL.of hy2, by rw [List.length_map]; exact List.length_pos_of_mem hpos, fun mm hm hle => ?_⟩
          obtain ⟨i, hi, rfl⟩ := List.mem_map.mp hm
          obtain ⟨hi1, hi2⟩ := List.mem_filter.mp hi
          have hi3 : Lf (lk fo o) (many fo o) i = ((k2 + 1 : Nat) : Int) := of_decide_eq_true hi2
          have him := hgo.lt i hi1
          have gs := go_step (L := Lf (lk fo o) (many fo o)) (g := lk fo o) hi1 hi3 fun c hc hlc => by
            have := hle c (List.mem_map.mpr ⟨c, List.mem_filter.mpr ⟨hc, decide_eq_true hlc⟩, rfl⟩)
            omega
          obtain ⟨a, y, ea, ey, _⟩ := own_at (f := fo) (o := o) him
          have s06 := s5.trans s6
          have hpf6 : H6 pf = _ := s6 _ _ hpf5
          refine ⟨_, rfl, .inl ⟨rfl, _, SqL.of hpf6⟩, ?_⟩
          have hx6 := s06 _ _ hx
          have hf6 := hf.same s06
          have hl6 := hl.same s06
          have hgl : acc.length < topK (lk fo o) (many fo o) := by omega
          have hll := long_le fo o
          rw [long_len] at hll
          refine ⟨_, rfl, x, CP, dx, fs, _, rfl, hx6, T.cl_Pairs, T.n_Pairs_letters, hf.letters, _, rfl, l2, _, _, _, rfl, rfl, SqL.of hf6.hl, atI_nat (tget ey), pf, _, _, rfl, rfl, hpf6, small' (by rw [List.length_map]; omega), ?_⟩
          have sx : ∀ b ob, H b = some ob → upd H6 pf (.lst (acc.map V.str ++ [V.str y])) b = some ob := Same.mut s06 hf0
          obtain ⟨pj, e5, e6⟩ := hl.link him
          refine ⟨_, rfl, x, CP, dx, fs, _, rfl, sx _ _ hx, T.cl_Pairs, T.n_Pairs_links, hl.links, _, rfl, l3, _, _, _, rfl, rfl, SqL.of (sx _ _ hl.h3), atI_nat e5, ?_⟩
          refine ⟨_, rfl, _, _, rfl, rfl, k2, by omega, lk fo o i, pj, some (.int (i : Nat)), acc ++ [y], sx, ?_, ?_, ?_, sx _ _ e6, ?_, hgo.next (fun i j h => lk_mem h) hi1 hi3, ?_, ?_, ?_⟩
          · rw [upd_same, List.map_append]
            rfl
          · rw [upd_ne nplf]
            exact s6 _ _ hpl5
          · exact fun z => by rw [z, hf0] at e6; cases e6
          · have := lk_len fo o i
            omega
          · rw [gs, List.filterMap_cons_some ey] at hacc
            rw [List.append_assoc]
            exact hacc
          · rw [List.length_append, List.length_singleton]
            omega
          · have ev : ((k2 + 1 : Nat) : Int) - 1 = ((k2 : Nat) : Int) := by omega
            show [some (V.ref x), some (V.ref pl), some (V.ref pf), some (V.int (((k2 + 1 : Nat) : Int) - 1)), some (V.ref pj), some (V.int (i : Nat)), none] = _
            rw [ev]
      · have e2 : m = 0 := by
          have : ¬ (0 : Int) < (m : Nat) := fun z => e (decide_eq_true z)
          omega
        subst e2
        refine ⟨_, _, _, s5, ?_, rfl⟩
        have hacc2 : acc = long fo o := by
          rw [← hacc]
          simp [goL]
        rw [← hacc2]
        exact hpf5
    · rintro σ H5 ⟨w1, w2, w3, s5, h5, rfl⟩
      exact ⟨_, rfl, pf, _, rfl, SqL.of h5, fun l H6 s6 h6 => k _ H6 (s5.trans s6) ⟨l, rfl, h6⟩⟩
/-! ### the same of two orders -/
theorem made_same {H H2 : Hp} {x dx C : Addr} (hx : H x = none) (hdx : H dx = none) (b : But x (upd (upd H dx (.own x)) x (.ins C dx [])) H2) : Same H H2 := fun a o e => b a o (ne_of_none e hx) (by
  rw [upd_ne (ne_of_none e hx), upd_ne (ne_of_none e hdx)]
  exact e)
theorem made_tm {H : Hp} {x dx C : Addr} (hx : H x = none) (hdx : H dx = none) : TM H (upd (upd H dx (.own x)) x (.ins C dx [])) := fun a o xs e => by
  rw [upd_ne (ne_of_none e hx), upd_ne (ne_of_none e hdx)]
  exact e
def spLong : Sp := fun vs H Q _ => ∃ (v1 v2 : V) (f o : Ord Str), vs = [v1, v2] ∧ OrdA H v1 f ∧ OrdA H v2 o ∧ WO f ∧ WO o ∧ ∀ v H2, Same H H2 → StrsA H2 v (long f o) → Q v H2
abbrev N_longest_of : List Str := ["first", "second"]
theorem sc_longest_of : FnScope N_longest_of ["first", "second"] (defScope s_longest_of) := ⟨rfl, rfl, rfl, by decide +kernel, rfl, by decide +kernel, by decide +kernel⟩
-- slots: 0 first, 1 second
theorem k_longest_of (T : Txt K mg CP CW CN SD) : Kp P w K mg base CX0 5 "longest_of" ["first", "second"] spLong := by
  refine T.d_longest_of.ok sc_longest_of (fun vs H Q E h => ?_) (fun f cdv A outer s H vs Q E hr h => ?_)
  · obtain ⟨v1, v2, f, o, rfl, _⟩ := h
    rfl
  · obtain ⟨v1, v2, fo, o, rfl, h1, h2, wf, wo, k⟩ := h
    refine ⟨_, (pss_one (ps_ret (pe_g (k_longest_in T) (hr.mono (by decide)) pass0 (pa_cons (pe_ig (k_Pairs_init T) (hr.mono (by decide)) T.g_Pairs pass0 (pa_cons (pv 0) (pa_cons (pv 1) pa_nil))) pa_nil)))), ?_⟩
    refine ⟨_, rfl, _, rfl, fun x dx hx hdx hne => ⟨x, dx, v1, v2, fo, o, rfl, upd_same, h1.tm (made_tm hx hdx), h2.tm (made_tm hx hdx), wf, wo, fun H2 b2 hp => ⟨rfl, ?_⟩⟩⟩
    have s2 := made_same hx hdx b2
    exact ⟨x, fo, o, rfl, hp, wo, fun v H3 s3 h3 => k v H3 (s2.trans s3) h3⟩
def spLevOf : Sp := fun vs H Q _ => ∃ (v1 v2 : V) (f o : Ord Str), vs = [v1, v2] ∧ OrdA H v1 f ∧ OrdA H v2 o ∧ WO f ∧ WO o ∧ ∀ v H2, Same H H2 → IntsA H2 v (levs f o) → Q v H2
abbrev N_levels_of : List Str := ["first", "second", "pairs", "found", "at", "level", "_"]
theorem sc_levels_of : FnScope N_levels_of ["first", "second"] (defScope s_levels_of) := ⟨rfl, rfl, rfl, by decide +kernel, rfl, by decide +kernel, by decide +kernel⟩
-- slots: 0 first, 1 second, 2 pairs, 3 found, 4 at, 5 level, 6 _
theorem k_levels_of (T : Txt K mg CP CW CN SD) : Kp P w K mg base CX0 5 "levels_of" ["first", "second"] spLevOf := by
  refine T.d_levels_of.ok sc_levels_of (fun vs H Q E h => ?_) (fun f cdv A outer s H vs Q E hr h => ?_)
  · obtain ⟨v1, v2, f, o, rfl, _⟩ := h
    rfl
  · obtain ⟨v1, v2, fo, o, rfl, h1, ⟨a, b, c, rfl, ha, hb, hc⟩, wf, wo, k⟩ := h
    have le := wo.le
    have hmany := own_le fo o
    refine ⟨_, (pss_cons (ps_set (i := 2) sc_levels_of.nd rfl (Or.inl rfl) (pe_ig (k_Pairs_init T) (hr.mono (by decide)) T.g_Pairs pass0 (pa_cons (pv 0) (pa_cons (pv 1) pa_nil))))
      (pss_cons (ps_setLc (i := 3) (own := [("_", 6)]) rfl sc_levels_of.nd rfl rfl (sw_true rfl rfl rfl (by decide +kernel)) (pi_tup (pe_ix ix_tup (pv 1) pe_int (fun _ _ => rfl))) (blkOk_by (own := [("_", 6)]) (N := N_levels_of) (sc := defScope s_levels_of) (by decide +kernel)) (fun _ _ _ _ _ => (pg_name (i := 6) sc_levels_of.nd rfl (Or.inl rfl))) (fun _ _ _ _ _ => pts_nil) (fun _ _ _ _ _ => pe_int))
      (pss_cons (ps_for PassesOwn.never rfl (pi_zip rfl T.b_zip (pa_cons (pe_fld (pv 2) rfl) (pa_cons (pe_mg0 (k_Pairs_levels T) T.cl_Pairs (hr.mono (by decide)) pass0 (pv 2)) pa_nil))) (pg_tup rfl (pgs_cons (pg_name (i := 4) sc_levels_of.nd rfl (Or.inl rfl)) (pgs_cons (pg_name (i := 5) sc_levels_of.nd rfl (Or.inl rfl)) pgs_nil)))
      (pss_one (ps_asg (pv 5) (pg_sub (pv 3) (pv 4) set_list))))
      (pss_one (ps_ret (pe_callTy call_tupS rfl T.b_tuple (by decide +kernel) (pa_cons (pv 3) pa_nil))))))), ?_⟩
    refine ⟨_, rfl, _, rfl, fun x dx hx hdx hne => ⟨x, dx, v1, .ref a, fo, o, rfl, upd_same, h1.tm (made_tm hx hdx), OrdA.tm (made_tm hx hdx) ⟨a, b, c, rfl, ha, hb, hc⟩, wf, wo, fun H2 b2 hp => ⟨rfl, ?_⟩⟩⟩
    have s2 := made_same hx hdx b2
    have hp2 := hp
    obtain ⟨dx2, fs, u1, u2, d, l1, l2, l3, ys, hx2, hf, hl⟩ := hp2
    have ha2 := ha.same s2
    have hb2 := hb.same s2
    refine ⟨_, rfl, a, _, 0, _, rfl, rfl, ha2.sq, atI_nat (j := 0) rfl, b, rfl, ⟨_, hb2.sq⟩, lcS (src_tup hb2.sq) (fun _ v (n : Int) => v = V.int n) (fun _ _ _ _ _ r => r) (fun t => List.replicate t 0) rfl (by rw [List.length_map]; omega) (fun i v H3 Kt Kf hi s3 hv kt kf => ⟨rfl, yes_ (te := tC (.int 0)) (kt _ H3 0 (Same.refl _) rfl List.replicate_succ')⟩) (fun D H3 zs hD s3 hy hp3 => ?_)⟩
    rw [List.length_map] at hp3
    have h0 : H3 D = some (.lst (iV (levT fo o 0))) := by rw [hy, Paired.map_eq hp3]; rfl
    have hx3 := s3 _ _ hx2
    have hf3 := hf.same s3
    refine ⟨_, rfl, x, CP, dx2, fs, _, rfl, hx3, T.cl_Pairs, T.n_Pairs_own, hf.own, _, rfl, x, dx2, fs, rfl, hx3, hl.nolev, x, fo, o, rfl, hp.same s3, wo, fun pl H4 s4 hpl h4 => ?_⟩
    have hD0 : H D = none := same_non s2 hD
    have s04 : Same H H4 := (s2.trans s3).trans s4
    have hpl0 : H2 l1 = _ := hf.ho
    have nl1 : l1 ≠ D := fun z => by rw [z, hD] at hpl0; cases hpl0
    have npl : pl ≠ D := fun z => by rw [z, h0] at hpl; cases hpl
    have hlen1 : (nV (own fo o)).length = many fo o := nV_len
    have hlen2 : (iV (lvT (lk fo o) (many fo o) (many fo o))).length = many fo o := by rw [iV_len, lvT_len]
    have h4o : H4 l1 = some (.lst (nV (own fo o))) := s4 _ _ hf3.ho
    refine ⟨l1, pl, _, _, rfl, SqL.of h4o, SqL.of h4, for_zip2 (n := many fo o) (xs := nV (own fo o)) (ys := iV (lvT (lk fo o) (many fo o) (many fo o))) (by omega) (fun t σ H5 => ∃ w4 w5, Same H H5 ∧ H5 D = some (.lst (iV (levT fo o t))) ∧ H5 l1 = some (.lst (nV (own fo o))) ∧ H5 pl = some (.lst (iV (lvT (lk fo o) (many fo o) (many fo o)))) ∧ σ = [some v1, some (.ref a), some (.ref x), some (.ref D), w4, w5, none]) ⟨none, none, s04, s4 _ _ h0, h4o, h4, ?_⟩ (fun i σ H5 h => ?_) ?_ ?_⟩
    · rfl
    · obtain ⟨_, _, _, _, h5, h6, _⟩ := h
      exact ⟨SqL.of h5, SqL.of h6⟩
    · rintro t y z T5 σ H5 hy5 hz5 ⟨w4, w5, s5, h5, h6, h7, rfl⟩ hT5
      obtain ⟨j, rfl, hj⟩ := nV_inv hy5
      have ht : t < many fo o := (List.getElem?_eq_some_iff.mp hj).1
      have hjl := own_lt (List.mem_of_getElem? hj)
      rw [iV_getD (by rw [lvT_len]; exact ht)] at hz5
      cases hz5
      have s56 : Same H5 (upd H5 T5 (.tup [.int (j : Nat), .int ((lvT (lk fo o) (many fo o) (many fo o)).getD t 0)])) := Same.new hT5
      refine ⟨T5, _, rfl, SqT.of upd_same, rfl, _, _, rfl, _, _, rfl, rfl, ?_⟩
      refine ⟨_, rfl, _, rfl, _, rfl, D, _, _, _, rfl, rfl, s56 _ _ h5, Evl.ixN_nat (by rw [iV_len, levT_len]; exact hjl), _, _, Same.mut (s5.trans s56) hD0, ?_, ?_, ?_, rfl⟩
      · rw [upd_same, iV_set, levT]
        have e : (own fo o).getD t 0 = j := by rw [List.getD_eq_getElem?_getD, hj]; rfl
        rw [e]
      · rw [upd_ne nl1]
        exact s56 _ _ h6
      · rw [upd_ne npl]
        exact s56 _ _ h7
    · rintro σ H5 ⟨w4, w5, s5, h5, _, _, rfl⟩
      exact ⟨_, rfl, D, _, rfl, SqL.of h5, fun l H6 s6 h6 => k _ H6 (s5.trans s6) ⟨l, rfl, h6⟩⟩
end
end Fw

set_option maxHeartbeats 4000000
/-! FwD7: keeping.py, fewest.py -/
namespace Fw
open PySem PySem.Spec PySem.W PyProof.Rows L2
theorem src_rangeC (lo c : Int) (n : Nat) (H1 : Hp) : Src (Itc lo c n) H1 n (fun i x _ => x = .int (lo + (i : Nat) * c)) where
  go := fun i H hi _ => hi
  yld := fun i H x H2 hi s y => by
    obtain ⟨rfl, rfl⟩ := y
    exact ⟨Same.refl _, rfl⟩
  stop := fun H _ => Nat.le_refl n
section
variable {X : Cx}
def rIdxT : V → List V → Hp → VK → Prop := fun x vs H Q => ∃ (p : Addr) (ys : List Str) (z : Str), x = .ref p ∧ vs = [.str z] ∧ Tp H p (ys.map V.str) ∧ z ∈ ys ∧ Q (.int (ys.idxOf z : Nat)) H
theorem mt_tup_indexT : MtR X "tuple.index" rIdxT := by
  intro pins s σ H x vs v us Q I rx rs h
  obtain ⟨p, ys, z, rfl, rfl, hp, hm, q⟩ := h
  exact mt_tup_index pins s σ H _ _ v us Q I rx rs ⟨p, ys, z, ys.idxOf z, rfl, rfl, hp.sq, idx_get hm, fun m hm => idx_no hm, q⟩
end
/-- a list of rules -/
def RLs (H : Hp) (p : Addr) (rs : List (Rul Str)) : Prop := ∃ xs, H p = some (.lst xs) ∧ Paired (RulA H) xs rs
theorem RLs.same {H H2 : Hp} {p : Addr} {rs : List (Rul Str)} (s : Same H H2) (h : RLs H p rs) : RLs H2 p rs := by
  obtain ⟨xs, h, q⟩ := h
  exact ⟨xs, s _ _ h, Paired.mapP q fun _ _ r => r.tm (TM.of s)⟩
theorem fmap_step {β γ : Type} {g : β → Option γ} {l : List β} {b : β} {x : γ} (h : g b = some x) : (l ++ [b]).filterMap g = l.filterMap g ++ [x] := by
  rw [List.filterMap_append, List.filterMap_cons_some h, List.filterMap_nil]
section
variable {P : Program} {w : World} {K : PySem.W.Frag} {mg : Str → Option Value} {base : Heap} {CP CW CN SD : Addr}
def spReach : Sp := fun vs H Q _ => ∃ (v1 v2 : V) (f o : Ord Str), vs = [v1, v2] ∧ OrdA H v1 f ∧ OrdA H v2 o ∧ WO f ∧ f.ls ≠ [] ∧ (∀ x ∈ f.ls, x ∈ o.ls) ∧ Yes H Q
abbrev N_reaches : List Str := ["first", "second", "letter"]
theorem sc_reaches : FnScope N_reaches ["first", "second"] (defScope s_reaches) := ⟨rfl, rfl, rfl, by decide +kernel, rfl, by decide +kernel, by decide +kernel⟩
-- slots: 0 first, 1 second, 2 letter
theorem k_reaches (T : Txt K mg CP CW CN SD) : Kp P w K mg base CX0 1 "reaches" ["first", "second"] spReach := by
  refine T.d_reaches.ok sc_reaches (fun vs H Q E h => ?_) (fun f cdv A outer s H vs Q E hr h => ?_)
  · obtain ⟨v1, v2, f, o, rfl, _⟩ := h
    rfl
  · obtain ⟨v1, v2, fo, o, rfl, ⟨a, b, c, rfl, ha, hb, hc⟩, ⟨d, e, g, rfl, hd, he, hg⟩, wf, hn, hs, k⟩ := h
    have le := wf.le
    have hpos : 0 < (fo.ls.map V.str).length := by rw [List.length_map]; exact List.length_pos_iff.mpr hn
    refine ⟨_, (pss_cons (ps_if (pt_not (pt_truth (pe_ix ix_tup (pv 0) pe_int (fun _ _ => rfl)) (by intro _; rfl))) pss_never pss_nil)
      (pss_one (ps_ret (pe_callB (cr_all rfl) rfl T.b_all (by decide +kernel) (pa_cons (pe_lc (own := [("letter", 2)]) rfl sc_reaches.nd (pi_tup (pe_ix ix_tup (pv 0) pe_int (fun _ _ => rfl))) (blkOk_by (own := [("letter", 2)]) (N := N_reaches) (sc := defScope s_reaches) (by decide +kernel)) (fun _ _ _ _ _ => (pg_name (i := 2) sc_reaches.nd rfl (Or.inl rfl))) (fun _ _ _ _ _ => pts_nil) (fun _ _ _ _ _ => (pe_cmpR (op_inSK K) (pv 2) (pe_ix (ix_tupK K) (pv 1) pe_int (fun _ _ => rfl)) (by rfl)))) pa_nil))))), ?_⟩
    refine ⟨_, rfl, a, _, 0, _, rfl, rfl, ha.sq, atI_nat (j := 0) rfl, true, .inr (.inl ⟨_, hb.sq, by rw [List.isEmpty_eq_false_iff.mpr (List.length_pos_iff.mp hpos)]; rfl⟩), iteF ?_⟩
    refine ⟨_, rfl, a, _, 0, _, rfl, rfl, ha.sq, atI_nat (j := 0) rfl, b, rfl, ⟨_, hb.sq⟩, lcAll (src_tup hb.sq) (by rw [List.length_map]; omega) (fun i v H2 Kt hi s2 hv kt => ?_) (fun D H2 s2 hD => ?_)⟩
    · rw [List.getElem?_map] at hv
      cases q : fo.ls[i]? with
      | none => rw [q] at hv; cases hv
      | some y =>
        rw [q] at hv
        cases hv
        have hm := hs y (List.mem_of_getElem? q)
        refine ⟨rfl, _, rfl, _, rfl, d, _, 0, _, rfl, rfl, (hd.same s2).sq, atI_nat (j := 0) rfl, e, _, _, rfl, rfl, (he.same s2).sq, ?_⟩
        have q2 := kt H2 (Same.refl _)
        rw [← decide_eq_true hm] at q2
        exact q2
    · refine ⟨D, _, rfl, SqL.of hD, ?_⟩
      rw [all_true]
      exact k _ s2
def spFromL : Sp := fun vs H Q _ => ∃ (v : V) (o : Ord Str) (a b : Nat), vs = [v, .int (a : Nat), .int (b : Nat)] ∧ OrdA H v o ∧ WO o ∧ 1 ≤ a ∧ a ≤ o.ls.length ∧ b ≤ o.ls.length ∧ ∀ p H2, Same H H2 → H p = none → RLs H2 p (fromL o a b) → Q (.ref p) H2
abbrev N_from_left : List Str := ["second", "low", "high", "letters", "strengths", "at"]
theorem sc_from_left : FnScope N_from_left ["second", "low", "high"] (defScope s_from_left) := ⟨rfl, rfl, rfl, by decide +kernel, rfl, by decide +kernel, by decide +kernel⟩
-- slots: 0 second, 1 low, 2 high, 3 letters, 4 strengths, 5 at
theorem k_from_left (T : Txt K mg CP CW CN SD) : Kp P w K mg base CX0 1 "from_left" ["second", "low", "high"] spFromL := by
  refine T.d_from_left.ok sc_from_left (fun vs H Q E h => ?_) (fun f cdv A outer s H vs Q E hr h => ?_)
  · obtain ⟨v, o, i, j, rfl, _⟩ := h
    rfl
  · obtain ⟨v, o, i, j, rfl, ⟨a, b, c, rfl, ha, hb, hc⟩, wo, h1, hal, h2, k⟩ := h
    have le := wo.le
    have hlen := wo.wf.len
    refine ⟨_, (pss_cons (ps_asg (pv 0) (pg_tup rfl (pgs_cons (pg_name (i := 3) sc_from_left.nd rfl (Or.inr rfl)) (pgs_cons (pg_name (i := 4) sc_from_left.nd rfl (Or.inr rfl)) pgs_nil))))
      (pss_one (ps_ret (pe_lc (own := [("at", 5)]) rfl sc_from_left.nd (pi_range2 rfl T.b_range (pa_cons (pv 1) (pa_cons (pv 2) pa_nil))) (blkOk_by (own := [("at", 5)]) (N := N_from_left) (sc := defScope s_from_left) (by decide +kernel)) (fun _ _ _ _ _ => (pg_name (i := 5) sc_from_left.nd rfl (Or.inl rfl))) (fun _ _ _ _ _ => pts_nil) (fun _ _ _ _ _ => (pe_tupS (pa_cons pe_str (pa_cons (pe_ix (ix_tupK K) (pv 3) (pe_op op_sub (pv 5) pe_int) (fun _ _ => rfl)) (pa_cons (pe_ix (ix_tupK K) (pv 4) (pe_op op_sub (pv 5) pe_int) (fun _ _ => rfl)) (pa_cons (pe_ix (ix_tupK K) (pv 3) (pv 5) (fun _ _ => rfl)) pa_nil)))))))))), ?_⟩
    refine ⟨_, rfl, a, _, rfl, ha.sq, rfl, _, _, rfl, _, _, rfl, rfl, ?_⟩
    have en : (((j : Nat) : Int) - (i : Nat)).toNat = j - i := by omega
    refine ⟨_, rfl, _, rfl, _, _, rfl, ⟨by omega, by omega, by omega, by omega⟩, lcS (src_range _ _ H) (fun H v r => RulA H v r) (fun H1 H2 v r s q => q.tm s) (fromLT o i) rfl (by omega) (fun t v H2 Kt Kf ht s2 hv kt kf => ?_) (fun D H2 ys hD s2 hy hp => ?_)⟩
    · have ht2 : i + t < o.ls.length := by omega
      have hq : i + t - 1 < o.ls.length := by omega
      have hs : i + t - 1 < o.ss.length := by omega
      obtain rfl : v = V.int ((i + t : Nat) : Nat) := hv.trans (congrArg V.int (by omega))
      have e1 := List.getElem?_eq_getElem hq
      have e2 := List.getElem?_eq_getElem hs
      have e3 := List.getElem?_eq_getElem ht2
      have er : rl o (i + t) = some ⟨true, o.ls[i + t - 1], o.ss[i + t - 1], o.ls[i + t]⟩ := by
        unfold rl
        rw [e1, e2, e3]
      have acc : fromLT o i (t + 1) = fromLT o i t ++ [⟨true, o.ls[i + t - 1], o.ss[i + t - 1], o.ls[i + t]⟩] := by
        unfold fromLT
        rw [List.range_succ]
        exact fmap_step er
      have hb2 := hb.same s2
      have hc2 := hc.same s2
      refine ⟨rfl, yes_ ?_⟩
      refine ⟨_, rfl, _, rfl, _, _, rfl, rfl, b, _, _, _, rfl, rfl, hb2.sq, at_nat (j := i + t - 1) (by omega) (tget e1), ?_⟩
      refine ⟨_, rfl, _, rfl, _, _, rfl, rfl, c, _, _, _, rfl, rfl, hc2.sq, at_nat (j := i + t - 1) (by omega) (iget e2), ?_⟩
      refine ⟨_, rfl, _, rfl, b, _, _, _, rfl, rfl, hb2.sq, atI_nat (tget e3), (by show 4 ≤ 1000; decide), fun p H3 s3 h3 => ?_⟩
      exact kt _ H3 ⟨true, o.ls[i + t - 1], o.ss[i + t - 1], o.ls[i + t]⟩ s3 ⟨p, rfl, h3⟩ acc
    · rw [en] at hp
      exact k D H2 s2 hD ⟨ys, hy, hp⟩
def spFromR : Sp := fun vs H Q _ => ∃ (v : V) (o : Ord Str) (a b : Nat), vs = [v, .int (a : Nat), .int (b : Nat)] ∧ OrdA H v o ∧ WO o ∧ a ≤ o.ls.length ∧ b < o.ls.length ∧ ∀ p H2, Same H H2 → H p = none → RLs H2 p (fromR o a b) → Q (.ref p) H2
abbrev N_from_right : List Str := ["second", "low", "high", "letters", "strengths", "at"]
theorem sc_from_right : FnScope N_from_right ["second", "low", "high"] (defScope s_from_right) := ⟨rfl, rfl, rfl, by decide +kernel, rfl, by decide +kernel, by decide +kernel⟩
-- slots: 0 second, 1 low, 2 high, 3 letters, 4 strengths, 5 at
theorem k_from_right (T : Txt K mg CP CW CN SD) : Kp P w K mg base CX0 1 "from_right" ["second", "low", "high"] spFromR := by
  refine T.d_from_right.ok sc_from_right (fun vs H Q E h => ?_) (fun f cdv A outer s H vs Q E hr h => ?_)
  · obtain ⟨v, o, i, j, rfl, _⟩ := h
    rfl
  · obtain ⟨v, o, i, j, rfl, ⟨a, b, c, rfl, ha, hb, hc⟩, wo, h1, h2, k⟩ := h
    have le := wo.le
    have hlen := wo.wf.len
    refine ⟨_, (pss_cons (ps_asg (pv 0) (pg_tup rfl (pgs_cons (pg_name (i := 3) sc_from_right.nd rfl (Or.inr rfl)) (pgs_cons (pg_name (i := 4) sc_from_right.nd rfl (Or.inr rfl)) pgs_nil))))
      (pss_one (ps_ret (pe_lc (own := [("at", 5)]) rfl sc_from_right.nd (pi_range3 rfl T.b_range (pa_cons (pe_op op_sub (pv 2) pe_int) (pa_cons (pe_op op_sub (pv 1) pe_int) (pa_cons (pe_un un_neg pe_int) pa_nil)))) (blkOk_by (own := [("at", 5)]) (N := N_from_right) (sc := defScope s_from_right) (by decide +kernel)) (fun _ _ _ _ _ => (pg_name (i := 5) sc_from_right.nd rfl (Or.inl rfl))) (fun _ _ _ _ _ => pts_nil) (fun _ _ _ _ _ => (pe_tupS (pa_cons pe_str (pa_cons (pe_ix (ix_tupK K) (pv 3) (pe_op op_add (pv 5) pe_int) (fun _ _ => rfl)) (pa_cons (pe_ix (ix_tupK K) (pv 4) (pv 5) (fun _ _ => rfl)) (pa_cons (pe_ix (ix_tupK K) (pv 3) (pv 5) (fun _ _ => rfl)) pa_nil)))))))))), ?_⟩
    refine ⟨_, rfl, a, _, rfl, ha.sq, rfl, _, _, rfl, _, _, rfl, rfl, ?_⟩
    have en : (((j : Nat) : Int) - 1 - ((i : Nat) - 1)).toNat = j - i := by omega
    refine ⟨_, rfl, _, _, rfl, rfl, _, rfl, _, _, rfl, rfl, 1, rfl, _, _, _, _, rfl, RgC.neg (by omega) (by omega) (by omega) (by omega), lcS (src_rangeC _ _ _ H) (fun H v r => RulA H v r) (fun H1 H2 v r s q => q.tm s) (fromRT o j) rfl (by omega) (fun t v H2 Kt Kf ht s2 hv kt kf => ?_) (fun D H2 ys hD s2 hy hp => ?_)⟩
    · have ht2 : j - 1 - t < o.ls.length := by omega
      have hq : j - 1 - t + 1 < o.ls.length := by omega
      have hs : j - 1 - t < o.ss.length := by omega
      obtain rfl : v = V.int ((j - 1 - t : Nat) : Nat) := hv.trans (congrArg V.int (by omega))
      have e1 := List.getElem?_eq_getElem hq
      have e2 := List.getElem?_eq_getElem hs
      have e3 := List.getElem?_eq_getElem ht2
      have er : rr o (j - 1 - t) = some ⟨false, o.ls[j - 1 - t + 1], o.ss[j - 1 - t], o.ls[j - 1 - t]⟩ := by
        unfold rr
        rw [e1, e2, e3]
      have acc : fromRT o j (t + 1) = fromRT o j t ++ [⟨false, o.ls[j - 1 - t + 1], o.ss[j - 1 - t], o.ls[j - 1 - t]⟩] := by
        unfold fromRT
        rw [List.range_succ]
        exact fmap_step er
      have hb2 := hb.same s2
      have hc2 := hc.same s2
      refine ⟨rfl, yes_ ?_⟩
      refine ⟨_, rfl, _, rfl, _, _, rfl, rfl, b, _, _, _, rfl, rfl, hb2.sq, at_nat (j := j - 1 - t + 1) (by omega) (tget e1), ?_⟩
      refine ⟨_, rfl, _, rfl, c, _, _, _, rfl, rfl, hc2.sq, atI_nat (iget e2), ?_⟩
      refine ⟨_, rfl, _, rfl, b, _, _, _, rfl, rfl, hb2.sq, atI_nat (tget e3), (by show 4 ≤ 1000; decide), fun p H3 s3 h3 => ?_⟩
      exact kt _ H3 ⟨false, o.ls[j - 1 - t + 1], o.ss[j - 1 - t], o.ls[j - 1 - t]⟩ s3 ⟨p, rfl, h3⟩ acc
    · rw [en] at hp
      exact k D H2 s2 hD ⟨ys, hy, hp⟩
theorem RLs.cat {H : Hp} {p : Addr} {xs ys : List V} {rs ts : List (Rul Str)} (hp : H p = none) (h1 : Paired (RulA H) xs rs) (h2 : Paired (RulA H) ys ts) : RLs (upd H p (.lst (xs ++ ys))) p (rs ++ ts) :=
  ⟨xs ++ ys, upd_same, Paired.mapP (Paired.app h1 h2) fun _ _ q => q.tm (TM.of (Same.new hp))⟩
def spGap : Sp := fun vs H Q _ => ∃ (v : V) (o : Ord Str) (a b : Nat), vs = [v, .int (a : Nat), .int (b : Nat)] ∧ OrdA H v o ∧ WO o ∧ a < b ∧ b < o.ls.length ∧ ∀ p H2, Same H H2 → H p = none → RLs H2 p (gap o a b) → Q (.ref p) H2
theorem cut_lt {o : Ord Str} {a b : Nat} (h : a < b) (hb : b ≤ o.ss.length) : leastB o.ss a b ∈ (o.ss.drop a).take (b - a) ∧ a ≤ cutP o a b ∧ cutP o a b < b := by
  have h1 : (o.ss.drop a).take (b - a) ≠ [] := fun z => by
    have := congrArg List.length z
    simp only [List.length_take, List.length_drop, List.length_nil] at this
    omega
  have h2 : leastB o.ss a b ∈ (o.ss.drop a).take (b - a) := lo_mem h1
  have h3 := idx_lt h2
  simp only [List.length_take, List.length_drop] at h3
  unfold cutP
  exact ⟨h2, by omega, by omega⟩
theorem int_no {l : List Int} {x : Int} {m : Nat} (h : m < l.idxOf x) : l[m]? ≠ some x := fun e => by
  obtain ⟨hm, e⟩ := List.getElem?_eq_some_iff.mp e
  have q := List.not_of_lt_findIdx (p := (· == x)) h
  rw [beq_eq_false_iff_ne] at q
  exact q e
abbrev N_gap_rules : List Str := ["second", "low", "high", "strongest", "cut"]
theorem sc_gap_rules : FnScope N_gap_rules ["second", "low", "high"] (defScope s_gap_rules) := ⟨rfl, rfl, rfl, by decide +kernel, rfl, by decide +kernel, by decide +kernel⟩
-- slots: 0 second, 1 low, 2 high, 3 strongest, 4 cut
theorem k_gap_rules (T : Txt K mg CP CW CN SD) : Kp P w K mg base CX0 2 "gap_rules" ["second", "low", "high"] spGap := by
  refine T.d_gap_rules.ok sc_gap_rules (fun vs H Q E h => ?_) (fun f cdv A outer s H vs Q E hr h => ?_)
  · obtain ⟨v, o, i, j, rfl, _⟩ := h
    rfl
  · obtain ⟨v, o, i, j, rfl, ⟨a, b, c, rfl, ha, hb, hc⟩, wo, h1, h2, k⟩ := h
    have le := wo.le
    have hlen := wo.wf.len
    have hu := hu_of hr
    have hjs : j ≤ o.ss.length := by omega
    obtain ⟨hm, hc1, hc2⟩ := cut_lt h1 hjs
    refine ⟨_, (pss_cons (ps_set (i := 3) sc_gap_rules.nd rfl (Or.inl rfl) (pe_callB (cr_minT rfl hu) rfl T.b_min (by decide +kernel) (pa_cons (pe_slice sl_tupS (pe_ix ix_tup (pv 0) pe_int (fun _ _ => rfl)) (po_some (pv 1)) (po_some (pv 2))) pa_nil)))
      (pss_cons (ps_set (i := 4) sc_gap_rules.nd rfl (Or.inl rfl) (pe_op op_add (pv 1) (pe_bmT PySem.F.slot_tuple_index PySem.F.type_tuple_index mt_tup_indexI (pe_slice sl_tupS (pe_ix ix_tup (pv 0) pe_int (fun _ _ => rfl)) (po_some (pv 1)) (po_some (pv 2))) (pa_cons (pv 3) pa_nil))))
      (pss_one (ps_ret (pe_op op_cat (pe_g (k_from_left T) (hr.mono (by decide)) pass0 (pa_cons (pv 0) (pa_cons (pe_op op_add (pv 1) pe_int) (pa_cons (pe_op op_add (pv 4) pe_int) pa_nil)))) (pe_g (k_from_right T) (hr.mono (by decide)) pass0 (pa_cons (pv 0) (pa_cons (pe_op op_add (pv 4) pe_int) (pa_cons (pv 2) pa_nil))))))))), ?_⟩
    refine ⟨_, rfl, a, _, 1, _, rfl, rfl, ha.sq, atI_nat (j := 1) rfl, _, rfl, _, rfl, _, rfl, _, rfl, c, _, rfl, hc, fun p H2 s2 h3 => ?_⟩
    rw [cut_mid (k := i) (m := j) rfl rfl (by rw [List.length_map]; exact hjs), ← List.map_drop, ← List.map_take] at h3
    refine ⟨p, _, rfl, h3, (fun z => by rw [z] at hm; cases hm), fun m hm1 hm2 => ?_⟩
    obtain rfl : m = leastB o.ss i j := lo_eq hm1 hm2
    have ha2 := ha.same s2
    have hc2' := hc.same s2
    refine ⟨_, rfl, _, rfl, a, _, 1, _, rfl, rfl, ha2.sq, atI_nat (j := 1) rfl, _, rfl, _, rfl, _, rfl, _, rfl, c, _, rfl, hc2', fun p3 H3 s3 h4 => ?_⟩
    rw [cut_mid (k := i) (m := j) rfl rfl (by rw [List.length_map]; exact hjs), ← List.map_drop, ← List.map_take] at h4
    have hidx := idx_get hm
    refine ⟨⟨p3, _, rfl, h4⟩, _, rfl, p3, _, _, _, rfl, rfl, h4, hidx, fun m hm => int_no hm, _, _, rfl, rfl, ?_⟩
    have ev : ((i : Nat) : Int) + (((o.ss.drop i).take (j - i)).idxOf (leastB o.ss i j) : Nat) = ((cutP o i j : Nat) : Int) := by unfold cutP; omega
    have s03 := s2.trans s3
    have ho3 : OrdA H3 (.ref a) o := ⟨a, b, c, rfl, ha.same s03, hb.same s03, hc.same s03⟩
    refine ⟨_, rfl, _, rfl, _, _, rfl, rfl, _, rfl, _, _, rfl, rfl, .ref a, o, i + 1, cutP o i j + 1, congrArg (fun z => [V.ref a, V.int ((i : Int) + 1), V.int (z + 1)]) ev, ho3, wo, by omega, by omega, by omega, fun p4 H4 s4 hn4 h4 => ?_⟩
    refine ⟨_, rfl, _, rfl, _, _, rfl, rfl, _, rfl, .ref a, o, cutP o i j + 1, j, congrArg (fun z => [V.ref a, V.int (z + 1), V.int (j : Nat)]) ev, ho3.tm (TM.of s4), wo, by omega, by omega, fun p5 H5 s5 hn5 h5 => ?_⟩
    obtain ⟨xs, g1, g2⟩ := h4.same s5
    obtain ⟨ys, g3, g4⟩ := h5
    have l1 := g2.length
    have l2 := g4.length
    have l3 : (fromL o (i + 1) (cutP o i j + 1)).length ≤ _ := fromLT_le o (i + 1) _
    have l4 : (fromR o (cutP o i j + 1) j).length ≤ _ := fromRT_le o j _
    have s05 := (s03.trans s4).trans s5
    exact ⟨p4, p5, xs, ys, rfl, rfl, g1, g3, small (by omega), fun p6 hp6 => k p6 _ (s05.trans (Same.new hp6)) (same_non s05 hp6) (RLs.cat hp6 g2 g4)⟩
theorem at_last {xs : List V} {v : V} (h : xs[xs.length - 1]? = some v) : atI xs (-1) = some v := by
  have hl : 0 < xs.length := by
    have := (List.getElem?_eq_some_iff.mp h).1
    omega
  unfold atI ixN
  rw [if_neg (by omega), if_pos (by omega)]
  have e : ((-1 : Int) + (xs.length : Int)).toNat = xs.length - 1 := by omega
  rw [e]
  exact h
theorem keepT_le {o : Ord Str} {ps : List Nat} (w : WO o) (h : ∀ p ∈ ps, p < o.ls.length) : ∀ t, t < ps.length → (keepT o ps t).length ≤ 8 + 16 * t
  | 0, ht => by
    have h1 := fromRT_le o (ps.getD 0 0) (ps.getD 0 0 - 0)
    have h2 : ps.getD 0 0 < o.ls.length := by
      rw [List.getD_eq_getElem?_getD, List.getElem?_eq_getElem ht]
      exact h _ (List.getElem_mem ht)
    have := w.le
    show (fromRT o (ps.getD 0 0) (ps.getD 0 0 - 0)).length ≤ _
    omega
  | t + 1, ht => by
    have ih := keepT_le w h t (by omega)
    have h2 : ps.getD (t + 1) 0 < o.ls.length := by
      rw [List.getD_eq_getElem?_getD, List.getElem?_eq_getElem ht]
      exact h _ (List.getElem_mem ht)
    have := w.le
    have hc : cutP o (ps.getD t 0) (ps.getD (t + 1) 0) ≤ 16 + ps.getD t 0 := by
      unfold cutP
      have q : ((o.ss.drop (ps.getD t 0)).take (ps.getD (t + 1) 0 - ps.getD t 0)).idxOf (leastB o.ss (ps.getD t 0) (ps.getD (t + 1) 0)) ≤ ((o.ss.drop (ps.getD t 0)).take (ps.getD (t + 1) 0 - ps.getD t 0)).length := List.idxOf_le_length
      rw [List.length_take] at q
      omega
    rw [keepT, List.length_append]
    unfold gap
    rw [List.length_append]
    have l3 : (fromL o (ps.getD t 0 + 1) (cutP o (ps.getD t 0) (ps.getD (t + 1) 0) + 1)).length ≤ _ := fromLT_le o _ _
    have l4 : (fromR o (cutP o (ps.getD t 0) (ps.getD (t + 1) 0) + 1) (ps.getD (t + 1) 0)).length ≤ _ := fromRT_le o _ _
    have q : cutP o (ps.getD t 0) (ps.getD (t + 1) 0) - ps.getD t 0 ≤ 8 := by
      unfold cutP
      have q : ((o.ss.drop (ps.getD t 0)).take (ps.getD (t + 1) 0 - ps.getD t 0)).idxOf (leastB o.ss (ps.getD t 0) (ps.getD (t + 1) 0)) ≤ ((o.ss.drop (ps.getD t 0)).take (ps.getD (t + 1) 0 - ps.getD t 0)).length := List.idxOf_le_length
      rw [List.length_take] at q
      omega
    omega
def spKeep : Sp := fun vs H Q _ => ∃ (v u : V) (o : Ord Str) (ls : List Str), vs = [v, u] ∧ OrdA H v o ∧ WO o ∧ StrsA H u ls ∧ ls ≠ [] ∧ ls.length ≤ 8 ∧ (∀ x ∈ ls, x ∈ o.ls) ∧ (ls.map (o.ls.idxOf ·)).Pairwise (· < ·) ∧ ∀ v H2, Same H H2 → RulsA H2 v (keepR o ls) → Q v H2
abbrev N_keep : List Str := ["second", "letters", "places", "found", "low", "high", "letter"]
theorem sc_keep : FnScope N_keep ["second", "letters"] (defScope s_keep) := ⟨rfl, rfl, rfl, by decide +kernel, rfl, by decide +kernel, by decide +kernel⟩
-- slots: 0 second, 1 letters, 2 places, 3 found, 4 low, 5 high, 6 letter
theorem k_keep (T : Txt K mg CP CW CN SD) : Kp P w K mg base CX0 3 "keep" ["second", "letters"] spKeep := by
  refine T.d_keep.ok sc_keep (fun vs H Q E h => ?_) (fun f cdv A outer s H vs Q E hr h => ?_)
  · obtain ⟨v, u, o, ls, rfl, _⟩ := h
    rfl
  · obtain ⟨v, u, o, ls, rfl, ⟨a, b, c, rfl, ha, hb, hc⟩, wo, ⟨l, rfl, hl⟩, hne, hl8, hm, hpw, k⟩ := h
    have le := wo.le
    have hlen := wo.wf.len
    have hlp : 0 < ls.length := List.length_pos_iff.mpr hne
    have ho : OrdA H (.ref a) o := ⟨a, b, c, rfl, ha, hb, hc⟩
    have hall : ∀ p ∈ ls.map (o.ls.idxOf ·), p < o.ls.length := fun p hp => by
      obtain ⟨x, h1, rfl⟩ := List.mem_map.mp hp
      exact idx_lt (hm x h1)
    have hpl : (ls.map (o.ls.idxOf ·)).length = ls.length := List.length_map _
    have hgd : ∀ t, t < ls.length → (ls.map (o.ls.idxOf ·))[t]? = some ((ls.map (o.ls.idxOf ·)).getD t 0) ∧ (ls.map (o.ls.idxOf ·)).getD t 0 < o.ls.length := fun t ht => by
      have e := List.getElem?_eq_getElem (l := ls.map (o.ls.idxOf ·)) (i := t) (by omega)
      rw [List.getD_eq_getElem?_getD, e]
      exact ⟨rfl, hall _ (List.getElem_mem _)⟩
    refine ⟨_, (pss_cons (ps_setLc (i := 2) (own := [("letter", 6)]) rfl sc_keep.nd rfl rfl (sw_true rfl rfl rfl (by decide +kernel)) (pi_tup (pv 1)) (blkOk_by (own := [("letter", 6)]) (N := N_keep) (sc := defScope s_keep) (by decide +kernel)) (fun _ _ _ _ _ => (pg_name (i := 6) sc_keep.nd rfl (Or.inl rfl))) (fun _ _ _ _ _ => pts_nil) (fun _ _ _ _ _ => (pe_bmT PySem.F.slot_tuple_index PySem.F.type_tuple_index mt_tup_indexT (pe_ix (ix_tupK K) (pv 0) pe_int (fun _ _ => rfl)) (pa_cons (pv 6) pa_nil))))
      (pss_cons (ps_set (i := 3) sc_keep.nd rfl (Or.inl rfl) (pe_g (k_from_right T) (hr.mono (by decide)) pass0 (pa_cons (pv 0) (pa_cons pe_int (pa_cons (pe_ix ix_list (pv 2) pe_int (fun _ _ => rfl)) pa_nil)))))
      (pss_cons (ps_for PassesOwn.never rfl (pi_zip rfl T.b_zip (pa_cons (pv 2) (pa_cons (pe_slice sl_list (pv 2) (po_some pe_int) po_none) pa_nil))) (pg_tup rfl (pgs_cons (pg_name (i := 4) sc_keep.nd rfl (Or.inl rfl)) (pgs_cons (pg_name (i := 5) sc_keep.nd rfl (Or.inl rfl)) pgs_nil)))
      (pss_one (ps_set (i := 3) sc_keep.nd rfl (Or.inl rfl) (pe_op op_cat (pv 3) (pe_g (k_gap_rules T) (hr.mono (by decide)) pass0 (pa_cons (pv 0) (pa_cons (pv 4) (pa_cons (pv 5) pa_nil))))))))
      (pss_one (ps_ret (pe_callTy call_tupS rfl T.b_tuple (by decide +kernel) (pa_cons (pe_op op_cat (pv 3) (pe_g (k_from_left T) (hr.mono (by decide)) pass0 (pa_cons (pv 0) (pa_cons (pe_op op_add (pe_ix ix_list (pv 2) (pe_un un_neg pe_int) (fun _ _ => rfl)) pe_int) (pa_cons (pe_callB call_len rfl T.b_len (by decide +kernel) (pa_cons (pe_ix ix_tup (pv 0) pe_int (fun _ _ => rfl)) pa_nil)) pa_nil))))) pa_nil))))))), ?_⟩
    refine ⟨_, rfl, l, rfl, ⟨_, hl.sq⟩, lcS (src_tup hl.sq) (fun _ v (n : Nat) => v = V.int (n : Nat)) (fun _ _ _ _ _ r => r) (fun t => (ls.take t).map (o.ls.idxOf ·)) rfl (by rw [List.length_map]; omega) (fun i v H2 Kt Kf hi s2 hv kt kf => ?_) (fun D H2 ys hD s2 hy hp => ?_)⟩
    · rw [List.getElem?_map] at hv
      cases q : ls[i]? with
      | none => rw [q] at hv; cases hv
      | some y =>
        rw [q] at hv
        cases hv
        refine ⟨rfl, yes_ ?_⟩
        refine ⟨_, rfl, a, _, 0, _, rfl, rfl, (ha.same s2).sq, atI_nat (j := 0) rfl, ⟨b, _, rfl, hb.same s2⟩, _, rfl, b, o.ls, y, rfl, rfl, hb.same s2, hm y (List.mem_of_getElem? q), kt _ H2 _ (Same.refl _) rfl ?_⟩
        rw [List.take_add_one, q, List.map_append]
        rfl
    · rw [List.length_map, List.take_length] at hp
      have hps : H2 D = some (.lst (nV (ls.map (o.ls.idxOf ·)))) := by rw [hy, nV_of hp]
      generalize hPS : ls.map (o.ls.idxOf ·) = ps at hps hpw hall hpl hgd
      have hp0 := hgd 0 hlp
      refine ⟨_, rfl, _, rfl, D, _, _, _, rfl, rfl, SqL.of hps, atI_nat (j := 0) (nV_get hp0.1), .ref a, o, 0, ps.getD 0 0, rfl, ho.tm (TM.of s2), wo, Nat.zero_le _, hp0.2, fun pf H3 s3 hn3 h3 => ?_⟩
      refine ⟨_, rfl, _, rfl, _, rfl, D, _, rfl, SqL.of (s3 _ _ hps), fun pz hpz => ?_⟩
      rw [show cutV (nV ps) (some 1) none = (nV ps).drop 1 from cut_from (k := 1) rfl]
      have s03 := (s2.trans s3).trans (Same.new (o := .lst ((nV ps).drop 1)) hpz)
      have hps3 : upd H3 pz (.lst ((nV ps).drop 1)) D = some (.lst (nV ps)) := Same.new hpz _ _ (s3 _ _ hps)
      refine ⟨D, pz, _, _, rfl, SqL.of hps3, SqL.of upd_same, for_zip2 (n := ls.length - 1) (xs := nV ps) (ys := (nV ps).drop 1) (by rw [List.length_drop, nV_len, hpl]; omega) (fun t σ H5 => ∃ pf w4 w5, Same H H5 ∧ H5 D = some (.lst (nV ps)) ∧ H5 pz = some (.lst ((nV ps).drop 1)) ∧ RLs H5 pf (keepT o ps t) ∧ σ = [some (.ref a), some (.ref l), some (.ref D), some (.ref pf), w4, w5, none]) ⟨pf, none, none, s03, hps3, upd_same, h3.same (Same.new hpz), rfl⟩ (fun i σ H5 h => ?_) ?_ ?_⟩
      · obtain ⟨_, _, _, _, h5, h6, _⟩ := h
        exact ⟨SqL.of h5, SqL.of h6⟩
      · rintro t y z T5 σ H5 hy5 hz5 ⟨pf5, w4, w5, s5, h5, h6, h7, rfl⟩ hT5
        obtain ⟨j, rfl, hj⟩ := nV_inv hy5
        rw [List.getElem?_drop] at hz5
        obtain ⟨j2, rfl, hj2⟩ := nV_inv hz5
        have ej : ps.getD t 0 = j := by rw [List.getD_eq_getElem?_getD, hj]; rfl
        have e1 : 1 + t = t + 1 := by omega
        rw [e1] at hj2
        have ej2 : ps.getD (t + 1) 0 = j2 := by rw [List.getD_eq_getElem?_getD, hj2]; rfl
        have hlt : j < j2 := by
          obtain ⟨q1, q2⟩ := List.getElem?_eq_some_iff.mp hj
          obtain ⟨q3, q4⟩ := List.getElem?_eq_some_iff.mp hj2
          rw [← q2, ← q4]
          exact List.pairwise_iff_getElem.mp hpw t (t + 1) q1 q3 (by omega)
        have hjl := hall j2 (List.mem_of_getElem? hj2)
        have ht1 : t + 1 < ps.length := (List.getElem?_eq_some_iff.mp hj2).1
        have s56 : Same H5 (upd H5 T5 (.tup [.int (j : Nat), .int (j2 : Nat)])) := Same.new hT5
        have s06 := s5.trans s56
        refine ⟨T5, _, rfl, SqT.of upd_same, rfl, _, _, rfl, _, _, rfl, rfl, ?_⟩
        refine ⟨_, rfl, _, rfl, _, rfl, _, rfl, .ref a, o, j, j2, rfl, ho.tm (TM.of s06), wo, hlt, hjl, fun p6 H6 s6 hn6 h8 => ?_⟩
        obtain ⟨xs, g1, g2⟩ := h7.same (s56.trans s6)
        obtain ⟨ys, g3, g4⟩ := h8
        have l1 := g2.length
        have l2 := g4.length
        have l3 := keepT_le wo hall (t + 1) ht1
        have l4 : (keepT o ps (t + 1)).length = (keepT o ps t).length + (gap o j j2).length := by rw [keepT, List.length_append, ej, ej2]
        have s07 := s06.trans s6
        refine ⟨pf5, p6, xs, ys, rfl, rfl, g1, g3, small (by omega), fun p7 hp7 => ⟨p7, _, _, s07.trans (Same.new hp7), Same.new hp7 _ _ (s6 _ _ (s56 _ _ h5)), Same.new hp7 _ _ (s6 _ _ (s56 _ _ h6)), ?_, rfl⟩⟩
        rw [keepT, ej, ej2]
        exact RLs.cat hp7 g2 g4
      · rintro σ H5 ⟨pf5, w4, w5, s5, h5, h6, h7, rfl⟩
        have hpn := hgd (ls.length - 1) (by omega)
        have ha5 := ha.same s5
        refine ⟨_, rfl, _, rfl, _, rfl, 1, rfl, D, _, _, _, rfl, rfl, SqL.of h5, at_last (by rw [nV_len, hpl]; exact nV_get hpn.1), _, _, rfl, rfl, _, rfl, a, _, 0, _, rfl, rfl, ha5.sq, atI_nat (j := 0) rfl, _, o.ls.length, rfl, .inr ⟨_, (hb.same s5).sq, by rw [List.length_map]⟩, ?_⟩
        refine ⟨.ref a, o, ps.getD (ls.length - 1) 0 + 1, o.ls.length, rfl, ho.tm (TM.of s5), wo, by omega, by omega, Nat.le_refl _, fun p6 H6 s6 hn6 h8 => ?_⟩
        obtain ⟨xs, g1, g2⟩ := h7.same s6
        obtain ⟨ys, g3, g4⟩ := h8
        have l1 := g2.length
        have l2 := g4.length
        have l3 := keepT_le wo hall (ls.length - 1) (by omega)
        have l4 : (fromL o (ps.getD (ls.length - 1) 0 + 1) o.ls.length).length ≤ _ := fromLT_le o _ _
        have s06 := s5.trans s6
        refine ⟨pf5, p6, xs, ys, rfl, rfl, g1, g3, small (by omega), fun p7 hp7 => ⟨p7, _, rfl, SqL.of upd_same, fun l2 H8 s8 h8 => ?_⟩⟩
        refine k _ H8 ((s06.trans (Same.new hp7)).trans s8) ⟨l2, _, rfl, h8, ?_⟩
        have q := Paired.mapP (Paired.app g2 g4) fun _ _ q => q.tm (TM.of ((Same.new hp7).trans s8))
        unfold keepR
        rw [hPS]
        exact q
/-! ### fewest.py -/
def spCheck2 : Sp := fun vs H Q _ => ∃ (v1 v2 : V) (f o : Ord Str), vs = [v1, v2] ∧ OrdA H v1 f ∧ OrdA H v2 o ∧ WO f ∧ WO o ∧ Non H Q
abbrev N_check_orders : List Str := ["first", "second"]
theorem sc_check_orders : FnScope N_check_orders ["first", "second"] (defScope s_check_orders) := ⟨rfl, rfl, rfl, by decide +kernel, rfl, by decide +kernel, by decide +kernel⟩
-- slots: 0 first, 1 second
theorem k_check_orders (T : Txt K mg CP CW CN SD) : Kp P w K mg base CX0 5 "check_orders" ["first", "second"] spCheck2 := by
  refine T.d_check_orders.ok sc_check_orders (fun vs H Q E h => ?_) (fun f cdv A outer s H vs Q E hr h => ?_)
  · obtain ⟨v1, v2, f, o, rfl, _⟩ := h
    rfl
  · obtain ⟨v1, v2, fo, o, rfl, h1, h2, wf, wo, k⟩ := h
    refine ⟨_, (pss_cons (ps_expr (pe_g (k_check_order T) (hr.mono (by decide)) pass0 (pa_cons (pv 0) (pa_cons pe_str pa_nil))))
      (pss_one (ps_expr (pe_g (k_check_order T) (hr.mono (by decide)) pass0 (pa_cons (pv 1) (pa_cons pe_str pa_nil)))))), ?_⟩
    exact ⟨_, rfl, v1, _, fo, rfl, h1, wf, fun H2 s2 => ⟨_, rfl, v2, _, o, rfl, h2.tm (TM.of s2), wo, fun H3 s3 => k H3 (s2.trans s3)⟩⟩
def spDist : Sp := fun vs H Q _ => ∃ (v1 v2 : V) (f o : Ord Str), vs = [v1, v2] ∧ OrdA H v1 f ∧ OrdA H v2 o ∧ WO f ∧ WO o ∧ ∀ H2, Same H H2 → Q (.int (dist f o)) H2
abbrev N_distance_of : List Str := ["first", "second"]
theorem sc_distance_of : FnScope N_distance_of ["first", "second"] (defScope s_distance_of) := ⟨rfl, rfl, rfl, by decide +kernel, rfl, by decide +kernel, by decide +kernel⟩
-- slots: 0 first, 1 second
theorem k_distance_of (T : Txt K mg CP CW CN SD) : Kp P w K mg base CX0 6 "distance_of" ["first", "second"] spDist := by
  refine T.d_distance_of.ok sc_distance_of (fun vs H Q E h => ?_) (fun f cdv A outer s H vs Q E hr h => ?_)
  · obtain ⟨v1, v2, f, o, rfl, _⟩ := h
    rfl
  · obtain ⟨v1, v2, fo, o, rfl, h1, ⟨a, b, c, rfl, ha, hb, hc⟩, wf, wo, k⟩ := h
    refine ⟨_, (pss_one (ps_ret (pe_op op_sub (pe_callB call_len rfl T.b_len (by decide +kernel) (pa_cons (pe_ix ix_tup (pv 1) pe_int (fun _ _ => rfl)) pa_nil)) (pe_callB call_len rfl T.b_len (by decide +kernel) (pa_cons (pe_g (k_longest_of T) (hr.mono (by decide)) pass0 (pa_cons (pv 0) (pa_cons (pv 1) pa_nil))) pa_nil))))), ?_⟩
    refine ⟨_, rfl, a, _, 0, _, rfl, rfl, ha.sq, atI_nat (j := 0) rfl, _, o.ls.length, rfl, .inr ⟨_, hb.sq, by rw [List.length_map]⟩, ?_⟩
    refine ⟨_, rfl, _, rfl, v1, .ref a, fo, o, rfl, h1, ⟨a, b, c, rfl, ha, hb, hc⟩, wf, wo, fun v H2 s2 hl => ?_⟩
    obtain ⟨l, rfl, hl⟩ := hl
    exact ⟨_, (long fo o).length, rfl, .inr ⟨_, hl.sq, by rw [List.length_map]⟩, _, _, rfl, rfl, k H2 s2⟩
/-- what all that follow ask of the two orders -/
structure Two (f o : Ord Str) : Prop where
  wf : WO f
  wo : WO o
  ne : f.ls ≠ []
  sub : ∀ x ∈ f.ls, x ∈ o.ls
theorem Two.long_ne {f o : Ord Str} (t : Two f o) : long f o ≠ [] := by
  cases e : f.ls with
  | nil => exact absurd e t.ne
  | cons x l =>
    have hx : x ∈ f.ls := by rw [e]; exact List.mem_cons_self
    exact long_pos hx (t.sub x hx)
def spRulesOf : Sp := fun vs H Q _ => ∃ (v1 v2 : V) (f o : Ord Str), vs = [v1, v2] ∧ OrdA H v1 f ∧ OrdA H v2 o ∧ Two f o ∧ ∀ v H2, Same H H2 → RulsA H2 v (shortR f o) → Q v H2
abbrev N_rules_of : List Str := ["first", "second"]
theorem sc_rules_of : FnScope N_rules_of ["first", "second"] (defScope s_rules_of) := ⟨rfl, rfl, rfl, by decide +kernel, rfl, by decide +kernel, by decide +kernel⟩
-- slots: 0 first, 1 second
theorem k_rules_of (T : Txt K mg CP CW CN SD) : Kp P w K mg base CX0 6 "rules_of" ["first", "second"] spRulesOf := by
  refine T.d_rules_of.ok sc_rules_of (fun vs H Q E h => ?_) (fun f cdv A outer s H vs Q E hr h => ?_)
  · obtain ⟨v1, v2, f, o, rfl, _⟩ := h
    rfl
  · obtain ⟨v1, v2, fo, o, rfl, h1, ⟨a, b, c, rfl, ha, hb, hc⟩, tw, k⟩ := h
    have hne := tw.long_ne
    obtain ⟨hx, hpw, _⟩ := long_places (f := fo) tw.wo.wf
    have hll := long_le fo o
    have hml := own_le fo o
    have le := tw.wo.le
    have ho : OrdA H (.ref a) o := ⟨a, b, c, rfl, ha, hb, hc⟩
    have hne2 : (o.ls.map V.str) ≠ [] := fun z => hne (by
      have q := congrArg List.length z
      rw [List.length_map, List.length_nil] at q
      exact List.length_eq_zero_iff.mp (by omega))
    refine ⟨_, (pss_one (ps_ret (pe_ifExp (pt_truth (pe_ix ix_tup (pv 1) pe_int (fun _ _ => rfl)) (by intro _; rfl)) (pe_g (k_keep T) (hr.mono (by decide)) pass0 (pa_cons (pv 1) (pa_cons (pe_g (k_longest_of T) (hr.mono (by decide)) pass0 (pa_cons (pv 0) (pa_cons (pv 1) pa_nil))) pa_nil))) (pe_tupS pa_nil)))), ?_⟩
    refine ⟨_, rfl, a, _, 0, _, rfl, rfl, ha.sq, atI_nat (j := 0) rfl, true, .inr (.inl ⟨_, hb.sq, by rw [List.isEmpty_eq_false_iff.mpr hne2]; rfl⟩), iteT ?_⟩
    refine ⟨_, rfl, _, rfl, _, rfl, v1, .ref a, fo, o, rfl, h1, ho, tw.wf, tw.wo, fun v H2 s2 hl => ?_⟩
    exact ⟨.ref a, v, o, long fo o, rfl, ho.tm (TM.of s2), tw.wo, hl, hne, by omega, hx, hpw, fun u H3 s3 h3 => k u H3 (s2.trans s3) h3⟩
def spAnswer : Sp := fun vs H Q _ => ∃ (v1 v2 : V) (f o : Ord Str), vs = [v1, v2] ∧ OrdA H v1 f ∧ OrdA H v2 o ∧ Two f o ∧ ∀ a u1 u2 H2, Same H H2 → Tp H2 a [u1, u2] → RulsA H2 u1 (shortR f o) → IntsA H2 u2 (levs f o) → Q (.ref a) H2
abbrev N_answer_for : List Str := ["first", "second"]
theorem sc_answer_for : FnScope N_answer_for ["first", "second"] (defScope s_answer_for) := ⟨rfl, rfl, rfl, by decide +kernel, rfl, by decide +kernel, by decide +kernel⟩
-- slots: 0 first, 1 second
theorem k_answer_for (T : Txt K mg CP CW CN SD) : Kp P w K mg base CX0 7 "answer_for" ["first", "second"] spAnswer := by
  refine T.d_answer_for.ok sc_answer_for (fun vs H Q E h => ?_) (fun f cdv A outer s H vs Q E hr h => ?_)
  · obtain ⟨v1, v2, f, o, rfl, _⟩ := h
    rfl
  · obtain ⟨v1, v2, fo, o, rfl, h1, h2, tw, k⟩ := h
    refine ⟨_, (pss_cons (ps_expr (pe_g (k_check_orders T) (hr.mono (by decide)) pass0 (pa_cons (pv 0) (pa_cons (pv 1) pa_nil))))
      (pss_one (ps_ret (pe_ifExp (pt_val (pe_g (k_reaches T) (hr.mono (by decide)) pass0 (pa_cons (pv 0) (pa_cons (pv 1) pa_nil)))) (pe_tupS (pa_cons (pe_g (k_rules_of T) (hr.mono (by decide)) pass0 (pa_cons (pv 0) (pa_cons (pv 1) pa_nil))) (pa_cons (pe_g (k_levels_of T) (hr.mono (by decide)) pass0 (pa_cons (pv 0) (pa_cons (pv 1) pa_nil))) pa_nil))) pe_non)))), ?_⟩
    refine ⟨_, rfl, _, rfl, v1, v2, fo, o, rfl, h1, h2, tw.wf, tw.wo, fun H2 s2 => ?_⟩
    have h12 := h1.tm (TM.of s2)
    have h22 := h2.tm (TM.of s2)
    refine ⟨_, rfl, _, rfl, v1, v2, fo, o, rfl, h12, h22, tw.wf, tw.ne, tw.sub, fun H3 s3 => ⟨true, rfl, iteT ?_⟩⟩
    have h13 := h12.tm (TM.of s3)
    have h23 := h22.tm (TM.of s3)
    refine ⟨_, rfl, _, rfl, v1, v2, fo, o, rfl, h13, h23, tw, fun u1 H4 s4 h4 => ?_⟩
    refine ⟨_, rfl, _, rfl, v1, v2, fo, o, rfl, h13.tm (TM.of s4), h23.tm (TM.of s4), tw.wf, tw.wo, fun u2 H5 s5 h5 => ?_⟩
    exact ⟨(by show 2 ≤ 1000; decide), fun p H6 s6 h6 => k p u1 u2 H6 ((((s2.trans s3).trans s4).trans s5).trans s6) h6 (h4.tm (TM.of (s5.trans s6))) (h5.tm (TM.of s6))⟩
end
end Fw

set_option maxHeartbeats 4000000
/-! FwD8: the workshop -/
namespace Fw
open PySem PySem.Spec PySem.W PyProof.Rows L2
/-! ### what has been done -/
abbrev Hs := List (Cmd Str × Ord Str)
def cur (i : Ord Str) (hs : Hs) : Ord Str := match hs.getLast? with
  | some p => p.2
  | none => i
structure Step (i o : Ord Str) (c : Cmd Str) (z : Ord Str) : Prop where
  co : CO c
  st : stepX i o c = .inl z
  fit : ∀ r, c = .rule r → r.anc ∈ o.ls
structure Hist (i : Ord Str) (hs : Hs) : Prop where
  wo : WO i
  ne : i.ls ≠ []
  two : ∀ p ∈ hs, Two i p.2
  step : ∀ t c z, hs[t]? = some (c, z) → Step i (cur i (hs.take t)) c z
theorem Hist.self {i : Ord Str} {hs : Hs} (h : Hist i hs) : Two i i := ⟨h.wo, h.wo, h.ne, fun _ q => q⟩
theorem Hist.cur {i : Ord Str} {hs : Hs} (h : Hist i hs) : Two i (Fw.cur i hs) := by
  unfold Fw.cur
  split
  · rename_i p e
    exact h.two p (List.mem_of_getLast? e)
  · exact h.self
theorem Hist.take {i : Ord Str} {hs : Hs} (h : Hist i hs) (t : Nat) : Hist i (hs.take t) := by
  refine ⟨h.wo, h.ne, fun p hp => h.two p (List.mem_of_mem_take hp), fun k c z e => ?_⟩
  obtain ⟨hk, e2⟩ := List.getElem?_eq_some_iff.mp e
  rw [List.length_take] at hk
  rw [List.getElem_take] at e2
  have := h.step k c z (by rw [← e2]; exact List.getElem?_eq_getElem _)
  rw [List.take_take, Nat.min_eq_left (by omega)]
  exact this
theorem step_two {i o z : Ord Str} {c : Cmd Str} (ti : Two i i) (t : Two i o) (s : Step i o c z) : Two i z := by
  have led : ∀ rs : List (Rul Str), (∀ r ∈ rs, RO r) → ledX 0 o rs = .inl z → Two i z := fun rs hr e => by
    obtain ⟨w, s1, s2⟩ := ledX_wf rs 0 o z t.wo.wf (fun r q => (hr r q).ok) e
    refine ⟨t.wf, ⟨w, fun x hx => ?_⟩, t.ne, fun x hx => s1 x (t.sub x hx)⟩
    rcases s2 x hx with q | ⟨r, q, rfl⟩
    · exact t.wo.al x q
    · exact (hr r q).a8
  obtain ⟨co, st, _⟩ := s
  cases c with
  | reset =>
    cases st
    exact ti
  | rule r => exact led [r] (fun r' q => by rw [List.mem_singleton.mp q]; exact co) st
  | rules rs => exact led rs co.2 st
theorem Hist.snoc {i z : Ord Str} {hs : Hs} {c : Cmd Str} (h : Hist i hs) (s : Step i (Fw.cur i hs) c z) : Hist i (hs ++ [(c, z)]) := by
  refine ⟨h.wo, h.ne, fun p hp => ?_, fun t c2 z2 e => ?_⟩
  · rcases List.mem_append.mp hp with q | q
    · exact h.two p q
    · rw [List.mem_singleton.mp q]
      exact step_two h.self h.cur s
  · by_cases ht : t < hs.length
    · rw [List.getElem?_append_left ht] at e
      rw [List.take_append_of_le_length (by omega)]
      exact h.step t c2 z2 e
    · have hl := (List.getElem?_eq_some_iff.mp e).1
      rw [List.length_append, List.length_singleton] at hl
      have e2 : t = hs.length := by omega
      subst e2
      rw [List.getElem?_append_right (Nat.le_refl _), Nat.sub_self] at e
      cases e
      rw [List.take_append_of_le_length (Nat.le_refl _), List.take_length]
      exact s
theorem cur_snoc {i z : Ord Str} {hs : Hs} {c : Cmd Str} : cur i (hs ++ [(c, z)]) = z := by
  unfold cur
  rw [List.getLast?_append]
  rfl
/-! ### the object -/
def wsF (lo lc : Addr) : List (Str × V) := putF "commands" (.ref lc) (putF "orders" (.ref lo) [])
theorem wsF_o {lo lc : Addr} : (wsF lo lc).lookup ("orders" : Str) = some (.ref lo) := lkn (by decide +kernel) lks
theorem wsF_c {lo lc : Addr} : (wsF lo lc).lookup ("commands" : Str) = some (.ref lc) := lks
theorem wsF_n {lo lc : Addr} {n : Str} (h : n ≠ "commands") (h2 : n ≠ "orders") : (wsF lo lc).lookup n = none := lkn h (lkn h2 rfl)
structure WsB (H : Hp) (lo lc : Addr) (i : Ord Str) (hs : Hs) (os cs : List V) : Prop where
  ne : lo ≠ lc
  ho : H lo = some (.lst os)
  po : Paired (OrdA H) os (i :: hs.map (·.2))
  hc : H lc = some (.lst cs)
  pc : Paired (CmdA H) cs (hs.map (·.1))
def WsA (CW : Addr) (H : Hp) (a lo lc : Addr) (i : Ord Str) (hs : Hs) : Prop := ∃ dx os cs, H a = some (.ins CW dx (wsF lo lc)) ∧ WsB H lo lc i hs os cs
/-- only the lists at lo and lc may be changed -/
def But2 (lo lc : Addr) (H H2 : Hp) : Prop := ∀ a o, a ≠ lo → a ≠ lc → H a = some o → H2 a = some o
theorem But2.of {lo lc : Addr} {H H2 : Hp} (s : Same H H2) : But2 lo lc H H2 := fun a o _ _ e => s a o e
theorem But2.trans {lo lc : Addr} {H H1 H2 : Hp} (s : But2 lo lc H H1) (t : But2 lo lc H1 H2) : But2 lo lc H H2 := fun a o n m e => t a o n m (s a o n m e)
theorem But2.tm {lo lc : Addr} {H H2 : Hp} {os cs : List V} (s : But2 lo lc H H2) (h1 : H lo = some (.lst os)) (h2 : H lc = some (.lst cs)) : TM H H2 := fun b o xs e => s b _ (fun z => by
  rw [z, h1] at e
  cases e) (fun z => by
  rw [z, h2] at e
  cases e) e
theorem WsB.tm {H H2 : Hp} {lo lc : Addr} {i : Ord Str} {hs : Hs} {os cs : List V} (t : TM H H2) (h : WsB H lo lc i hs os cs) (e1 : H2 lo = H lo) (e2 : H2 lc = H lc) : WsB H2 lo lc i hs os cs :=
  ⟨h.ne, e1.trans h.ho, Paired.mapP h.po fun _ _ q => q.tm t, e2.trans h.hc, Paired.mapP h.pc fun _ _ q => q.tm t⟩
theorem WsB.same {H H2 : Hp} {lo lc : Addr} {i : Ord Str} {hs : Hs} {os cs : List V} (s : Same H H2) (h : WsB H lo lc i hs os cs) : WsB H2 lo lc i hs os cs :=
  ⟨h.ne, s _ _ h.ho, Paired.mapP h.po fun _ _ q => q.tm (TM.of s), s _ _ h.hc, Paired.mapP h.pc fun _ _ q => q.tm (TM.of s)⟩
theorem WsA.same {CW : Addr} {H H2 : Hp} {a lo lc : Addr} {i : Ord Str} {hs : Hs} (s : Same H H2) (h : WsA CW H a lo lc i hs) : WsA CW H2 a lo lc i hs := by
  obtain ⟨dx, os, cs, ha, h⟩ := h
  exact ⟨dx, os, cs, s _ _ ha, h.same s⟩
theorem WsB.first {H : Hp} {lo lc : Addr} {i : Ord Str} {hs : Hs} {os cs : List V} (h : WsB H lo lc i hs os cs) : ∃ v, os[0]? = some v ∧ OrdA H v i := Paired.at2 h.po rfl
theorem WsB.last {H : Hp} {lo lc : Addr} {i : Ord Str} {hs : Hs} {os cs : List V} (h : WsB H lo lc i hs os cs) : ∃ v, os[os.length - 1]? = some v ∧ OrdA H v (cur i hs) := by
  refine Paired.at2 h.po ?_
  have hl := h.po.length
  rw [hl, List.length_cons, List.length_map]
  unfold cur
  cases e : hs.getLast? with
  | none =>
    rw [List.getLast?_eq_none_iff.mp e]
    rfl
  | some p =>
    rw [List.getLast?_eq_getElem?] at e
    have hp : 0 < hs.length := by
      have := (List.getElem?_eq_some_iff.mp e).1
      omega
    have e2 : hs.length + 1 - 1 = (hs.length - 1) + 1 := by omega
    rw [e2, List.getElem?_cons_succ, List.getElem?_map, e]
    rfl
theorem WsB.lens {H : Hp} {lo lc : Addr} {i : Ord Str} {hs : Hs} {os cs : List V} (h : WsB H lo lc i hs os cs) : os.length = hs.length + 1 ∧ cs.length = hs.length := by
  have h1 := h.po.length
  have h2 := h.pc.length
  rw [List.length_cons, List.length_map] at h1
  rw [List.length_map] at h2
  exact ⟨h1, h2⟩
section
variable {P : Program} {w : World} {K : PySem.W.Frag} {mg : Str → Option Value} {base : Heap} {CP CW CN SD : Addr}
def spCmd1 : Sp := fun vs H Q _ => ∃ (v : V) (c : Cmd Str), vs = [v] ∧ CmdA H v c ∧ CO c ∧ Yes H Q
abbrev N_is_command : List Str := ["value"]
theorem sc_is_command : FnScope N_is_command ["value"] (defScope s_is_command) := ⟨rfl, rfl, rfl, by decide +kernel, rfl, by decide +kernel, by decide +kernel⟩
-- slots: 0 value
theorem k_is_command (T : Txt K mg CP CW CN SD) : Kp P w K mg base CX0 4 "is_command" ["value"] spCmd1 := by
  refine T.d_is_command.ok sc_is_command (fun vs H Q E h => ?_) (fun f cdv A outer s H vs Q E hr h => ?_)
  · obtain ⟨v, c, rfl, _⟩ := h
    rfl
  · obtain ⟨v, c, rfl, hv, co, k⟩ := h
    refine ⟨_, (pss_cons (ps_if (PW.pt (pw_or (pt_not (pt_val (pe_isi (b := "tuple") rfl T.b_isinstance T.b_tuple (by decide +kernel) (pv 0)))) (pw_or (pt_cmpR op_eq (pe_callB call_len rfl T.b_len (by decide +kernel) (pa_cons (pv 0) pa_nil)) pe_int (nomark _)) (pw_or1 (pt_not (pt_val (pe_isi (b := "str") rfl T.b_isinstance T.b_str (by decide +kernel) (pe_ix ix_tup (pv 0) pe_int (fun _ _ => rfl))))))))) (pss_one (ps_ret pe_bl)) pss_nil)
      (pss_cons (ps_if (pt_cmpR op_eq (pe_ix ix_tup (pv 0) pe_int (fun _ _ => rfl)) pe_str (nomark _)) (pss_one (ps_ret (pe_cmpR op_eq (pe_callB call_len rfl T.b_len (by decide +kernel) (pa_cons (pv 0) pa_nil)) pe_int (nomark _)))) pss_nil)
      (pss_cons (ps_if (pt_cmpR op_eq (pe_ix ix_tup (pv 0) pe_int (fun _ _ => rfl)) pe_str (nomark _)) (pss_one (ps_ret (pe_and (pe_cmpR op_eq (pe_callB call_len rfl T.b_len (by decide +kernel) (pa_cons (pv 0) pa_nil)) pe_int (nomark _)) (pe_one (pe_g (k_is_rule T) (hr.mono (by decide)) pass0 (pa_cons (pe_ix ix_tup (pv 0) pe_int (fun _ _ => rfl)) pa_nil)))))) pss_nil)
      (pss_one (ps_ret (pe_and (pe_cmpR op_eq (pe_ix ix_tup (pv 0) pe_int (fun _ _ => rfl)) pe_str (nomark _)) (pe_and (pe_cmpR op_eq (pe_callB call_len rfl T.b_len (by decide +kernel) (pa_cons (pv 0) pa_nil)) pe_int (nomark _)) (pe_one (pe_g (k_is_rule_list T) (hr.mono (by decide)) pass0 (pa_cons (pe_ix ix_tup (pv 0) pe_int (fun _ _ => rfl)) pa_nil)))))))))), ?_⟩
    cases c with
    | reset =>
      obtain ⟨a, rfl, h⟩ := hv
      refine ⟨_, rfl, _, _, "tuple", true, rfl, h.ty, by decide +kernel, true, rfl, iteF ?_⟩
      refine ⟨_, rfl, _, 1, rfl, .inr ⟨_, h.sq, rfl⟩, rfl, false, congrArg V.bl (by decide), iteF ?_⟩
      refine ⟨_, rfl, a, _, 0, _, rfl, rfl, h.sq, atI_nat (j := 0) rfl, _, _, "str", true, rfl, .base (.str _), by decide +kernel, true, rfl, iteF ?_⟩
      refine ⟨_, rfl, a, _, 0, _, rfl, rfl, h.sq, atI_nat (j := 0) rfl, rfl, true, congrArg V.bl (by decide +kernel), iteT ?_⟩
      have q := k H (Same.refl _)
      rw [← (by decide : decide (V.int 1 = V.int 1) = true)] at q
      exact ⟨_, rfl, _, 1, rfl, .inr ⟨_, h.sq, rfl⟩, rfl, q⟩
    | rule r =>
      obtain ⟨a, x, rfl, h, hx⟩ := hv
      refine ⟨_, rfl, _, _, "tuple", true, rfl, h.ty, by decide +kernel, true, rfl, iteF ?_⟩
      refine ⟨_, rfl, _, 2, rfl, .inr ⟨_, h.sq, rfl⟩, rfl, false, congrArg V.bl (by decide), iteF ?_⟩
      refine ⟨_, rfl, a, _, 0, _, rfl, rfl, h.sq, atI_nat (j := 0) rfl, _, _, "str", true, rfl, .base (.str _), by decide +kernel, true, rfl, iteF ?_⟩
      refine ⟨_, rfl, a, _, 0, _, rfl, rfl, h.sq, atI_nat (j := 0) rfl, rfl, false, congrArg V.bl (by decide +kernel), iteF ?_⟩
      refine ⟨_, rfl, a, _, 0, _, rfl, rfl, h.sq, atI_nat (j := 0) rfl, rfl, true, congrArg V.bl (by decide +kernel), iteT ?_⟩
      exact ⟨_, rfl, _, 2, rfl, .inr ⟨_, h.sq, rfl⟩, rfl, true, congrArg V.bl (by decide), iteT ⟨_, rfl, a, _, 1, _, rfl, rfl, h.sq, atI_nat (j := 1) rfl, x, r, rfl, hx, co, k⟩⟩
    | rules rs =>
      obtain ⟨a, x, rfl, h, hx⟩ := hv
      refine ⟨_, rfl, _, _, "tuple", true, rfl, h.ty, by decide +kernel, true, rfl, iteF ?_⟩
      refine ⟨_, rfl, _, 2, rfl, .inr ⟨_, h.sq, rfl⟩, rfl, false, congrArg V.bl (by decide), iteF ?_⟩
      refine ⟨_, rfl, a, _, 0, _, rfl, rfl, h.sq, atI_nat (j := 0) rfl, _, _, "str", true, rfl, .base (.str _), by decide +kernel, true, rfl, iteF ?_⟩
      refine ⟨_, rfl, a, _, 0, _, rfl, rfl, h.sq, atI_nat (j := 0) rfl, rfl, false, congrArg V.bl (by decide +kernel), iteF ?_⟩
      refine ⟨_, rfl, a, _, 0, _, rfl, rfl, h.sq, atI_nat (j := 0) rfl, rfl, false, congrArg V.bl (by decide +kernel), iteF ?_⟩
      refine ⟨_, rfl, a, _, 0, _, rfl, rfl, h.sq, atI_nat (j := 0) rfl, rfl, true, congrArg V.bl (by decide +kernel), iteT ?_⟩
      exact ⟨_, rfl, _, 2, rfl, .inr ⟨_, h.sq, rfl⟩, rfl, true, congrArg V.bl (by decide), iteT ⟨_, rfl, a, _, 1, _, rfl, rfl, h.sq, atI_nat (j := 1) rfl, x, rs, rfl, hx, co.2, Nat.le_trans co.1 (by decide), k⟩⟩
def spBehind (C : Addr) : Sp := fun vs H Q E => ∃ (v1 v2 u : V) (i o : Ord Str) (c : Cmd Str), vs = [v1, v2, u] ∧ OrdA H v1 i ∧ OrdA H v2 o ∧ CmdA H u c ∧ CO c ∧ WO o ∧ (∀ r, c = .rule r → r.anc ∈ o.ls) ∧ (∀ z, stepX i o c = .inl z → RetO H Q z) ∧ ∀ k, stepX i o c = .inr k → Raises1 C H E k
abbrev N_behind : List Str := ["initial", "current", "command"]
theorem sc_behind : FnScope N_behind ["initial", "current", "command"] (defScope s_behind) := ⟨rfl, rfl, rfl, by decide +kernel, rfl, by decide +kernel, by decide +kernel⟩
-- slots: 0 initial, 1 current, 2 command
theorem k_behind (T : Txt K mg CP CW CN SD) : Kp P w K mg base (L2.CX P w) 7 "behind" ["initial", "current", "command"] (spBehind CN) := by
  refine T.d_behind.okX sc_behind (fun vs H Q E h => ?_) (fun f cdv A outer s H vs Q E hr h => ?_)
  · obtain ⟨v1, v2, u, i, o, c, rfl, _⟩ := h
    rfl
  · obtain ⟨v1, v2, u, i, o, c, rfl, h1, h2, hc, co, wo, fit, k, kx⟩ := h
    refine ⟨_, (pss_cons (ps_if (pt_cmpR op_eq (pe_ix ix_tup (pv 2) pe_int (fun _ _ => rfl)) pe_str (nomark _)) (pss_one (ps_ret (pv 0))) pss_nil)
      (pss_one (ps_ret (pe_ifExp (pt_cmpR op_eq (pe_ix ix_tup (pv 2) pe_int (fun _ _ => rfl)) pe_str (nomark _)) (pe_g (k_applied T) (hr.mono (by decide)) pass0 (pa_cons (pv 1) (pa_cons (pe_ix ix_tup (pv 2) pe_int (fun _ _ => rfl)) pa_nil))) (pe_g (k_led T) (hr.mono (by decide)) (passes_call (takes_of rfl rfl rfl rfl) fun _ _ _ _ h => h) (pa_cons (pv 1) (pa_cons (pe_ix ix_tup (pv 2) pe_int (fun _ _ => rfl)) pa_nil))))))), ?_⟩
    cases c with
    | reset =>
      obtain ⟨a, rfl, h⟩ := hc
      refine ⟨_, rfl, a, _, 0, _, rfl, rfl, h.sq, atI_nat (j := 0) rfl, rfl, true, congrArg V.bl (by decide +kernel), iteT ?_⟩
      exact ⟨_, rfl, k i rfl _ H (Same.refl _) h1⟩
    | rule r =>
      obtain ⟨a, x, rfl, h, hx⟩ := hc
      have ha := fit r rfl
      refine ⟨_, rfl, a, _, 0, _, rfl, rfl, h.sq, atI_nat (j := 0) rfl, rfl, false, congrArg V.bl (by decide +kernel), iteF ?_⟩
      refine ⟨_, rfl, a, _, 0, _, rfl, rfl, h.sq, atI_nat (j := 0) rfl, rfl, true, congrArg V.bl (by decide +kernel), iteT ?_⟩
      refine ⟨_, rfl, _, rfl, a, _, 1, _, rfl, rfl, h.sq, atI_nat (j := 1) rfl, v2, x, o, r, rfl, h2, hx, wo, co, ha, k _ ?_⟩
      show ledX 0 o [r] = _
      rw [ledX_step ha]
      rfl
    | rules rs =>
      obtain ⟨a, x, rfl, h, hx⟩ := hc
      refine ⟨_, rfl, a, _, 0, _, rfl, rfl, h.sq, atI_nat (j := 0) rfl, rfl, false, congrArg V.bl (by decide +kernel), iteF ?_⟩
      refine ⟨_, rfl, a, _, 0, _, rfl, rfl, h.sq, atI_nat (j := 0) rfl, rfl, false, congrArg V.bl (by decide +kernel), iteF ?_⟩
      exact ⟨_, rfl, _, rfl, a, _, 1, _, rfl, rfl, h.sq, atI_nat (j := 1) rfl, v2, x, o, rs, rfl, h2, hx, wo, co.2, Nat.le_trans co.1 (by decide), k, kx⟩
end
end Fw

set_option maxHeartbeats 4000000
/-! FwD9: the workshop's methods -/
namespace Fw
open PySem PySem.Spec PySem.W PyProof.Rows L2
theorem Paired.drop {α β : Type} {F : α → β → Prop} {ys : List β} {y : β} : ∀ {xs : List α}, Paired F xs (ys ++ [y]) → Paired F xs.dropLast ys ∧ ∃ x, xs[xs.length - 1]? = some x ∧ F x y := by
  induction ys with
  | nil =>
    intro xs h
    cases h with
    | cons r t =>
      cases t
      exact ⟨.nil, _, rfl, r⟩
  | cons b ys ih =>
    intro xs h
    cases h with
    | cons r t =>
      rename_i x xs
      obtain ⟨h1, z, h2, h3⟩ := ih t
      cases xs with
      | nil => simp at h2
      | cons x2 xs => exact ⟨.cons r h1, z, by simpa using h2, h3⟩
theorem Raises1.same {C : Addr} {H H2 : Hp} {E : XK} {k : Nat} (s : Same H H2) (h : Raises1 C H E k) : Raises1 C H2 E k := fun d H3 s3 e => h d H3 (s.trans s3) e
section
variable {P : Program} {w : World} {K : PySem.W.Frag} {mg : Str → Option Value} {base : Heap} {CP CW CN SD : Addr}
def spWsInit (CW : Addr) : Sp := fun vs H Q _ => ∃ (x dx : Addr) (v : V) (i : Ord Str), vs = [.ref x, v] ∧ H x = some (.ins CW dx []) ∧ OrdA H v i ∧ WO i ∧ ∀ lo lc H2, But x H H2 → H lo = none → H lc = none → WsA CW H2 x lo lc i [] → Q .non H2
abbrev N_Workshop_init : List Str := ["self", "order"]
theorem sc_Workshop_init : FnScope N_Workshop_init ["self", "order"] (defScope s_Workshop_init) := ⟨rfl, rfl, rfl, by decide +kernel, rfl, by decide +kernel, by decide +kernel⟩
-- slots: 0 self, 1 order
theorem k_Workshop_init (T : Txt K mg CP CW CN SD) : KpI P w K mg base CX0 5 CW ["self", "order"] (spWsInit CW) := by
  refine T.d_Workshop_init.ok sc_Workshop_init (fun vs H Q E h => ?_) (fun f cdv A outer s H vs Q E hr h => ?_)
  · obtain ⟨x, dx, v, i, rfl, _⟩ := h
    rfl
  · obtain ⟨x, dx, v, i, rfl, hx, hv, wo, k⟩ := h
    refine ⟨_, (pss_cons (ps_expr (pe_g (k_check_order T) (hr.mono (by decide)) pass0 (pa_cons (pv 1) (pa_cons pe_str pa_nil))))
      (pss_cons (ps_fld (pv 0) (pe_lst (pa_cons (pv 1) pa_nil)) rfl)
      (pss_one (ps_fld (pv 0) (pe_lst pa_nil) rfl)))), ?_⟩
    refine ⟨_, rfl, v, _, i, rfl, hv, wo, fun H2 s2 => ?_⟩
    have hx2 := s2 _ _ hx
    refine ⟨_, rfl, (by show 1 ≤ sizeLine; decide), fun lo hlo => ?_⟩
    have nlo : lo ≠ x := fun z => by rw [z, hx2] at hlo; cases hlo
    refine ⟨_, rfl, x, CW, dx, _, rfl, (upd_ne nlo.symm).trans hx2, T.cl_Workshop, T.n_Workshop_orders, (by show 0 < 1000; decide), ?_⟩
    refine ⟨(by show 0 ≤ sizeLine; decide), fun lc hlc => ?_⟩
    have nlc : lc ≠ x := fun z => by rw [z, upd_same] at hlc; cases hlc
    rw [upd_ne nlc] at hlc
    have ncl : lc ≠ lo := fun z => by rw [z, upd_same] at hlc; cases hlc
    have hlc2 : H2 lc = none := by
      rw [upd_ne ncl] at hlc
      exact hlc
    refine ⟨_, rfl, x, CW, dx, _, rfl, (upd_ne nlc.symm).trans upd_same, T.cl_Workshop, T.n_Workshop_commands, (by show 1 < 1000; decide), ?_⟩
    have bx : But x H (upd (upd (upd (upd H2 lo (.lst [v])) x (.ins CW dx (putF "orders" (.ref lo) []))) lc (.lst [])) x (.ins CW dx (putF "commands" (.ref lc) (putF "orders" (.ref lo) [])))) := fun a o n e => by
      have e2 := s2 _ _ e
      rw [upd_ne n, upd_ne (ne_of_none e2 hlc2), upd_ne n, upd_ne (ne_of_none e2 hlo)]
      exact e2
    refine k lo lc _ bx (same_non s2 hlo) (same_non s2 hlc2) ⟨dx, [v], [], upd_same, ncl.symm, ?_, .cons ?_ .nil, ?_, .nil⟩
    · rw [upd_ne nlo, upd_ne ncl.symm, upd_ne nlo, upd_same]
    · exact hv.tm (bx.tm hx)
    · rw [upd_ne nlc, upd_same]
def spWsD (CW : Addr) : Sp := fun vs H Q _ => ∃ (a lo lc : Addr) (i : Ord Str) (hs : Hs), vs = [.ref a] ∧ WsA CW H a lo lc i hs ∧ Hist i hs ∧ ∀ H2, Same H H2 → Q (.int (dist i (cur i hs))) H2
abbrev N_Workshop_distance : List Str := ["self"]
theorem sc_Workshop_distance : FnScope N_Workshop_distance ["self"] (defScope s_Workshop_distance) := ⟨rfl, rfl, rfl, by decide +kernel, rfl, by decide +kernel, by decide +kernel⟩
-- slots: 0 self
theorem k_Workshop_distance (T : Txt K mg CP CW CN SD) : KpM P w K mg base CX0 7 CW "distance" ["self"] (spWsD CW) := by
  refine T.d_Workshop_distance.ok sc_Workshop_distance (fun vs H Q E h => ?_) (fun f cdv A outer s H vs Q E hr h => ?_)
  · obtain ⟨a, lo, lc, i, hs, rfl, _⟩ := h
    rfl
  · obtain ⟨a, lo, lc, i, hs, rfl, ⟨dx, os, cs, ha, hb⟩, hh, k⟩ := h
    obtain ⟨v1, e1, h1⟩ := hb.first
    obtain ⟨v2, e2, h2⟩ := hb.last
    refine ⟨_, (pss_one (ps_ret (pe_g (k_distance_of T) (hr.mono (by decide)) pass0 (pa_cons (pe_ix ix_list (pe_fld (pv 0) rfl) pe_int (fun _ _ => rfl)) (pa_cons (pe_ix ix_list (pe_fld (pv 0) rfl) (pe_un un_neg pe_int) (fun _ _ => rfl)) pa_nil))))), ?_⟩
    refine ⟨_, rfl, a, CW, dx, _, _, rfl, ha, T.cl_Workshop, T.n_Workshop_orders, wsF_o, lo, _, _, _, rfl, rfl, SqL.of hb.ho, atI_nat (j := 0) e1, ?_⟩
    refine ⟨_, rfl, a, CW, dx, _, _, rfl, ha, T.cl_Workshop, T.n_Workshop_orders, wsF_o, 1, rfl, lo, _, _, _, rfl, rfl, SqL.of hb.ho, at_last e2, ?_⟩
    exact ⟨v1, v2, i, cur i hs, rfl, h1, h2, hh.wo, hh.cur.wo, k⟩
def spWsS (CW : Addr) : Sp := fun vs H Q _ => ∃ (a lo lc : Addr) (i : Ord Str) (hs : Hs), vs = [.ref a] ∧ WsA CW H a lo lc i hs ∧ Hist i hs ∧ ∀ v H2, Same H H2 → RulsA H2 v (shortR i (cur i hs)) → Q v H2
abbrev N_Workshop_shortest : List Str := ["self"]
theorem sc_Workshop_shortest : FnScope N_Workshop_shortest ["self"] (defScope s_Workshop_shortest) := ⟨rfl, rfl, rfl, by decide +kernel, rfl, by decide +kernel, by decide +kernel⟩
-- slots: 0 self
theorem k_Workshop_shortest (T : Txt K mg CP CW CN SD) : KpM P w K mg base CX0 7 CW "shortest" ["self"] (spWsS CW) := by
  refine T.d_Workshop_shortest.ok sc_Workshop_shortest (fun vs H Q E h => ?_) (fun f cdv A outer s H vs Q E hr h => ?_)
  · obtain ⟨a, lo, lc, i, hs, rfl, _⟩ := h
    rfl
  · obtain ⟨a, lo, lc, i, hs, rfl, ⟨dx, os, cs, ha, hb⟩, hh, k⟩ := h
    obtain ⟨v1, e1, h1⟩ := hb.first
    obtain ⟨v2, e2, h2⟩ := hb.last
    refine ⟨_, (pss_one (ps_ret (pe_g (k_rules_of T) (hr.mono (by decide)) pass0 (pa_cons (pe_ix ix_list (pe_fld (pv 0) rfl) pe_int (fun _ _ => rfl)) (pa_cons (pe_ix ix_list (pe_fld (pv 0) rfl) (pe_un un_neg pe_int) (fun _ _ => rfl)) pa_nil))))), ?_⟩
    refine ⟨_, rfl, a, CW, dx, _, _, rfl, ha, T.cl_Workshop, T.n_Workshop_orders, wsF_o, lo, _, _, _, rfl, rfl, SqL.of hb.ho, atI_nat (j := 0) e1, ?_⟩
    refine ⟨_, rfl, a, CW, dx, _, _, rfl, ha, T.cl_Workshop, T.n_Workshop_orders, wsF_o, 1, rfl, lo, _, _, _, rfl, rfl, SqL.of hb.ho, at_last e2, ?_⟩
    exact ⟨v1, v2, i, cur i hs, rfl, h1, h2, hh.cur, k⟩
def spWsK (CW : Addr) : Sp := fun vs H Q _ => ∃ (a lo lc : Addr) (i : Ord Str) (hs : Hs), vs = [.ref a] ∧ WsA CW H a lo lc i hs ∧ Hist i hs ∧ ∀ v H2, Same H H2 → StrsA H2 v (long i (cur i hs)) → Q v H2
abbrev N_Workshop_kept : List Str := ["self"]
theorem sc_Workshop_kept : FnScope N_Workshop_kept ["self"] (defScope s_Workshop_kept) := ⟨rfl, rfl, rfl, by decide +kernel, rfl, by decide +kernel, by decide +kernel⟩
-- slots: 0 self
theorem k_Workshop_kept (T : Txt K mg CP CW CN SD) : KpM P w K mg base CX0 6 CW "kept" ["self"] (spWsK CW) := by
  refine T.d_Workshop_kept.ok sc_Workshop_kept (fun vs H Q E h => ?_) (fun f cdv A outer s H vs Q E hr h => ?_)
  · obtain ⟨a, lo, lc, i, hs, rfl, _⟩ := h
    rfl
  · obtain ⟨a, lo, lc, i, hs, rfl, ⟨dx, os, cs, ha, hb⟩, hh, k⟩ := h
    obtain ⟨v1, e1, h1⟩ := hb.first
    obtain ⟨v2, e2, h2⟩ := hb.last
    refine ⟨_, (pss_one (ps_ret (pe_g (k_longest_of T) (hr.mono (by decide)) pass0 (pa_cons (pe_ix ix_list (pe_fld (pv 0) rfl) pe_int (fun _ _ => rfl)) (pa_cons (pe_ix ix_list (pe_fld (pv 0) rfl) (pe_un un_neg pe_int) (fun _ _ => rfl)) pa_nil))))), ?_⟩
    refine ⟨_, rfl, a, CW, dx, _, _, rfl, ha, T.cl_Workshop, T.n_Workshop_orders, wsF_o, lo, _, _, _, rfl, rfl, SqL.of hb.ho, atI_nat (j := 0) e1, ?_⟩
    refine ⟨_, rfl, a, CW, dx, _, _, rfl, ha, T.cl_Workshop, T.n_Workshop_orders, wsF_o, 1, rfl, lo, _, _, _, rfl, rfl, SqL.of hb.ho, at_last e2, ?_⟩
    exact ⟨v1, v2, i, cur i hs, rfl, h1, h2, hh.wo, hh.cur.wo, k⟩
def spWsI (CW : Addr) : Sp := fun vs H Q _ => ∃ (a lo lc : Addr) (i : Ord Str) (hs : Hs), vs = [.ref a] ∧ WsA CW H a lo lc i hs ∧ ∀ v, OrdA H v i → Q v H
abbrev N_Workshop_initial : List Str := ["self"]
theorem sc_Workshop_initial : FnScope N_Workshop_initial ["self"] (defScope s_Workshop_initial) := ⟨rfl, rfl, rfl, by decide +kernel, rfl, by decide +kernel, by decide +kernel⟩
-- slots: 0 self
theorem k_Workshop_initial (T : Txt K mg CP CW CN SD) : KpM P w K mg base CX0 1 CW "initial" ["self"] (spWsI CW) := by
  refine T.d_Workshop_initial.ok sc_Workshop_initial (fun vs H Q E h => ?_) (fun f cdv A outer s H vs Q E hr h => ?_)
  · obtain ⟨a, lo, lc, i, hs, rfl, _⟩ := h
    rfl
  · obtain ⟨a, lo, lc, i, hs, rfl, ⟨dx, os, cs, ha, hb⟩, k⟩ := h
    obtain ⟨v1, e1, h1⟩ := hb.first
    refine ⟨_, (pss_one (ps_ret (pe_ix ix_list (pe_fld (pv 0) rfl) pe_int (fun _ _ => rfl)))), ?_⟩
    exact ⟨_, rfl, a, CW, dx, _, _, rfl, ha, T.cl_Workshop, T.n_Workshop_orders, wsF_o, lo, _, _, _, rfl, rfl, SqL.of hb.ho, atI_nat (j := 0) e1, k v1 h1⟩
def spWsC (CW : Addr) : Sp := fun vs H Q _ => ∃ (a lo lc : Addr) (i : Ord Str) (hs : Hs), vs = [.ref a] ∧ WsA CW H a lo lc i hs ∧ ∀ v, OrdA H v (cur i hs) → Q v H
abbrev N_Workshop_current : List Str := ["self"]
theorem sc_Workshop_current : FnScope N_Workshop_current ["self"] (defScope s_Workshop_current) := ⟨rfl, rfl, rfl, by decide +kernel, rfl, by decide +kernel, by decide +kernel⟩
-- slots: 0 self
theorem k_Workshop_current (T : Txt K mg CP CW CN SD) : KpM P w K mg base CX0 1 CW "current" ["self"] (spWsC CW) := by
  refine T.d_Workshop_current.ok sc_Workshop_current (fun vs H Q E h => ?_) (fun f cdv A outer s H vs Q E hr h => ?_)
  · obtain ⟨a, lo, lc, i, hs, rfl, _⟩ := h
    rfl
  · obtain ⟨a, lo, lc, i, hs, rfl, ⟨dx, os, cs, ha, hb⟩, k⟩ := h
    obtain ⟨v2, e2, h2⟩ := hb.last
    refine ⟨_, (pss_one (ps_ret (pe_ix ix_list (pe_fld (pv 0) rfl) (pe_un un_neg pe_int) (fun _ _ => rfl)))), ?_⟩
    exact ⟨_, rfl, a, CW, dx, _, _, rfl, ha, T.cl_Workshop, T.n_Workshop_orders, wsF_o, 1, rfl, lo, _, _, _, rfl, rfl, SqL.of hb.ho, at_last e2, k v2 h2⟩
def CmdsA (H : Hp) (v : V) (cs : List (Cmd Str)) : Prop := ∃ a xs, v = .ref a ∧ Tp H a xs ∧ Paired (CmdA H) xs cs
theorem CmdsA.tm {H H2 : Hp} {v : V} {cs : List (Cmd Str)} (s : TM H H2) (h : CmdsA H v cs) : CmdsA H2 v cs := by
  obtain ⟨a, xs, e, h, p⟩ := h
  exact ⟨a, xs, e, h.tm s, Paired.mapP p fun _ _ q => q.tm s⟩
def spWsJ (CW : Addr) : Sp := fun vs H Q _ => ∃ (a lo lc : Addr) (i : Ord Str) (hs : Hs), vs = [.ref a] ∧ WsA CW H a lo lc i hs ∧ ∀ v H2, Same H H2 → CmdsA H2 v (hs.map (·.1)) → Q v H2
abbrev N_Workshop_journal : List Str := ["self"]
theorem sc_Workshop_journal : FnScope N_Workshop_journal ["self"] (defScope s_Workshop_journal) := ⟨rfl, rfl, rfl, by decide +kernel, rfl, by decide +kernel, by decide +kernel⟩
-- slots: 0 self
theorem k_Workshop_journal (T : Txt K mg CP CW CN SD) : KpM P w K mg base CX0 1 CW "journal" ["self"] (spWsJ CW) := by
  refine T.d_Workshop_journal.ok sc_Workshop_journal (fun vs H Q E h => ?_) (fun f cdv A outer s H vs Q E hr h => ?_)
  · obtain ⟨a, lo, lc, i, hs, rfl, _⟩ := h
    rfl
  · obtain ⟨a, lo, lc, i, hs, rfl, ⟨dx, os, cs, ha, hb⟩, k⟩ := h
    refine ⟨_, (pss_one (ps_ret (pe_callTy call_tupS rfl T.b_tuple (by decide +kernel) (pa_cons (pe_fld (pv 0) rfl) pa_nil)))), ?_⟩
    exact ⟨_, rfl, a, CW, dx, _, _, rfl, ha, T.cl_Workshop, T.n_Workshop_commands, wsF_c, lc, _, rfl, SqL.of hb.hc, fun l H2 s2 h2 => k _ H2 s2 ⟨l, _, rfl, h2, Paired.mapP hb.pc fun _ _ q => q.tm (TM.of s2)⟩⟩
/-! ### undo -/
def spWsU (CW : Addr) : Sp := fun vs H Q _ => ∃ (a lo lc : Addr) (i : Ord Str) (hs : Hs), vs = [.ref a] ∧ WsA CW H a lo lc i hs ∧ (hs = [] → Q .non H) ∧ ∀ hs' c z, hs = hs' ++ [(c, z)] → ∀ v H2, But2 lo lc H H2 → CmdA H2 v c → WsA CW H2 a lo lc i hs' → Q v H2
abbrev N_Workshop_undo : List Str := ["self"]
theorem sc_Workshop_undo : FnScope N_Workshop_undo ["self"] (defScope s_Workshop_undo) := ⟨rfl, rfl, rfl, by decide +kernel, rfl, by decide +kernel, by decide +kernel⟩
-- slots: 0 self
theorem k_Workshop_undo (T : Txt K mg CP CW CN SD) : KpM P w K mg base CX0 1 CW "undo" ["self"] (spWsU CW) := by
  refine T.d_Workshop_undo.ok sc_Workshop_undo (fun vs H Q E h => ?_) (fun f cdv A outer s H vs Q E hr h => ?_)
  · obtain ⟨a, lo, lc, i, hs, rfl, _⟩ := h
    rfl
  · obtain ⟨a, lo, lc, i, hs, rfl, ⟨dx, os, cs, ha, hb⟩, k0, k⟩ := h
    obtain ⟨hl1, hl2⟩ := hb.lens
    refine ⟨_, (pss_cons (ps_if (pt_not (pt_truth (pe_fld (pv 0) rfl) (by intro _; rfl))) (pss_one (ps_ret pe_non)) pss_nil)
      (pss_cons (ps_expr (pe_bm0 PySem.F.plainAttrs_list PySem.F.slot_list_pop PySem.F.type_list_pop mt_pop (pe_fld (pv 0) rfl)))
      (pss_one (ps_ret (pe_bm0 PySem.F.plainAttrs_list PySem.F.slot_list_pop PySem.F.type_list_pop mt_pop (pe_fld (pv 0) rfl)))))), ?_⟩
    rcases List.eq_nil_or_concat hs with e | ⟨hs', p, e⟩
    · have ec : cs = [] := List.length_eq_zero_iff.mp (by rw [hl2, e]; rfl)
      refine ⟨_, rfl, a, CW, dx, _, _, rfl, ha, T.cl_Workshop, T.n_Workshop_commands, wsF_c, false, .inl ⟨_, SqL.of hb.hc, by rw [ec]; rfl⟩, iteT ?_⟩
      exact k0 e
    · rw [List.concat_eq_append] at e
      have hne : cs ≠ [] := fun z => by
        rw [z, e, List.length_append] at hl2
        simp at hl2
      refine ⟨_, rfl, a, CW, dx, _, _, rfl, ha, T.cl_Workshop, T.n_Workshop_commands, wsF_c, true, .inl ⟨_, SqL.of hb.hc, by rw [List.isEmpty_eq_false_iff.mpr hne]; rfl⟩, iteF ?_⟩
      have po := hb.po
      have pc := hb.pc
      rw [e, List.map_append, List.map_cons, List.map_nil, ← List.cons_append] at po
      rw [e, List.map_append, List.map_cons, List.map_nil] at pc
      obtain ⟨po1, y1, po2, po3⟩ := Paired.drop po
      obtain ⟨pc1, y2, pc2, pc3⟩ := Paired.drop pc
      have nla : a ≠ lo := fun z => by rw [z, hb.ho] at ha; cases ha
      have nca : a ≠ lc := fun z => by rw [z, hb.hc] at ha; cases ha
      refine ⟨_, rfl, a, CW, dx, _, _, rfl, ha, T.cl_Workshop, T.n_Workshop_orders, wsF_o, .inl ⟨rfl, _, SqL.of hb.ho⟩, lo, _, _, rfl, rfl, hb.ho, po2, ?_⟩
      have hc1 : upd H lo (.lst os.dropLast) lc = some (.lst cs) := (upd_ne hb.ne.symm).trans hb.hc
      refine ⟨_, rfl, a, CW, dx, _, _, rfl, (upd_ne nla).trans ha, T.cl_Workshop, T.n_Workshop_commands, wsF_c, .inl ⟨rfl, _, SqL.of hc1⟩, lc, _, _, rfl, rfl, hc1, pc2, ?_⟩
      have b2 : But2 lo lc H (upd (upd H lo (.lst os.dropLast)) lc (.lst cs.dropLast)) := fun b ob n1 n2 e => by
        rw [upd_ne n2, upd_ne n1]
        exact e
      have tm := b2.tm hb.ho hb.hc
      refine k hs' p.1 p.2 e y2 _ b2 (pc3.tm tm) ⟨dx, _, _, ?_, hb.ne, ?_, Paired.mapP po1 fun _ _ q => q.tm tm, upd_same, Paired.mapP pc1 fun _ _ q => q.tm tm⟩
      · rw [upd_ne nca, upd_ne nla]
        exact ha
      · rw [upd_ne hb.ne, upd_same]
end
end Fw

set_option maxHeartbeats 4000000
/-! FwE1: do, records, replayed -/
namespace Fw
open PySem PySem.Spec PySem.W PyProof.Rows L2
/-- a record -/
def RecA (i : Ord Str) (H : Hp) (v : V) (p : Cmd Str × Ord Str) : Prop := ∃ a u0 u1 u2, v = .ref a ∧ Tp H a [u0, u1, u2] ∧ CmdA H u0 p.1 ∧ RulsA H u1 (shortR i p.2) ∧ IntsA H u2 (levs i p.2)
theorem RecA.tm {i : Ord Str} {H H2 : Hp} {v : V} {p : Cmd Str × Ord Str} (s : TM H H2) (h : RecA i H v p) : RecA i H2 v p := by
  obtain ⟨a, u0, u1, u2, e, h, h0, h1, h2⟩ := h
  exact ⟨a, u0, u1, u2, e, h.tm s, h0.tm s, h1.tm s, h2.tm s⟩
def RecsA (i : Ord Str) (H : Hp) (v : V) (hs : Hs) : Prop := ∃ a xs, v = .ref a ∧ Tp H a xs ∧ Paired (RecA i H) xs hs
theorem RecsA.tm {i : Ord Str} {H H2 : Hp} {v : V} {hs : Hs} (s : TM H H2) (h : RecsA i H v hs) : RecsA i H2 v hs := by
  obtain ⟨a, xs, e, h, p⟩ := h
  exact ⟨a, xs, e, h.tm s, Paired.mapP p fun _ _ q => q.tm s⟩
theorem take_getH {hs : Hs} {t : Nat} {p : Cmd Str × Ord Str} (h : hs[t]? = some p) : hs.take (t + 1) = hs.take t ++ [p] := by
  rw [List.take_add_one, h]
  rfl
section
variable {P : Program} {w : World} {K : PySem.W.Frag} {mg : Str → Option Value} {base : Heap} {CP CW CN SD : Addr}
def spWsDo (CW CN : Addr) : Sp := fun vs H Q E => ∃ (a lo lc : Addr) (i : Ord Str) (hs : Hs) (u : V) (c : Cmd Str), vs = [.ref a, u] ∧ WsA CW H a lo lc i hs ∧ Hist i hs ∧ hs.length < 20 ∧ CmdA H u c ∧ CO c ∧ (∀ r, c = .rule r → r.anc ∈ (cur i hs).ls) ∧
  (∀ z, stepX i (cur i hs) c = .inl z → ∀ H2, But2 lo lc H H2 → WsA CW H2 a lo lc i (hs ++ [(c, z)]) → Q (.int (dist i z)) H2) ∧ ∀ k, stepX i (cur i hs) c = .inr k → Raises1 CN H E k
abbrev N_Workshop_do : List Str := ["self", "command", "order"]
theorem sc_Workshop_do : FnScope N_Workshop_do ["self", "command"] (defScope s_Workshop_do) := ⟨rfl, rfl, rfl, by decide +kernel, rfl, by decide +kernel, by decide +kernel⟩
-- slots: 0 self, 1 command, 2 order
theorem k_Workshop_do (T : Txt K mg CP CW CN SD) : KpM P w K mg base (L2.CX P w) 8 CW "do" ["self", "command"] (spWsDo CW CN) := by
  refine T.d_Workshop_do.okX sc_Workshop_do (fun vs H Q E h => ?_) (fun f cdv A outer s H vs Q E hr h => ?_)
  · obtain ⟨a, lo, lc, i, hs, u, c, rfl, _⟩ := h
    rfl
  · obtain ⟨a, lo, lc, i, hs, u, c, rfl, hw, hh, hl, hc, co, fit, k, kx⟩ := h
    refine ⟨_, (pss_cons (ps_if (pt_not (pt_val (pe_g (k_is_command T) (hr.mono (by decide)) pass0 (pa_cons (pv 1) pa_nil)))) pss_never pss_nil)
      (pss_cons (ps_set (i := 2) sc_Workshop_do.nd rfl (Or.inl rfl) (pe_g (k_behind T) (hr.mono (by decide)) (passes_call (takes_of rfl rfl rfl rfl) fun _ _ _ _ h => h) (pa_cons (pe_ix ix_list (pe_fld (pv 0) rfl) pe_int (fun _ _ => rfl)) (pa_cons (pe_ix ix_list (pe_fld (pv 0) rfl) (pe_un un_neg pe_int) (fun _ _ => rfl)) (pa_cons (pv 1) pa_nil)))))
      (pss_cons (ps_if (pt_cmpR op_eq (pe_callB call_len rfl T.b_len (by decide +kernel) (pa_cons (pe_fld (pv 0) rfl) pa_nil)) (pe_gi T.c_MOST_COMMANDS) (nomark _)) pss_never pss_nil)
      (pss_cons (ps_expr (pe_bm PySem.F.plainAttrs_list PySem.F.slot_list_append PySem.F.type_list_append mt_append (pe_fld (pv 0) rfl) (pa_cons (pv 1) pa_nil)))
      (pss_cons (ps_expr (pe_bm PySem.F.plainAttrs_list PySem.F.slot_list_append PySem.F.type_list_append mt_append (pe_fld (pv 0) rfl) (pa_cons (pv 2) pa_nil)))
      (pss_one (ps_ret (pe_mg0 (k_Workshop_distance T) T.cl_Workshop (hr.mono (by decide)) pass0 (pv 0))))))))), ?_⟩
    refine ⟨_, rfl, u, c, rfl, hc, co, fun H2 s2 => ⟨true, rfl, iteF ?_⟩⟩
    obtain ⟨dx, os, cs, ha, hb⟩ := hw.same s2
    have hc2 := hc.tm (TM.of s2)
    obtain ⟨v1, e1, h1⟩ := hb.first
    obtain ⟨v2, e2, h2⟩ := hb.last
    obtain ⟨hl1, hl2⟩ := hb.lens
    refine ⟨_, rfl, a, CW, dx, _, _, rfl, ha, T.cl_Workshop, T.n_Workshop_orders, wsF_o, lo, _, _, _, rfl, rfl, SqL.of hb.ho, atI_nat (j := 0) e1, ?_⟩
    refine ⟨_, rfl, a, CW, dx, _, _, rfl, ha, T.cl_Workshop, T.n_Workshop_orders, wsF_o, 1, rfl, lo, _, _, _, rfl, rfl, SqL.of hb.ho, at_last e2, _, rfl, ?_⟩
    refine ⟨v1, v2, u, i, cur i hs, c, rfl, h1, h2, hc2, co, hh.cur.wo, fit, fun z hz v3 H3 s3 h3 => ?_, fun j hj => (kx j hj).same s2⟩
    have ha3 := s3 _ _ ha
    have hb3 := hb.same s3
    have nla : a ≠ lo := fun z => by rw [z, hb.ho] at ha; cases ha
    have nca : a ≠ lc := fun z => by rw [z, hb.hc] at ha; cases ha
    refine ⟨_, rfl, a, CW, dx, _, _, rfl, ha3, T.cl_Workshop, T.n_Workshop_commands, wsF_c, _, cs.length, rfl, .inl ⟨_, SqL.of hb3.hc, rfl⟩, rfl, false, congrArg V.bl (decide_eq_false fun z => by have := V.int.inj z; omega), iteF ?_⟩
    refine ⟨_, rfl, a, CW, dx, _, _, rfl, ha3, T.cl_Workshop, T.n_Workshop_commands, wsF_c, .inl ⟨rfl, _, SqL.of hb3.hc⟩, _, rfl, lc, _, _, rfl, rfl, hb3.hc, small' (by omega), ?_⟩
    have ho1 : upd H3 lc (.lst (cs ++ [u])) lo = some (.lst os) := (upd_ne hb.ne).trans hb3.ho
    refine ⟨_, rfl, a, CW, dx, _, _, rfl, (upd_ne nca).trans ha3, T.cl_Workshop, T.n_Workshop_orders, wsF_o, .inl ⟨rfl, _, SqL.of ho1⟩, _, rfl, lo, _, _, rfl, rfl, ho1, small' (by omega), ?_⟩
    have b4 : But2 lo lc H3 (upd (upd H3 lc (.lst (cs ++ [u]))) lo (.lst (os ++ [v3]))) := fun b ob n1 n2 e => by
      rw [upd_ne n1, upd_ne n2]
      exact e
    have tm := b4.tm hb3.ho hb3.hc
    have hw4 : WsA CW (upd (upd H3 lc (.lst (cs ++ [u]))) lo (.lst (os ++ [v3]))) a lo lc i (hs ++ [(c, z)]) := by
      refine ⟨dx, os ++ [v3], cs ++ [u], ?_, hb.ne, upd_same, ?_, ?_, ?_⟩
      · rw [upd_ne nla, upd_ne nca]
        exact ha3
      · rw [List.map_append, ← List.cons_append]
        exact Paired.app (Paired.mapP hb3.po fun _ _ q => q.tm tm) (.cons (h3.tm tm) .nil)
      · rw [upd_ne hb.ne.symm, upd_same]
      · rw [List.map_append]
        exact Paired.app (Paired.mapP hb3.pc fun _ _ q => q.tm tm) (.cons ((hc2.tm (TM.of s3)).tm tm) .nil)
    generalize upd (upd H3 lc (.lst (cs ++ [u]))) lo (.lst (os ++ [v3])) = H4 at b4 tm hw4 ⊢
    have hh4 := hh.snoc ⟨co, hz, fit⟩
    have hw5 := hw4
    obtain ⟨dx5, os5, cs5, ha5, hb5⟩ := hw5
    refine ⟨_, rfl, a, dx5, _, rfl, ha5, wsF_n (by decide +kernel) (by decide +kernel), a, lo, lc, i, _, rfl, hw4, hh4, fun H5 s5 => ?_⟩
    rw [cur_snoc]
    exact k z hz H5 (((But2.of (s2.trans s3)).trans b4).trans (But2.of s5)) (hw4.same s5)
/-! ### records -/
def spWsR (CW : Addr) : Sp := fun vs H Q _ => ∃ (a lo lc : Addr) (i : Ord Str) (hs : Hs), vs = [.ref a] ∧ WsA CW H a lo lc i hs ∧ Hist i hs ∧ hs.length ≤ 20 ∧ ∀ v H2, Same H H2 → RecsA i H2 v hs → Q v H2
abbrev N_Workshop_records : List Str := ["self", "found", "at", "command"]
theorem sc_Workshop_records : FnScope N_Workshop_records ["self"] (defScope s_Workshop_records) := ⟨rfl, rfl, rfl, by decide +kernel, rfl, by decide +kernel, by decide +kernel⟩
-- slots: 0 self, 1 found, 2 at, 3 command
theorem k_Workshop_records (T : Txt K mg CP CW CN SD) : KpM P w K mg base CX0 8 CW "records" ["self"] (spWsR CW) := by
  refine T.d_Workshop_records.ok sc_Workshop_records (fun vs H Q E h => ?_) (fun f cdv A outer s H vs Q E hr h => ?_)
  · obtain ⟨a, lo, lc, i, hs, rfl, _⟩ := h
    rfl
  · obtain ⟨a, lo, lc, i, hs, rfl, ⟨dx, os, cs, ha, hb⟩, hh, hl, k⟩ := h
    obtain ⟨v1, e1, h1⟩ := hb.first
    obtain ⟨hl1, hl2⟩ := hb.lens
    refine ⟨_, (pss_cons (ps_set (i := 1) sc_Workshop_records.nd rfl (Or.inl rfl) (pe_lst pa_nil))
      (pss_cons (ps_for PassesOwn.never rfl (pi_enum rfl T.b_enumerate (pa_cons (pe_fld (pv 0) rfl) pa_nil)) (pg_tup rfl (pgs_cons (pg_name (i := 2) sc_Workshop_records.nd rfl (Or.inl rfl)) (pgs_cons (pg_name (i := 3) sc_Workshop_records.nd rfl (Or.inl rfl)) pgs_nil)))
      (pss_one (ps_expr (pe_bm PySem.F.plainAttrs_list PySem.F.slot_list_append PySem.F.type_list_append mt_append (pv 1) (pa_cons (pe_tupS (pa_cons (pv 3) (StX.pa_star (pe_g (k_answer_for T) (hr.mono (by decide)) pass0 (pa_cons (pe_ix ix_list (pe_fld (pv 0) rfl) pe_int (fun _ _ => rfl)) (pa_cons (pe_ix ix_list (pe_fld (pv 0) rfl) (pe_op op_add (pv 2) pe_int) (fun _ _ => rfl)) pa_nil))) pa_nil))) pa_nil)))))
      (pss_one (ps_ret (pe_callTy call_tupS rfl T.b_tuple (by decide +kernel) (pa_cons (pv 1) pa_nil)))))), ?_⟩
    refine ⟨(by show 0 ≤ sizeLine; decide), fun pf hpf => ?_⟩
    have s1 : Same H (upd H pf (.lst [])) := Same.new hpf
    refine ⟨_, rfl, a, CW, dx, _, _, rfl, s1 _ _ ha, T.cl_Workshop, T.n_Workshop_commands, wsF_c, lc, cs, rfl, SqL.of (s1 _ _ hb.hc), for_enumL (xs := cs) (fun t σ H4 => ∃ acc w2 w3, Same H H4 ∧ H4 pf = some (.lst acc) ∧ Paired (RecA i H4) acc (hs.take t) ∧ σ = [some (.ref a), some (.ref pf), w2, w3]) ⟨[], none, none, s1, upd_same, .nil, rfl⟩ (fun t σ H4 h => ?_) ?_ ?_⟩
    · obtain ⟨_, _, _, s4, _⟩ := h
      exact SqL.of (s4 _ _ hb.hc)
    · rintro t u T4 σ H4 hu ⟨acc, w2, w3, s4, h4, hp4, rfl⟩ hT4
      obtain ⟨c, hc1, hc2⟩ := Paired.get hb.pc hu
      have ht : t < hs.length := by
        have := (List.getElem?_eq_some_iff.mp hu).1
        omega
      have ep : hs[t]? = some hs[t] := List.getElem?_eq_getElem ht
      have ec : c = hs[t].1 := by
        rw [List.getElem?_map, ep] at hc1
        exact (Option.some.inj hc1).symm
      obtain ⟨v2, e2, h2⟩ := Paired.at2 (i := t + 1) (y := hs[t].2) hb.po (by rw [List.getElem?_cons_succ, List.getElem?_map, ep]; rfl)
      have s45 : Same H4 (upd H4 T4 (.tup [.int (t : Nat), u])) := Same.new hT4
      have s05 := s4.trans s45
      have ha5 := s05 _ _ ha
      have hb5 := hb.same s05
      refine ⟨T4, _, rfl, SqT.of upd_same, rfl, _, _, rfl, _, _, rfl, rfl, ?_⟩
      refine ⟨_, rfl, .inl ⟨rfl, _, SqL.of (s45 _ _ h4)⟩, _, rfl, ?_⟩
      refine ⟨_, rfl, a, CW, dx, _, _, rfl, ha5, T.cl_Workshop, T.n_Workshop_orders, wsF_o, lo, _, _, _, rfl, rfl, SqL.of hb5.ho, atI_nat (j := 0) e1, ?_⟩
      refine ⟨_, rfl, a, CW, dx, _, _, rfl, ha5, T.cl_Workshop, T.n_Workshop_orders, wsF_o, _, rfl, _, _, rfl, rfl, lo, _, _, _, rfl, rfl, SqL.of hb5.ho, at_nat (j := t + 1) (by omega) e2, ?_⟩
      refine ⟨v1, v2, i, hs[t].2, rfl, h1.tm (TM.of s05), h2.tm (TM.of s05), hh.two _ (List.getElem_mem ht), fun p u1 u2 H6 s6 hp6 hu1 hu2 => ?_⟩
      refine ⟨p, _, rfl, .inl hp6.sq, (by show 3 ≤ 1000; decide), fun q H7 s7 hq => ?_⟩
      have s47 := (s45.trans s6).trans s7
      have s07 := s4.trans s47
      have h7 := s47 _ _ h4
      have hla : acc.length ≤ 20 := by
        have := hp4.length
        rw [List.length_take] at this
        omega
      refine ⟨pf, acc, _, rfl, rfl, h7, small' (by omega), ?_⟩
      have hpf0 : H pf = none := hpf
      have tm : TM H7 (upd H7 pf (.lst (acc ++ [.ref q]))) := TM.lst h7
      refine ⟨acc ++ [.ref q], _, _, Same.mut s07 hpf0, upd_same, ?_, rfl⟩
      rw [take_getH ep]
      refine Paired.app (Paired.mapP hp4 fun _ _ r => (r.tm (TM.of s47)).tm tm) (.cons ?_ .nil)
      refine ⟨q, u, u1, u2, rfl, hq.tm tm, ?_, (hu1.tm (TM.of s7)).tm tm, (hu2.tm (TM.of s7)).tm tm⟩
      rw [← ec]
      exact (hc2.tm (TM.of s07)).tm tm
    · rintro σ H4 ⟨acc, w2, w3, s4, h4, hp4, rfl⟩
      rw [hl2, List.take_length] at hp4
      exact ⟨_, rfl, pf, _, rfl, SqL.of h4, fun l H5 s5 h5 => k _ H5 (s4.trans s5) ⟨l, _, rfl, h5, Paired.mapP hp4 fun _ _ q => q.tm (TM.of s5)⟩⟩
/-! ### replayed -/
def spReplay (CW CN : Addr) : Sp := fun vs H Q E => ∃ (v u : V) (i : Ord Str) (hs : Hs) (cmds : List (Cmd Str)), vs = [v, u] ∧ OrdA H v i ∧ CmdsA H u cmds ∧ (∀ c ∈ cmds, CO c) ∧ cmds.length ≤ 20 ∧ Hist i hs ∧
  ((cmds = hs.map (·.1) ∧ ∀ a lo lc H2, Same H H2 → H a = none → H lo = none → H lc = none → WsA CW H2 a lo lc i hs → Q (.ref a) H2) ∨
    ∃ c k, cmds = hs.map (·.1) ++ [c] ∧ (∀ r, c ≠ .rule r) ∧ stepX i (cur i hs) c = .inr k ∧ Raises1 CN H E k)
abbrev N_replayed : List Str := ["order", "journal", "workshop", "command"]
theorem sc_replayed : FnScope N_replayed ["order", "journal"] (defScope s_replayed) := ⟨rfl, rfl, rfl, by decide +kernel, rfl, by decide +kernel, by decide +kernel⟩
-- slots: 0 order, 1 journal, 2 workshop, 3 command
theorem k_replayed (T : Txt K mg CP CW CN SD) : Kp P w K mg base (L2.CX P w) 9 "replayed" ["order", "journal"] (spReplay CW CN) := by
  refine T.d_replayed.okX sc_replayed (fun vs H Q E h => ?_) (fun f cdv A outer s H vs Q E hr h => ?_)
  · obtain ⟨v, u, i, hs, cmds, rfl, _⟩ := h
    rfl
  · obtain ⟨v, u, i, hs, cmds, rfl, hv, ⟨j, xs, rfl, hj, hp⟩, co, hl, hh, hor⟩ := h
    have hlp := hp.length
    refine ⟨_, (pss_cons (ps_expr (pe_g (k_check_order T) (hr.mono (by decide)) pass0 (pa_cons (pv 0) (pa_cons pe_str pa_nil))))
      (pss_cons (ps_if (PW.pt (pw_or (pt_not (pt_val (pe_isi (b := "tuple") rfl T.b_isinstance T.b_tuple (by decide +kernel) (pv 1)))) (pw_or1 (pt_cmpR op_gt (pe_callB call_len rfl T.b_len (by decide +kernel) (pa_cons (pv 1) pa_nil)) (pe_gi T.c_MOST_COMMANDS) (nomark _))))) pss_never pss_nil)
      (pss_cons (ps_if (pt_not (pt_val (pe_callB (cr_all rfl) rfl T.b_all (by decide +kernel) (pa_cons (pe_lc (own := [("command", 3)]) rfl sc_replayed.nd (pi_tup (pv 1)) (blkOk_by (own := [("command", 3)]) (N := N_replayed) (sc := defScope s_replayed) (by decide +kernel)) (fun _ _ _ _ _ => (pg_name (i := 3) sc_replayed.nd rfl (Or.inl rfl))) (fun _ _ _ _ _ => pts_nil) (fun _ _ _ _ _ => (pe_g (k_is_command T) (hr.mono (by decide)) pass0 (pa_cons (pv 3) pa_nil)))) pa_nil)))) pss_never pss_nil)
      (pss_cons (ps_set (i := 2) sc_replayed.nd rfl (Or.inl rfl) (pe_ig (k_Workshop_init T) (hr.mono (by decide)) T.g_Workshop pass0 (pa_cons (pv 0) pa_nil)))
      (pss_cons (ps_for (passes_of rfl) rfl (pi_tup (pv 1)) (pg_name (i := 3) sc_replayed.nd rfl (Or.inl rfl))
      (pss_one (ps_expr (pe_mg (k_Workshop_do T) T.cl_Workshop (hr.mono (by decide)) (passes_call (takes_of rfl rfl rfl rfl) fun _ _ _ _ h => h) (pv 2) (pa_cons (pv 3) pa_nil)))))
      (pss_one (ps_ret (pv 2)))))))), ?_⟩
    refine ⟨_, rfl, v, _, i, rfl, hv, hh.wo, fun H2 s2 => ?_⟩
    have hj2 := hj.same s2
    refine ⟨_, rfl, _, _, "tuple", true, rfl, hj2.ty, by decide +kernel, true, rfl, iteF ?_⟩
    refine ⟨_, rfl, _, xs.length, rfl, .inr ⟨_, hj2.sq, rfl⟩, _, _, rfl, rfl, false, congrArg V.bl (decide_eq_false (by omega)), iteF ?_⟩
    refine ⟨_, rfl, j, rfl, ⟨_, hj2.sq⟩, lcAll (src_tup hj2.sq) (by omega) (fun t y H3 Kt ht s3 hy kt => ?_) (fun D H3 s3 hD => ?_)⟩
    · obtain ⟨c, hc1, hc2⟩ := Paired.get hp hy
      exact ⟨rfl, _, rfl, y, c, rfl, hc2.tm (TM.of (s2.trans s3)), co c (List.mem_of_getElem? hc1), kt⟩
    · refine ⟨D, _, rfl, SqL.of hD, ?_⟩
      rw [all_true]
      refine ⟨true, rfl, iteF ?_⟩
      have s03 := s2.trans s3
      refine ⟨_, rfl, fun x dx hx hdx hne => ⟨x, dx, v, i, rfl, upd_same, (hv.tm (TM.of s03)).tm (made_tm hx hdx), hh.wo, fun lo lc H4 b4 hlo hlc hw => ⟨rfl, ?_⟩⟩⟩
      have s4 := made_same hx hdx b4
      have s04 := s03.trans s4
      have fr : ∀ {b : Addr}, upd (upd H3 dx (.own x)) x (.ins CW dx []) b = none → H b = none := fun {b} e => by
        have nb : b ≠ x := fun z => by rw [z, upd_same] at e; cases e
        rw [upd_ne nb] at e
        have nd : b ≠ dx := fun z => by rw [z, upd_same] at e; cases e
        rw [upd_ne nd] at e
        exact same_non s03 e
      have fx : H x = none := same_non s03 hx
      have flo := fr hlo
      have flc := fr hlc
      refine ⟨_, rfl, j, rfl, ⟨_, (hj.same s04).sq⟩, for_tup (xs := xs) (fun t σ H5 => t ≤ hs.length ∧ ∃ w3, Same H H5 ∧ WsA CW H5 x lo lc i (hs.take t) ∧ σ = [some v, some (.ref j), some (.ref x), w3]) ⟨Nat.zero_le _, none, s04, hw, rfl⟩ (fun t σ H5 _ h => ?_) ?_ ?_⟩
      · obtain ⟨_, _, s5, _⟩ := h
        exact (hj.same s5).sq
      · rintro t y σ H5 hy ⟨ht, w3, s5, hw5, rfl⟩
        obtain ⟨c, hc1, hc2⟩ := Paired.get hp hy
        have hw6 := hw5
        obtain ⟨dx6, os6, cs6, ha6, hb6⟩ := hw6
        have htl : t < xs.length := (List.getElem?_eq_some_iff.mp hy).1
        have hlt : (hs.take t).length < 20 := by
          rw [List.length_take]
          omega
        refine ⟨_, rfl, x, dx6, _, rfl, ha6, wsF_n (by decide +kernel) (by decide +kernel), _, rfl, x, lo, lc, i, hs.take t, y, c, rfl, hw5, hh.take t, hlt, hc2.tm (TM.of s5), co c (List.mem_of_getElem? hc1), ?_⟩
        by_cases h1 : t < hs.length
        · have ep : hs[t]? = some hs[t] := List.getElem?_eq_getElem h1
          have ec : c = hs[t].1 := by
            rcases hor with ⟨e, _⟩ | ⟨c', k', e, _⟩
            · rw [e, List.getElem?_map, ep] at hc1
              exact (Option.some.inj hc1).symm
            · rw [e, List.getElem?_append_left (by rw [List.length_map]; exact h1), List.getElem?_map, ep] at hc1
              exact (Option.some.inj hc1).symm
          have st := hh.step t c hs[t].2 (by rw [ep, ec])
          refine ⟨st.fit, fun z hz H6 b6 hw7 => ?_, fun k hk => ?_⟩
          · rw [st.st] at hz
            cases hz
            refine ⟨h1, _, fun b ob e => b6 b ob (ne_of_none e flo) (ne_of_none e flc) (s5 b ob e), ?_, rfl⟩
            rw [take_getH ep]
            rw [ec] at hw7
            exact hw7
          · rw [st.st] at hk
            cases hk
        · have et : t = hs.length := by omega
          rcases hor with ⟨e, _⟩ | ⟨c', k', e, hnr, hx', hk'⟩
          · rw [e, List.length_map] at hlp
            omega
          · rw [e, List.getElem?_append_right (by rw [List.length_map]; omega), List.length_map, et, Nat.sub_self] at hc1
            cases hc1
            rw [et, List.take_length]
            refine ⟨fun r hr => absurd hr (hnr r), fun z hz => ?_, fun k hk => ?_⟩
            · rw [hx'] at hz
              cases hz
            · rw [hx'] at hk
              cases hk
              exact hk'.same s5
      · rintro σ H5 ⟨ht, w3, s5, hw5, rfl⟩
        rcases hor with ⟨e, k⟩ | ⟨c', k', e, _⟩
        · rw [e, List.length_map] at hlp
          rw [hlp, List.take_length] at hw5
          exact ⟨_, rfl, k x lo lc H5 s5 fx flo flc hw5⟩
        · rw [e, List.length_append, List.length_map, List.length_singleton] at hlp
          omega
end
end Fw

set_option maxHeartbeats 4000000
/-! FwE2: the law's own helpers -/
namespace Fw
open PySem PySem.Spec PySem.W PyProof.Rows L2
/-- the stream: a list of the numbers, the number in work, how many were taken -/
def StrA (H : Hp) (p s0 : Addr) (xs : List Int) : Prop := p ≠ s0 ∧ ∃ (n : Int) (k : Nat), H p = some (.lst [.ref s0, .int n, .int (k : Nat)]) ∧ H s0 = some (.lst (iV xs))
theorem StrA.same {H H2 : Hp} {p s0 : Addr} {xs : List Int} (s : Same H H2) (h : StrA H p s0 xs) : StrA H2 p s0 xs := by
  obtain ⟨n, a, b, h1, h2⟩ := h
  exact ⟨n, a, b, s _ _ h1, s _ _ h2⟩
theorem StrA.tm {H H2 : Hp} {p s0 : Addr} {xs : List Int} (s : But p H H2) (h : StrA H p s0 xs) : TM H H2 := by
  obtain ⟨n, a, b, h1, h2⟩ := h
  exact TM.but h1 s
/-- a comprehension over a range whose turns may change what stood -/
theorem lcM {lo : Int} {n : Nat} {H1 : Hp} {g : TG} {te : TE} {vs : List Nat} {σ : L2.St} {Qd : Addr → Hp → Prop} (hn : n ≤ 5000) (Iv : Addr → Nat → List V → Hp → Prop) (h0 : ∀ D, H1 D = none → Iv D 0 [] (upd H1 D (.lst [])))
    (turn : ∀ D i acc H (Kt : V → Hp → Prop), H1 D = none → i < n → H D = some (.lst acc) → Iv D i acc H → (∀ y H4, H4 D = some (.lst acc) → Iv D (i + 1) (acc ++ [y]) (upd H4 D (.lst (acc ++ [y]))) → Kt y H4) → g (.int (lo + (i : Nat))) (wipe σ vs) H fun σ2 H2 => wipe σ2 vs = wipe σ vs ∧ te σ2 H2 Kt)
    (done : ∀ D acc H, H1 D = none → acc.length = n → H D = some (.lst acc) → Iv D n acc H → Qd D H) :
    ∀ D, H1 D = none → ∃ W : Nat → Nat → Hp → Prop, (∃ m, W 0 m (upd H1 D (.lst []))) ∧ ∀ i m H, W i m H →
      ((Itr lo n).stop i H ∧ Qd D H) ∨ ((Itr lo n).go i H ∧ ∃ Nx : Hp → Prop, (∀ H2, Nx H2 → ∃ m', m' < m ∧ W (i + 1) m' H2) ∧ ∀ x H2, (Itr lo n).yld i H x H2 → g x (wipe σ vs) H2 fun σ2 H2 => wipe σ2 vs = wipe σ vs ∧ tYes σ2 H2 fun b H3 =>
        if b = true then te σ2 H3 fun y H4 => ∃ acc, H4 D = some (.lst acc) ∧ acc.length < sizeLine ∧ Nx (upd H4 D (.lst (acc ++ [y]))) else Nx H3) := by
  intro D hD
  refine ⟨fun i m H => m = n - i ∧ i ≤ n ∧ ∃ acc, acc.length = i ∧ H D = some (.lst acc) ∧ Iv D i acc H, ⟨n, rfl, Nat.zero_le _, [], rfl, upd_same, h0 D hD⟩, ?_⟩
  rintro i m H ⟨rfl, hi, acc, ha, hd, iv⟩
  by_cases hlt : i < n
  · refine .inr ⟨hlt, fun H2 => ∃ acc, acc.length = i + 1 ∧ H2 D = some (.lst acc) ∧ Iv D (i + 1) acc H2, fun H2 q => ⟨n - (i + 1), by omega, rfl, hlt, q⟩, fun x H2 y => ?_⟩
    obtain ⟨rfl, rfl⟩ := y
    exact turn D i acc _ (fun y H4 => ∃ acc, H4 D = some (.lst acc) ∧ acc.length < sizeLine ∧ _) hD hlt hd iv fun y H4 e q => ⟨acc, e, small' (by omega), _, by rw [List.length_append, List.length_singleton, ha], upd_same, q⟩
  · have e : i = n := by omega
    subst e
    exact .inl ⟨Nat.le_refl _, done D acc H hD ha hd iv⟩
section
variable {P : Program} {w : World} {K : PySem.W.Frag} {mg : Str → Option Value} {base : Heap} {CP CW CN SD : Addr}
def spStream : Sp := fun vs H Q _ => ∃ (s : Addr) (xs : List Int), vs = [.ref s] ∧ SqL K H s (iV xs) ∧ ∀ p s0 H2, Same H H2 → H p = none → H s0 = none → StrA H2 p s0 xs → Q (.ref p) H2
abbrev N_Lstream : List Str := ["_law_script"]
theorem sc_Lstream : FnScope N_Lstream ["_law_script"] (defScope s_Lstream) := ⟨rfl, rfl, rfl, by decide +kernel, rfl, by decide +kernel, by decide +kernel⟩
-- slots: 0 _law_script
theorem k_Lstream (T : Txt K mg CP CW CN SD) : Kp P w K mg base CX0 1 "_law_stream" ["_law_script"] (spStream (K := K)) := by
  refine T.d_Lstream.ok sc_Lstream (fun vs H Q E h => ?_) (fun f cdv A outer s H vs Q E hr h => ?_)
  · obtain ⟨s, xs, rfl, _⟩ := h
    rfl
  · obtain ⟨s, xs, rfl, hs, k⟩ := h
    refine ⟨_, (pss_one (ps_ret (pe_lst (pa_cons (pe_callTy call_list_of rfl T.b_list (by decide +kernel) (pa_cons (pv 0) pa_nil)) (pa_cons pe_int (pa_cons pe_int pa_nil)))))), ?_⟩
    refine ⟨_, rfl, s, _, rfl, .inl hs, fun s0 hs0 => ⟨(by show 3 ≤ sizeLine; decide), fun p hp => ?_⟩⟩
    have nps : p ≠ s0 := fun z => by rw [z, upd_same] at hp; cases hp
    have hp0 : H p = none := by
      rw [upd_ne nps] at hp
      exact hp
    exact k p s0 _ ((Same.new hs0).trans (Same.new hp)) hp0 hs0 ⟨nps, 0, 0, upd_same, (upd_ne nps.symm).trans upd_same⟩
def spNext : Sp := fun vs H Q _ => ∃ (p s0 : Addr) (xs : List Int) (m : Int), vs = [.ref p, .int m] ∧ StrA H p s0 xs ∧ 0 < m ∧ m < 1000 ∧ ∀ r H2, 0 ≤ r → r < m → But p H H2 → StrA H2 p s0 xs → Q (.int r) H2
abbrev N_Lnext : List Str := ["_law_stream_here", "_law_many", "_law_digit", "_law_k", "_law_cell"]
theorem sc_Lnext : FnScope N_Lnext ["_law_stream_here", "_law_many"] (defScope s_Lnext) := ⟨rfl, rfl, rfl, by decide +kernel, rfl, by decide +kernel, by decide +kernel⟩
-- slots: 0 _law_stream_here, 1 _law_many, 2 _law_digit, 3 _law_k, 4 _law_cell
theorem k_Lnext (T : Txt K mg CP CW CN SD) : Kp P w K mg base CX0 1 "_law_next" ["_law_stream_here", "_law_many"] spNext := by
  refine T.d_Lnext.ok sc_Lnext (fun vs H Q E h => ?_) (fun f cdv A outer s H vs Q E hr h => ?_)
  · obtain ⟨p, s0, xs, m, rfl, _⟩ := h
    rfl
  · obtain ⟨p, s0, xs, m, rfl, ⟨nps, n, k, hp, hs⟩, hm, hm2, kq⟩ := h
    refine ⟨_, (Evl.pss_cut (ps_if (pt_cmpR op_eq (pe_ix ix_list (pv 0) pe_int (fun _ _ => rfl)) pe_int (nomark _)) (pss_cons (ps_set (i := 3) sc_Lnext.nd rfl (Or.inl rfl) (pe_ix ix_list (pv 0) pe_int (fun _ _ => rfl)))
      (pss_cons (ps_set (i := 4) sc_Lnext.nd rfl (Or.inl rfl) (pe_op op_add pe_int (pv 3)))
      (Evl.pss_cut (ps_if (pt_cmpR op_lt (pv 3) (pe_callB call_len rfl T.b_len (by decide +kernel) (pa_cons (pe_ix ix_list (pv 0) pe_int (fun _ _ => rfl)) pa_nil)) (nomark _)) (pss_one (ps_set (i := 4) sc_Lnext.nd rfl (Or.inl rfl) (pe_callB call_abs rfl T.b_abs (by decide +kernel) (pa_cons (pe_ix ix_list (pe_ix ix_list (pv 0) pe_int (fun _ _ => rfl)) (pv 3) (fun _ _ => rfl)) pa_nil)))) pss_nil)
      (Evl.pss_cut (ps_if (pt_cmpR op_lt (pv 4) (pe_op op_pow pe_int pe_int) (nomark _)) (pss_cons (ps_set (i := 4) sc_Lnext.nd rfl (Or.inl rfl) (pe_op op_modN (pe_callTy call_int1 rfl T.b_int (by decide +kernel) (pa_cons (pe_op op_add (pe_op op_add (pe_op op_mul (pv 4) pe_int) (pe_op op_mul (pv 3) pe_int)) pe_int) pa_nil)) pe_int))
      (pss_one (ps_set (i := 4) sc_Lnext.nd rfl (Or.inl rfl) (pe_op op_add (pe_op op_mul (pe_op op_modN (pe_callTy call_int1 rfl T.b_int (by decide +kernel) (pa_cons (pe_op op_add (pe_op op_mul (pv 4) pe_int) pe_int) pa_nil)) pe_int) pe_int) (pv 4))))) pss_nil)
      (pss_cons (ps_asg (pv 4) (pg_sub (pv 0) pe_int set_list))
      (pss_one (ps_asg (pe_op op_add (pv 3) pe_int) (pg_sub (pv 0) pe_int set_list)))))))) pss_nil)
      (pss_cons (ps_set (i := 2) sc_Lnext.nd rfl (Or.inl rfl) (pe_op op_modN (pe_callTy call_int1 rfl T.b_int (by decide +kernel) (pa_cons (pe_ix ix_list (pv 0) pe_int (fun _ _ => rfl)) pa_nil)) (pv 1)))
      (pss_cons (ps_asg (pe_op op_fdivN (pe_ix ix_list (pv 0) pe_int (fun _ _ => rfl)) (pv 1)) (pg_sub (pv 0) pe_int set_list))
      (pss_one (ps_ret (pv 2)))))), ?_⟩
    refine ⟨fun σ H2 => ∃ n k w3 w4, But p H H2 ∧ H2 p = some (.lst [.ref s0, .int n, .int ((k : Nat) : Nat)]) ∧ σ = [some (.ref p), some (.int m), none, w3, w4], ?_, ?_⟩
    · refine ⟨_, rfl, p, _, _, _, rfl, rfl, SqL.of hp, atI_nat (j := 1) rfl, rfl, _, rfl, ?_⟩
      refine ite2 (fun e => ?_) (fun e => ?_)
      · refine ⟨_, rfl, p, _, _, _, rfl, rfl, SqL.of hp, atI_nat (j := 2) rfl, _, rfl, _, _, rfl, rfl, ?_⟩
        refine ⟨fun σ H2 => H2 = H ∧ ∃ c : Int, σ = [some (.ref p), some (.int m), none, some (.int ((k : Nat) : Nat)), some (.int c)], ?_, ?_⟩
        · refine ⟨_, rfl, _, rfl, p, _, _, _, rfl, rfl, SqL.of hp, atI_nat (j := 0) rfl, _, xs.length, rfl, .inl ⟨_, SqL.of hs, iV_len.symm⟩, _, _, rfl, rfl, _, rfl, ?_⟩
          refine ite2 (fun e => ?_) (fun e => ?_)
          · have e2 : k < xs.length := by
              have := of_decide_eq_true e
              omega
            exact ⟨_, rfl, p, _, _, _, rfl, rfl, SqL.of hp, atI_nat (j := 0) rfl, _, rfl, s0, _, _, _, rfl, rfl, SqL.of hs, atI_nat (iV_getD e2), _, rfl, rfl, _, rfl⟩
          · exact ⟨rfl, _, rfl⟩
        · rintro σ H2 ⟨rfl, c, rfl⟩
          refine ⟨fun σ H3 => H3 = H2 ∧ ∃ c : Int, σ = [some (.ref p), some (.int m), none, some (.int ((k : Nat) : Nat)), some (.int c)], ?_, ?_⟩
          · refine ⟨_, rfl, _, _, rfl, rfl, ⟨by decide, by decide, by decide⟩, _, _, rfl, rfl, _, rfl, ?_⟩
            refine ite2 (fun e => ?_) (fun e => ?_)
            · refine ⟨_, rfl, _, _, rfl, rfl, .inr ⟨by decide, by decide⟩, _, rfl, _, _, rfl, rfl, .inr ⟨by decide, by decide⟩, _, _, rfl, rfl, _, _, rfl, rfl, .inl ⟨_, rfl, _, _, rfl, rfl, (by show (2147483647 : Int) ≠ 0; decide), ?_⟩⟩
              exact ⟨_, rfl, _, _, rfl, rfl, .inr ⟨by decide, by decide⟩, _, _, rfl, rfl, .inl ⟨_, rfl, _, _, rfl, rfl, (by show (2147483647 : Int) ≠ 0; decide), _, _, rfl, rfl, .inr ⟨by decide, by decide⟩, _, rfl, _, _, rfl, rfl, rfl, _, rfl⟩⟩
            · exact ⟨rfl, _, rfl⟩
          · rintro σ H3 ⟨rfl, c, rfl⟩
            refine ⟨_, rfl, _, rfl, p, _, _, 1, rfl, rfl, hp, Evl.ixN_nat (j := 1) (by show 1 < 3; decide), ?_⟩
            refine ⟨_, rfl, _, _, rfl, rfl, _, rfl, p, _, _, 2, rfl, rfl, upd_same, Evl.ixN_nat (j := 2) (by show 2 < 3; decide), ?_⟩
            rw [upd_upd]
            exact ⟨c, k + 1, _, _, But.set, upd_same, rfl⟩
      · exact ⟨n, k, _, _, But.of (Same.refl _), hp, rfl⟩
    · rintro σ H2 ⟨n2, k2, w3, w4, b2, hp2, rfl⟩
      have hs2 := b2 _ _ nps.symm hs
      refine ⟨_, rfl, p, _, _, _, rfl, rfl, SqL.of hp2, atI_nat (j := 1) rfl, .inl ⟨_, rfl, _, rfl, _, _, rfl, rfl, by show m ≠ 0; omega, ?_⟩⟩
      refine ⟨_, rfl, p, _, _, _, rfl, rfl, SqL.of hp2, atI_nat (j := 1) rfl, _, rfl, _, _, rfl, rfl, ⟨by omega, by omega⟩, _, rfl, p, _, _, 1, rfl, rfl, hp2, Evl.ixN_nat (j := 1) (by show 1 < 3; decide), ?_⟩
      refine ⟨_, rfl, kq (n2.fmod m) _ (Int.fmod_nonneg_of_pos _ hm) (Int.fmod_lt_of_pos _ hm) (b2.trans But.set) ⟨nps, n2.fdiv m, k2, upd_same, (upd_ne nps.symm).trans hs2⟩⟩
/-! ### drawn lists -/
theorem er_map {α β : Type} (f : α → β) : ∀ (l : List α) (j : Nat), (l.map f).eraseIdx j = (l.eraseIdx j).map f
  | [], _ => by simp
  | _ :: _, 0 => rfl
  | x :: l, j + 1 => by
    rw [List.map_cons, List.eraseIdx_cons_succ, List.eraseIdx_cons_succ, List.map_cons, er_map f l j]
theorem er_perm {α : Type} : ∀ (l : List α) (j : Nat) (h : j < l.length), (l[j] :: l.eraseIdx j).Perm l
  | _ :: _, 0, _ => List.Perm.refl _
  | x :: l, j + 1, h => by
    rw [List.eraseIdx_cons_succ, List.getElem_cons_succ]
    exact (List.Perm.swap _ _ _).trans ((er_perm l j (by simpa using h)).cons x)
theorem take_nodup {left found : List Str} {j : Nat} (hj : j < left.length) (h : (left ++ found).Nodup) : (left.eraseIdx j ++ (found ++ [left[j]])).Nodup := by
  have p1 : (left[j] :: left.eraseIdx j).Perm left := er_perm left j hj
  have p2 : (left.eraseIdx j ++ (found ++ [left[j]])).Perm (left ++ found) := by
    refine List.Perm.trans ?_ (p1.append_right found)
    rw [← List.append_assoc]
    refine List.perm_append_comm.trans ?_
    exact List.Perm.refl _
  exact p2.nodup_iff.mpr h
/-- what may be drawn of the letters l: a row of n of them -/
structure Row (l found : List Str) : Prop where
  nd : found.Nodup
  sub : ∀ x ∈ found, x ∈ l
def spShuf : Sp := fun vs H Q _ => ∃ (p s0 b : Addr) (xs : List Int) (l : List Str), vs = [.ref p, .ref b] ∧ StrA H p s0 xs ∧ H b = some (.lst (l.map V.str)) ∧ b ≠ p ∧ l.Nodup ∧ l.length ≤ 7 ∧
  ∀ q found H2, But p H H2 → StrA H2 p s0 xs → H q = none → H2 q = some (.lst (found.map V.str)) → Row l found → found.length = l.length → Q (.ref q) H2
abbrev N_Lshuffled : List Str := ["_law_stream_here", "_law_items", "_law_left", "_law_found", "_law_k"]
theorem sc_Lshuffled : FnScope N_Lshuffled ["_law_stream_here", "_law_items"] (defScope s_Lshuffled) := ⟨rfl, rfl, rfl, by decide +kernel, rfl, by decide +kernel, by decide +kernel⟩
-- slots: 0 _law_stream_here, 1 _law_items, 2 _law_left, 3 _law_found, 4 _law_k
theorem k_Lshuffled (T : Txt K mg CP CW CN SD) : Kp P w K mg base CX0 2 "_law_shuffled" ["_law_stream_here", "_law_items"] spShuf := by
  refine T.d_Lshuffled.ok sc_Lshuffled (fun vs H Q E h => ?_) (fun f cdv A outer s H vs Q E hr h => ?_)
  · obtain ⟨p, s0, b, xs, l, rfl, _⟩ := h
    rfl
  · obtain ⟨p, s0, b, xs, l, rfl, hst, hb, nbp, nd, hl, k⟩ := h
    refine ⟨_, (pss_cons (ps_set (i := 2) sc_Lshuffled.nd rfl (Or.inl rfl) (pe_callTy call_list_of rfl T.b_list (by decide +kernel) (pa_cons (pv 1) pa_nil)))
      (pss_cons (ps_set (i := 3) sc_Lshuffled.nd rfl (Or.inl rfl) (pe_lst pa_nil))
      (pss_cons (ps_for PassesOwn.never rfl (pi_range1 rfl T.b_range (pa_cons (pe_callB call_len rfl T.b_len (by decide +kernel) (pa_cons (pv 1) pa_nil)) pa_nil)) (pg_name (i := 4) sc_Lshuffled.nd rfl (Or.inl rfl))
      (pss_one (ps_expr (pe_bm PySem.F.plainAttrs_list PySem.F.slot_list_append PySem.F.type_list_append mt_append (pv 3) (pa_cons (pe_bm PySem.F.plainAttrs_list PySem.F.slot_list_pop PySem.F.type_list_pop mt_popAt (pv 2) (pa_cons (pe_g (k_Lnext T) (hr.mono (by decide)) pass0 (pa_cons (pv 0) (pa_cons (pe_callB call_len rfl T.b_len (by decide +kernel) (pa_cons (pv 2) pa_nil)) pa_nil))) pa_nil)) pa_nil)))))
      (pss_one (ps_ret (pv 3)))))), ?_⟩
    refine ⟨_, rfl, b, _, rfl, .inl (SqL.of hb), fun ql hql => ⟨(by show 0 ≤ sizeLine; decide), fun qf hqf => ?_⟩⟩
    have nfl : qf ≠ ql := fun z => by rw [z, upd_same] at hqf; cases hqf
    have hqf0 : H qf = none := by
      rw [upd_ne nfl] at hqf
      exact hqf
    obtain ⟨n1, m1, m2, h1, h2⟩ := hst
    have hp0 : H p ≠ none := by rw [h1]; exact fun z => by cases z
    have nlp : ql ≠ p := fun z => hp0 (z ▸ hql)
    have nfp : qf ≠ p := fun z => hp0 (z ▸ hqf0)
    have s02 : Same H (upd (upd H ql (.lst (l.map V.str))) qf (.lst [])) := (Same.new hql).trans (Same.new hqf)
    refine ⟨_, rfl, _, l.length, rfl, .inl ⟨_, SqL.of (s02 _ _ hb), by rw [List.length_map]⟩, _, rfl, by omega, by omega, for_range (fun t σ H3 => ∃ left found w4, But p H H3 ∧ StrA H3 p s0 xs ∧ H3 ql = some (.lst (left.map V.str)) ∧ H3 qf = some (.lst (found.map V.str)) ∧ left.length + t = l.length ∧ found.length = t ∧ (left ++ found).Nodup ∧ (∀ x ∈ left ++ found, x ∈ l) ∧ σ = [some (.ref p), some (.ref b), some (.ref ql), some (.ref qf), w4])
      ⟨l, [], none, But.of s02, StrA.same s02 ⟨n1, m1, m2, h1, h2⟩, (upd_ne nfl.symm).trans upd_same, upd_same, rfl, rfl, by rw [List.append_nil]; exact nd, fun x hx => by rw [List.append_nil] at hx; exact hx, rfl⟩ ?_ ?_⟩
    · rintro t σ H3 ht ⟨left, found, w4, b3, st3, hl3, hf3, hlen, hfl, hnd, hsub, rfl⟩
      have ht2 : t < l.length := by
        have : ((l.length : Nat) : Int).toNat = l.length := Int.toNat_natCast _
        omega
      refine ⟨_, rfl, .inl ⟨rfl, _, SqL.of hf3⟩, ?_⟩
      refine ⟨_, rfl, .inl ⟨rfl, _, SqL.of hl3⟩, ?_⟩
      refine ⟨_, rfl, _, rfl, _, left.length, rfl, .inl ⟨_, SqL.of hl3, by rw [List.length_map]⟩, p, s0, xs, _, rfl, st3, by omega, by omega, fun r H4 hr0 hr1 b4 st4 => ?_⟩
      obtain ⟨j, rfl⟩ : ∃ j : Nat, r = (j : Int) := ⟨r.toNat, by omega⟩
      have hj : j < left.length := by omega
      have hl4 := b4 _ _ nlp hl3
      have hf4 := b4 _ _ nfp hf3
      have ej := List.getElem?_eq_getElem hj
      refine ⟨ql, _, _, j, _, rfl, rfl, hl4, by omega, by omega, (ixN_seq (Evl.ixN_nat (by rw [List.length_map]; exact hj))).1, tget ej, ?_⟩
      have hf5 : upd H4 ql (.lst ((left.map V.str).eraseIdx j)) qf = some (.lst (found.map V.str)) := (upd_ne nfl).trans hf4
      refine ⟨qf, _, _, rfl, rfl, hf5, small' (by rw [List.length_map]; omega), ?_⟩
      have b5 : But p H (upd (upd H4 ql (.lst ((left.map V.str).eraseIdx j))) qf (.lst (found.map V.str ++ [V.str left[j]]))) := fun a o n e => by
        rw [upd_ne (ne_of_none e hqf0), upd_ne (ne_of_none e hql)]
        exact b4 _ _ n (b3 _ _ n e)
      obtain ⟨nps, m3, m4, h3, h4⟩ := st4
      have ns0l : s0 ≠ ql := ne_of_none h2 hql
      have ns0f : s0 ≠ qf := ne_of_none h2 hqf0
      refine ⟨left.eraseIdx j, found ++ [left[j]], _, b5, ⟨nps, m3, m4, ?_, ?_⟩, ?_, ?_, ?_, ?_, ?_, ?_, rfl⟩
      · rw [upd_ne nfp.symm, upd_ne nlp.symm]
        exact h3
      · rw [upd_ne ns0f, upd_ne ns0l]
        exact h4
      · rw [upd_ne nfl.symm, upd_same, er_map]
      · rw [upd_same, List.map_append]
        rfl
      · rw [List.length_eraseIdx_of_lt hj]
        omega
      · rw [List.length_append, List.length_singleton, hfl]
      · exact take_nodup hj hnd
      · intro x hx
        rcases List.mem_append.mp hx with q | q
        · exact hsub x (List.mem_append_left _ (List.mem_of_mem_eraseIdx q))
        · rcases List.mem_append.mp q with q | q
          · exact hsub x (List.mem_append_right _ q)
          · rw [List.mem_singleton.mp q]
            exact hsub _ (List.mem_append_left _ (List.getElem_mem hj))
    · rintro σ H3 ⟨left, found, w4, b3, st3, hl3, hf3, hlen, hfl, hnd, hsub, rfl⟩
      have e : ((l.length : Nat) : Int).toNat = l.length := Int.toNat_natCast _
      rw [e] at hfl
      exact ⟨_, rfl, k qf found H3 b3 st3 hqf0 hf3 ⟨(List.nodup_append.mp hnd).2.1, fun x hx => hsub x (List.mem_append_right _ hx)⟩ hfl⟩
/-! ### a drawn order, a drawn rule -/
def letters7 : List Str := ["a", "b", "c", "d", "e", "f", "g"]
def spLorder : Sp := fun vs H Q _ => ∃ (p s0 b : Addr) (xs : List Int) (m : Int), vs = [.ref p, .ref b, .int m] ∧ StrA H p s0 xs ∧ H b = some (.lst (letters7.map V.str)) ∧ b ≠ p ∧ 2 ≤ m ∧ m ≤ 7 ∧
  ∀ v o H2, But p H H2 → StrA H2 p s0 xs → OrdA H2 v o → WF o → o.ls ≠ [] → o.ls.length ≤ 7 → (∀ x ∈ o.ls, x ∈ letters7) → Q v H2
abbrev N_Lorder : List Str := ["_law_stream_here", "_law_letters", "_law_most", "_law_row", "_law_k"]
theorem sc_Lorder : FnScope N_Lorder ["_law_stream_here", "_law_letters", "_law_most"] (defScope s_Lorder) := ⟨rfl, rfl, rfl, by decide +kernel, rfl, by decide +kernel, by decide +kernel⟩
-- slots: 0 _law_stream_here, 1 _law_letters, 2 _law_most, 3 _law_row, 4 _law_k
theorem k_Lorder (T : Txt K mg CP CW CN SD) : Kp P w K mg base CX0 3 "_law_order" ["_law_stream_here", "_law_letters", "_law_most"] spLorder := by
  refine T.d_Lorder.ok sc_Lorder (fun vs H Q E h => ?_) (fun f cdv A outer s H vs Q E hr h => ?_)
  · obtain ⟨p, s0, b, xs, m, rfl, _⟩ := h
    rfl
  · obtain ⟨p, s0, b, xs, m, rfl, hst, hb, nbp, hm1, hm2, k⟩ := h
    obtain ⟨m, rfl⟩ : ∃ j : Nat, m = (j : Int) := ⟨m.toNat, by omega⟩
    refine ⟨_, (pss_cons (ps_set (i := 3) sc_Lorder.nd rfl (Or.inl rfl) (pe_slice sl_list (pe_g (k_Lshuffled T) (hr.mono (by decide)) pass0 (pa_cons (pv 0) (pa_cons (pv 1) pa_nil))) po_none (po_some (pv 2))))
      (pss_one (ps_ret (pe_tupS (pa_cons (pe_callTy call_tupS rfl T.b_tuple (by decide +kernel) (pa_cons (pv 3) pa_nil)) (pa_cons (pe_callTy call_tupS rfl T.b_tuple (by decide +kernel) (pa_cons (pe_lc (own := [("_law_k", 4)]) rfl sc_Lorder.nd (pi_range1 rfl T.b_range (pa_cons (pe_op op_sub (pe_callB call_len rfl T.b_len (by decide +kernel) (pa_cons (pv 3) pa_nil)) pe_int) pa_nil)) (blkOk_by (own := [("_law_k", 4)]) (N := N_Lorder) (sc := defScope s_Lorder) (by decide +kernel)) (fun _ _ _ _ _ => (pg_name (i := 4) sc_Lorder.nd rfl (Or.inl rfl))) (fun _ _ _ _ _ => pts_nil) (fun _ _ _ _ _ => (pe_op op_add pe_int (pe_g (k_Lnext T) (hr.mono (by decide)) pass0 (pa_cons (pv 0) (pa_cons pe_int pa_nil)))))) pa_nil)) pa_nil)))))), ?_⟩
    refine ⟨_, rfl, _, rfl, p, s0, b, xs, letters7, rfl, hst, hb, nbp, by decide +kernel, by decide +kernel, fun q found H2 b2 st2 hq0 hq hrow hlen => ?_⟩
    refine ⟨_, rfl, _, rfl, q, _, rfl, SqL.of hq, fun q2 hq2 => ?_⟩
    have h7 : found.length = 7 := hlen
    have hfm : found.take m = found.take m := rfl
    rw [show cutV (found.map V.str) none (some ((m : Nat) : Int)) = (found.take m).map V.str from (cut_to rfl).trans List.map_take.symm]
    have hq2s : Same H2 (upd H2 q2 (.lst ((found.take m).map V.str))) := Same.new hq2
    generalize hROW : found.take m = row at hq2s ⊢
    have hrl : row.length = m := by
      rw [← hROW, List.length_take]
      omega
    have hrn : row.Nodup := by rw [← hROW]; exact List.Nodup.sublist (List.take_sublist m found) hrow.nd
    have hrs : ∀ x ∈ row, x ∈ letters7 := fun x hx => by
      rw [← hROW] at hx
      exact hrow.sub x (List.mem_of_mem_take hx)
    have hqq : upd H2 q2 (.lst (row.map V.str)) q2 = some (.lst (row.map V.str)) := upd_same
    have st3 := st2.same hq2s
    have hp2 : H2 p ≠ none := by
      obtain ⟨_, _, _, h, _⟩ := st2
      rw [h]
      exact fun z => by cases z
    have nqp : q2 ≠ p := fun z => hp2 (z ▸ hq2)
    generalize upd H2 q2 (.lst (row.map V.str)) = H3 at hq2s hqq st3 ⊢
    have b3 : But p H H3 := b2.trans (But.of hq2s)
    refine ⟨_, rfl, q2, _, rfl, SqL.of hqq, fun t1 H4 s4 ht1 => ?_⟩
    have st4 := st3.same s4
    refine ⟨_, rfl, _, row.length, rfl, .inl ⟨_, SqL.of (s4 _ _ hqq), by rw [List.length_map]⟩, _, _, rfl, rfl, _, rfl, by omega, by omega, lcM (by omega) (fun D i acc H5 => But p H4 H5 ∧ StrA H5 p s0 xs ∧ ∃ ns, acc = iV ns ∧ ∀ n ∈ ns, (1 : Int) ≤ n ∧ n ≤ 3) (fun D hD => ⟨But.of (Same.new hD), st4.same (Same.new hD), [], rfl, fun n hn => by cases hn⟩) (fun D i acc H5 Kt hD hi hacc iv kt => ?_) (fun D acc H5 hD hal hacc iv => ?_)⟩
    · obtain ⟨b5, st5, ns, rfl, hns⟩ := iv
      have nDp : D ≠ p := fun z => by
        obtain ⟨_, _, _, h, _⟩ := st4
        rw [z, h] at hD
        cases hD
      refine ⟨rfl, _, rfl, p, s0, xs, 3, rfl, st5, by decide, by decide, fun r H6 hr0 hr1 b6 st6 => ?_⟩
      refine ⟨_, _, rfl, rfl, kt _ H6 (b6 _ _ nDp hacc) ⟨?_, ?_, ns ++ [1 + r], by unfold iV; rw [List.map_append]; rfl, fun n hn => ?_⟩⟩
      · exact fun a o n e => by
          rw [upd_ne (ne_of_none e hD)]
          exact b6 _ _ n (b5 _ _ n e)
      · obtain ⟨nps, m1, m2, h1, h2⟩ := st6
        obtain ⟨_, _, _, _, g2⟩ := st4
        exact ⟨nps, m1, m2, (upd_ne nDp.symm).trans h1, (upd_ne (ne_of_none g2 hD)).trans h2⟩
      · rcases List.mem_append.mp hn with q | q
        · exact hns n q
        · rw [List.mem_singleton.mp q]
          omega
    · obtain ⟨b5, st5, ns, rfl, hns⟩ := iv
      have en : (((row.length : Nat) : Int) - 1).toNat = row.length - 1 := by omega
      rw [iV_len, en] at hal
      refine ⟨D, _, rfl, SqL.of hacc, fun t2 H6 s6 ht2 => ⟨(by show 2 ≤ 1000; decide), fun q5 H7 s7 hq5 => ?_⟩⟩
      have b7 : But p H4 H7 := (b5.trans (But.of s6)).trans (But.of s7)
      refine k _ ⟨row, ns⟩ H7 ((b3.trans (But.of s4)).trans b7) (st5.same (s6.trans s7)) ⟨q5, t1, t2, rfl, hq5, ht1.tm (StrA.tm b7 st4), ht2.same s7⟩ ⟨hrn, ?_, hns⟩ (fun z => ?_) (by show row.length ≤ 7; omega) hrs
      · show ns.length + 1 = row.length
        omega
      · have z2 : row = [] := z
        rw [z2] at hrl
        simp at hrl
        omega
end
end Fw

set_option maxHeartbeats 4000000
/-! FwE3: the law's own rules -/
namespace Fw
open PySem PySem.Spec PySem.W PyProof.Rows L2
theorem l7_alpha {x : Str} (h : x ∈ letters7) : x ∈ alpha := by
  unfold letters7 at h
  unfold alpha
  simp only [List.mem_cons, List.not_mem_nil, or_false] at h ⊢
  rcases h with h | h | h | h | h | h | h <;> simp [h]
/-- a drawn rule -/
structure RG (r : Rul Str) : Prop where
  ok : ROk r
  an : r.anc ∈ letters7
  mo : r.mov ∈ letters7
theorem RG.ro {r : Rul Str} (h : RG r) : RO r := ⟨h.ok, alpha_sub (l7_alpha h.an), l7_alpha h.mo⟩
section
variable {P : Program} {w : World} {K : PySem.W.Frag} {mg : Str → Option Value} {base : Heap} {CP CW CN SD : Addr}
def spLrule : Sp := fun vs H Q _ => ∃ (p s0 b : Addr) (xs : List Int), vs = [.ref p, .ref b] ∧ StrA H p s0 xs ∧ H b = some (.lst (letters7.map V.str)) ∧ b ≠ p ∧
  ∀ v r H2, But p H H2 → StrA H2 p s0 xs → RulA H2 v r → RG r → Q v H2
abbrev N_Lrule : List Str := ["_law_stream_here", "_law_letters", "_law_anchor", "_law_letter"]
theorem sc_Lrule : FnScope N_Lrule ["_law_stream_here", "_law_letters"] (defScope s_Lrule) := ⟨rfl, rfl, rfl, by decide +kernel, rfl, by decide +kernel, by decide +kernel⟩
-- slots: 0 _law_stream_here, 1 _law_letters, 2 _law_anchor, 3 _law_letter
theorem k_Lrule (T : Txt K mg CP CW CN SD) : Kp P w K mg base CX0 3 "_law_rule" ["_law_stream_here", "_law_letters"] spLrule := by
  refine T.d_Lrule.ok sc_Lrule (fun vs H Q E h => ?_) (fun f cdv A outer s H vs Q E hr h => ?_)
  · obtain ⟨p, s0, b, xs, rfl, _⟩ := h
    rfl
  · obtain ⟨p, s0, b, xs, rfl, hst, hb, nbp, k⟩ := h
    refine ⟨_, (pss_cons (ps_asg (pe_slice sl_list (pe_g (k_Lshuffled T) (hr.mono (by decide)) pass0 (pa_cons (pv 0) (pa_cons (pv 1) pa_nil))) po_none (po_some pe_int)) (pg_lst rfl (pgs_cons (pg_name (i := 2) sc_Lrule.nd rfl (Or.inl rfl)) (pgs_cons (pg_name (i := 3) sc_Lrule.nd rfl (Or.inl rfl)) pgs_nil))))
      (pss_one (ps_ret (pe_tupS (pa_cons (pe_ix ix_list (pe_lst (pa_cons pe_str (pa_cons pe_str pa_nil))) (pe_g (k_Lnext T) (hr.mono (by decide)) pass0 (pa_cons (pv 0) (pa_cons pe_int pa_nil))) (fun _ _ => rfl)) (pa_cons (pv 2) (pa_cons (pe_op op_add pe_int (pe_g (k_Lnext T) (hr.mono (by decide)) pass0 (pa_cons (pv 0) (pa_cons pe_int pa_nil)))) (pa_cons (pv 3) pa_nil)))))))), ?_⟩
    refine ⟨_, rfl, _, rfl, p, s0, b, xs, letters7, rfl, hst, hb, nbp, by decide +kernel, by decide +kernel, fun q found H2 b2 st2 hq0 hq hrow hlen => ?_⟩
    obtain ⟨y, z, rest, rfl⟩ : ∃ y z rest, found = y :: z :: rest := by
      match found, hlen with
      | y :: z :: rest, _ => exact ⟨y, z, rest, rfl⟩
    have hyz : y ≠ z := fun e => by
      have := hrow.nd
      rw [List.nodup_cons, e] at this
      exact this.1 List.mem_cons_self
    have hy := hrow.sub y List.mem_cons_self
    have hz := hrow.sub z (List.mem_cons_of_mem _ List.mem_cons_self)
    refine ⟨_, rfl, q, _, rfl, SqL.of hq, fun q2 hq2 => ?_⟩
    rw [show cutV ((y :: z :: rest).map V.str) none (some 2) = [V.str y, V.str z] from cut_to (k := 2) rfl]
    have s23 : Same H2 (upd H2 q2 (.lst [V.str y, V.str z])) := Same.new hq2
    refine ⟨q2, _, rfl, SqL.of upd_same, rfl, _, _, rfl, _, _, rfl, rfl, ?_⟩
    refine ⟨(by show 2 ≤ sizeLine; decide), fun pl hpl => ?_⟩
    have s34 : Same (upd H2 q2 (.lst [V.str y, V.str z])) (upd (upd H2 q2 (.lst [V.str y, V.str z])) pl (.lst [.str "after", .str "before"])) := Same.new hpl
    have hpl4 : upd (upd H2 q2 (.lst [V.str y, V.str z])) pl (.lst [.str "after", .str "before"]) pl = some (.lst [.str "after", .str "before"]) := upd_same
    have st4 := (st2.same s23).same s34
    have b4 : But p H (upd (upd H2 q2 (.lst [V.str y, V.str z])) pl (.lst [.str "after", .str "before"])) := b2.trans (But.of (s23.trans s34))
    have npl : pl ≠ p := fun e => by
      obtain ⟨_, _, _, h, _⟩ := st2
      rw [e, s23 _ _ h] at hpl
      cases hpl
    generalize upd (upd H2 q2 (.lst [V.str y, V.str z])) pl (.lst [.str "after", .str "before"]) = H4 at hpl4 st4 b4 ⊢
    refine ⟨_, rfl, p, s0, xs, 2, rfl, st4, by decide, by decide, fun r H5 hr0 hr1 b5 st5 => ?_⟩
    have hpl5 := b5 _ _ npl hpl4
    have hat : atI [V.str "after", V.str "before"] r = some (V.str (sd (decide (r = 0)))) := by
      have : r = 0 ∨ r = 1 := by omega
      rcases this with rfl | rfl <;> rfl
    refine ⟨pl, _, _, _, rfl, rfl, SqL.of hpl5, hat, _, rfl, _, rfl, p, s0, xs, 3, rfl, st5, by decide, by decide, fun r2 H6 hr2 hr3 b6 st6 => ?_⟩
    refine ⟨_, _, rfl, rfl, _, rfl, (by show 4 ≤ 1000; decide), fun q7 H7 s7 hq7 => ?_⟩
    exact k _ ⟨decide (r = 0), y, 1 + r2, z⟩ H7 (((b4.trans b5).trans b6).trans (But.of s7)) (st6.same s7) ⟨q7, rfl, hq7⟩ ⟨⟨hyz, by show 1 ≤ 1 + r2; omega, by show 1 + r2 ≤ 3; omega⟩, hy, hz⟩
def spLw : Sp := fun vs H Q _ => ∃ (v : V) (o : Ord Str) (x : Str), vs = [v, .str x] ∧ OrdA H v o ∧ WO o ∧ (x ∈ o.ls → 2 ≤ o.ls.length) ∧ RetO H Q (Fw.base o x)
abbrev N_Lwithout : List Str := ["_law_order_here", "_law_letter", "_law_at", "_law_row", "_law_letters", "_law_strengths"]
theorem sc_Lwithout : FnScope N_Lwithout ["_law_order_here", "_law_letter"] (defScope s_Lwithout) := ⟨rfl, rfl, rfl, by decide +kernel, rfl, by decide +kernel, by decide +kernel⟩
-- slots: 0 _law_order_here, 1 _law_letter, 2 _law_at, 3 _law_row, 4 _law_letters, 5 _law_strengths
theorem k_Lwithout (T : Txt K mg CP CW CN SD) : Kp P w K mg base CX0 1 "_law_without" ["_law_order_here", "_law_letter"] spLw := by
  refine T.d_Lwithout.ok sc_Lwithout (fun vs H Q E h => ?_) (fun f cdv A outer s H vs Q E hr h => ?_)
  · obtain ⟨v, o, x, rfl, _⟩ := h
    rfl
  · obtain ⟨v, o, x, rfl, ⟨a, b, c, rfl, ha, hb, hc⟩, wo, h2, k⟩ := h
    have le := wo.le
    have hlen := wo.wf.len
    refine ⟨_, (pss_cons (ps_asg (pv 0) (pg_tup rfl (pgs_cons (pg_name (i := 4) sc_Lwithout.nd rfl (Or.inl rfl)) (pgs_cons (pg_name (i := 5) sc_Lwithout.nd rfl (Or.inl rfl)) pgs_nil))))
      (pss_cons (ps_if (pt_cmpR op_notInS (pv 1) (pv 4) (by rfl)) (pss_one (ps_ret (pv 0))) pss_nil)
      (pss_cons (ps_set (i := 2) sc_Lwithout.nd rfl (Or.inl rfl) (pe_bmT PySem.F.slot_tuple_index PySem.F.type_tuple_index mt_tup_index (pv 4) (pa_cons (pv 1) pa_nil)))
      (pss_cons (ps_set (i := 3) sc_Lwithout.nd rfl (Or.inl rfl) (pe_op op_catS (pe_slice sl_tupS (pv 4) po_none (po_some (pv 2))) (pe_slice sl_tupS (pv 4) (po_some (pe_op op_add (pv 2) pe_int)) po_none)))
      (pss_cons (ps_if (pt_cmpR op_eq (pv 2) pe_int (nomark _)) (pss_one (ps_ret (pe_tupS (pa_cons (pv 3) (pa_cons (pe_slice sl_tupS (pv 5) (po_some pe_int) po_none) pa_nil))))) pss_nil)
      (pss_cons (ps_if (pt_cmpR op_eq (pv 2) (pe_op op_sub (pe_callB call_len rfl T.b_len (by decide +kernel) (pa_cons (pv 4) pa_nil)) pe_int) (nomark _)) (pss_one (ps_ret (pe_tupS (pa_cons (pv 3) (pa_cons (pe_slice sl_tupS (pv 5) po_none (po_some (pe_un un_neg pe_int))) pa_nil))))) pss_nil)
      (pss_one (ps_ret (pe_tupS (pa_cons (pv 3) (pa_cons (pe_op op_catS (pe_op op_catS (pe_slice sl_tupS (pv 5) po_none (po_some (pe_op op_sub (pv 2) pe_int))) (pe_tupS (pa_cons (pe_callB (call_min2 rfl) rfl T.b_min (by decide +kernel) (pa_cons (pe_ix ix_tup (pv 5) (pe_op op_sub (pv 2) pe_int) (fun _ _ => rfl)) (pa_cons (pe_ix ix_tup (pv 5) (pv 2) (fun _ _ => rfl)) pa_nil))) pa_nil))) (pe_slice sl_tupS (pv 5) (po_some (pe_op op_add (pv 2) pe_int)) po_none)) pa_nil))))))))))), ?_⟩
    refine ⟨_, rfl, a, _, rfl, ha.sq, rfl, _, _, rfl, _, _, rfl, rfl, ?_⟩
    unfold Fw.base at k
    rcases Classical.em (x ∈ o.ls) with hx | hx
    · rw [if_pos hx] at k
      have h2 := h2 hx
      have hi := idx_lt hx
      refine ⟨_, rfl, _, rfl, b, _, _, rfl, rfl, hb.sq, false, congrArg V.bl (by rw [decide_eq_true hx]; rfl), iteF ?_⟩
      refine ⟨_, rfl, ⟨b, _, rfl, hb⟩, _, rfl, b, o.ls, x, o.ls.idxOf x, rfl, rfl, hb.sq, idx_get hx, fun m hm => idx_no hm, ?_⟩
      refine ⟨_, rfl, _, rfl, _, rfl, b, _, rfl, hb, fun p H3 s3 hp => ?_⟩
      have hb3 := hb.same s3
      refine ⟨_, rfl, _, rfl, _, _, rfl, rfl, _, rfl, b, _, rfl, hb3, fun q H4 s4 hq => ?_⟩
      rw [cut_to (k := o.ls.idxOf x) rfl] at hp
      rw [cut_from (k := o.ls.idxOf x + 1) (by omega)] at hq
      refine ⟨p, q, _, _, rfl, rfl, hp.same s4, hq, by simp only [List.length_take, List.length_drop, List.length_map]; omega, fun r H5 s5 hr5 => ?_⟩
      have s35 := (s3.trans s4).trans s5
      have hc5 := hc.same s35
      have el : (o.ls.map V.str).take (o.ls.idxOf x) ++ (o.ls.map V.str).drop (o.ls.idxOf x + 1) = ((rem o x).ls).map V.str := by
        rw [rem_ls, List.map_append, List.map_take, List.map_drop]
      rw [el] at hr5
      refine ⟨_, rfl, rfl, _, rfl, ?_⟩
      refine ite2 (fun e => ?_) (fun e => ?_)
      · have e0 : o.ls.idxOf x = 0 := by
          have e1 := V.int.inj (of_decide_eq_true e)
          omega
        have es : (rem o x).ss = o.ss.drop 1 := by unfold rem; rw [if_pos e0]
        refine ⟨_, rfl, _, rfl, _, rfl, c, _, rfl, hc5, fun q6 H6 s6 h6 => ⟨(by show 2 ≤ 1000; decide), fun p7 H7 s7 h7 => ?_⟩⟩
        rw [cut_from (i := 1) (k := 1) rfl, ← List.map_drop, ← es] at h6
        exact k _ H7 ((s35.trans s6).trans s7) ⟨p7, r, q6, rfl, h7, (hr5.same s6).same s7, h6.same s7⟩
      · have e0 : o.ls.idxOf x ≠ 0 := fun z => e (decide_eq_true (by rw [z]; rfl))
        have hb5 := hb.same s35
        refine ⟨_, rfl, _, rfl, _, o.ls.length, rfl, .inr ⟨_, hb5.sq, by rw [List.length_map]⟩, _, _, rfl, rfl, rfl, _, rfl, ?_⟩
        refine ite2 (fun e => ?_) (fun e => ?_)
        · have e2 : o.ls.idxOf x + 1 = o.ls.length := by
            have e1 := V.int.inj (of_decide_eq_true e)
            omega
          have es : (rem o x).ss = o.ss.dropLast := by unfold rem; rw [if_neg e0, if_pos e2]
          refine ⟨_, rfl, _, rfl, 1, rfl, -1, rfl, c, _, rfl, hc5, fun q6 H6 s6 h6 => ⟨(by show 2 ≤ 1000; decide), fun p7 H7 s7 h7 => ?_⟩⟩
          have e3 : cutV (o.ss.map V.int) none (some (-1)) = ((rem o x).ss).map V.int := by rw [cut_but, es, List.map_dropLast]
          have h6' : Tp H6 q6 (cutV (o.ss.map V.int) none (some (-1))) := h6
          rw [e3] at h6'
          exact k _ H7 ((s35.trans s6).trans s7) ⟨p7, r, q6, rfl, h7, (hr5.same s6).same s7, h6'.same s7⟩
        · have e2 : ¬ o.ls.idxOf x + 1 = o.ls.length := fun z => e (decide_eq_true (congrArg V.int (by omega)))
          have es : (rem o x).ss = o.ss.take (o.ls.idxOf x - 1) ++ [mn (o.ss.getD (o.ls.idxOf x - 1) 0) (o.ss.getD (o.ls.idxOf x) 0)] ++ o.ss.drop (o.ls.idxOf x + 1) := by
            unfold rem
            rw [if_neg e0, if_neg e2]
          have g1 : o.ss[o.ls.idxOf x - 1]? = some (o.ss.getD (o.ls.idxOf x - 1) 0) := by
            rw [List.getD_eq_getElem?_getD, List.getElem?_eq_getElem (by omega)]
            rfl
          have g2 : o.ss[o.ls.idxOf x]? = some (o.ss.getD (o.ls.idxOf x) 0) := by
            rw [List.getD_eq_getElem?_getD, List.getElem?_eq_getElem (by omega)]
            rfl
          refine ⟨_, rfl, _, rfl, _, rfl, _, _, rfl, rfl, _, rfl, c, _, rfl, hc5, fun q6 H6 s6 h6 => ?_⟩
          have hc6 := hc5.same s6
          refine ⟨_, rfl, _, rfl, _, _, rfl, rfl, c, _, _, _, rfl, rfl, hc6.sq, at_nat (j := o.ls.idxOf x - 1) (by omega) (iget g1), _, rfl, _, rfl, c, _, _, _, rfl, rfl, hc6.sq, at_nat rfl (iget g2), _, _, rfl, ?_⟩
          refine ⟨(by show 1 ≤ 1000; decide), fun p7 H7 s7 h7 => ?_⟩
          refine ⟨q6, p7, _, _, rfl, rfl, h6.same s7, h7, ?_, fun p8 H8 s8 h8 => ?_⟩
          · have := cutV_length (o.ss.map V.int) none (some ((o.ls.idxOf x : Int) - 1))
            rw [List.length_map] at this
            show (cutV (o.ss.map V.int) none (some ((o.ls.idxOf x : Int) - 1))).length + 1 ≤ 1000
            omega
          have s58 := (s6.trans s7).trans s8
          have hc8 := hc5.same s58
          refine ⟨_, rfl, _, rfl, _, _, rfl, rfl, _, rfl, c, _, rfl, hc8, fun q9 H9 s9 h9 => ?_⟩
          refine ⟨p8, q9, _, _, rfl, rfl, h8.same s9, h9, ?_, fun p10 H10 s10 h10 => ⟨(by show 2 ≤ 1000; decide), fun p11 H11 s11 h11 => ?_⟩⟩
          · have := cutV_length (o.ss.map V.int) none (some ((o.ls.idxOf x : Int) - 1))
            have := cutV_length (o.ss.map V.int) (some ((o.ls.idxOf x : Int) + 1)) none
            rw [List.length_append]
            rw [List.length_map] at *
            show (cutV (o.ss.map V.int) none (some ((o.ls.idxOf x : Int) - 1))).length + 1 + (cutV (o.ss.map V.int) (some ((o.ls.idxOf x : Int) + 1)) none).length ≤ 1000
            omega
          have ee : cutV (o.ss.map V.int) none (some ((o.ls.idxOf x : Int) - 1)) ++ [V.int (mn (o.ss.getD (o.ls.idxOf x - 1) 0) (o.ss.getD (o.ls.idxOf x) 0))] ++ cutV (o.ss.map V.int) (some ((o.ls.idxOf x : Int) + 1)) none = ((rem o x).ss).map V.int := by
            rw [cut_to (k := o.ls.idxOf x - 1) (by omega), cut_from (k := o.ls.idxOf x + 1) (by omega), es, List.map_append, List.map_append, List.map_take, List.map_drop]
            rfl
          have h10' : Tp H10 p10 (cutV (o.ss.map V.int) none (some ((o.ls.idxOf x : Int) - 1)) ++ [V.int (mn (o.ss.getD (o.ls.idxOf x - 1) 0) (o.ss.getD (o.ls.idxOf x) 0))] ++ cutV (o.ss.map V.int) (some ((o.ls.idxOf x : Int) + 1)) none) := h10
          rw [ee] at h10'
          exact k _ H11 (((s35.trans s58).trans (s9.trans s10)).trans s11) ⟨p11, r, p10, rfl, h11, (((hr5.same s58).same s9).same s10).same s11, h10'.same s11⟩
    · rw [if_neg hx] at k
      refine ⟨_, rfl, _, rfl, b, _, _, rfl, rfl, hb.sq, true, congrArg V.bl (by rw [decide_eq_false hx]; rfl), iteT ?_⟩
      exact ⟨_, rfl, k _ H (Same.refl _) ⟨a, b, c, rfl, ha, hb, hc⟩⟩
end
end Fw

set_option maxHeartbeats 4000000
/-! FwE4: the law's own put, led, command, behind -/
namespace Fw
open PySem PySem.Spec PySem.W PyProof.Rows L2
theorem dn_step {ss : List Int} {k : Int} {p : Nat} {s : Int} (h : ss[p]? = some s) (hk : k < s) : dn ss k (p + 1) = dn ss k p := by
  unfold dn
  have e : (ss.take (p + 1)).reverse = s :: (ss.take p).reverse := by
    rw [List.take_add_one, h]
    simp
  rw [e, List.takeWhile_cons, if_pos (decide_eq_true hk), List.length_cons]
  omega
theorem dn_stop {ss : List Int} {k : Int} {p : Nat} {s : Int} (h : ss[p]? = some s) (hk : ¬ k < s) : dn ss k (p + 1) = p + 1 := by
  unfold dn
  have e : (ss.take (p + 1)).reverse = s :: (ss.take p).reverse := by
    rw [List.take_add_one, h]
    simp
  rw [e, List.takeWhile_cons, if_neg (by rw [decide_eq_false hk]; exact Bool.false_ne_true)]
  rfl
theorem dn_le {ss : List Int} {k : Int} {p : Nat} : dn ss k p ≤ p := Nat.sub_le _ _
section
variable {P : Program} {w : World} {K : PySem.W.Frag} {mg : Str → Option Value} {base : Heap} {CP CW CN SD : Addr}
def spLput : Sp := fun vs H Q _ => ∃ (v u : V) (o : Ord Str) (r : Rul Str), vs = [v, u] ∧ OrdA H v o ∧ RulA H u r ∧ WO o ∧ RO r ∧ r.anc ∈ o.ls ∧ RetO H Q (lput o r)
abbrev N_Lput : List Str := ["_law_order_here", "_law_rule_here", "_law_at", "_law_place", "_law_side", "_law_anchor", "_law_strength", "_law_letter", "_law_letters", "_law_strengths"]
theorem sc_Lput : FnScope N_Lput ["_law_order_here", "_law_rule_here"] (defScope s_Lput) := ⟨rfl, rfl, rfl, by decide +kernel, rfl, by decide +kernel, by decide +kernel⟩
-- slots: 0 _law_order_here, 1 _law_rule_here, 2 _law_at, 3 _law_place, 4 _law_side, 5 _law_anchor, 6 _law_strength, 7 _law_letter, 8 _law_letters, 9 _law_strengths
theorem k_Lput (T : Txt K mg CP CW CN SD) : Kp P w K mg base CX0 2 "_law_put" ["_law_order_here", "_law_rule_here"] spLput := by
  refine T.d_Lput.ok sc_Lput (fun vs H Q E h => ?_) (fun f cdv A outer s H vs Q E hr h => ?_)
  · obtain ⟨v, u, o, r, rfl, _⟩ := h
    rfl
  · obtain ⟨v, u, o, r, rfl, ho, ⟨d, rfl, hd⟩, wo, ro, ha, k⟩ := h
    have f : RFit o r := ⟨ro.ok.ne, ro.ok.lv, ha⟩
    obtain ⟨bw, bm, ba⟩ := base_wf wo.wf f
    have le := wo.le
    have lb : (Fw.base o r.mov).ls.length ≤ 8 := by
      unfold Fw.base
      split
      · rw [rem_ls]
        simp only [List.length_append, List.length_take, List.length_drop]
        omega
      · exact le
    unfold lput at k
    refine ⟨_, (pss_cons (ps_asg (pv 1) (pg_tup rfl (pgs_cons (pg_name (i := 4) sc_Lput.nd rfl (Or.inl rfl)) (pgs_cons (pg_name (i := 5) sc_Lput.nd rfl (Or.inl rfl)) (pgs_cons (pg_name (i := 6) sc_Lput.nd rfl (Or.inl rfl)) (pgs_cons (pg_name (i := 7) sc_Lput.nd rfl (Or.inl rfl)) pgs_nil))))))
      (pss_cons (ps_asg (pe_g (k_Lwithout T) (hr.mono (by decide)) pass0 (pa_cons (pv 0) (pa_cons (pv 7) pa_nil))) (pg_tup rfl (pgs_cons (pg_name (i := 8) sc_Lput.nd rfl (Or.inl rfl)) (pgs_cons (pg_name (i := 9) sc_Lput.nd rfl (Or.inl rfl)) pgs_nil))))
      (pss_cons (ps_set (i := 2) sc_Lput.nd rfl (Or.inl rfl) (pe_bmT PySem.F.slot_tuple_index PySem.F.type_tuple_index mt_tup_index (pv 8) (pa_cons (pv 5) pa_nil)))
      (pss_cons (ps_if (pt_cmpR op_eq (pv 4) pe_str (nomark _)) (pss_cons (ps_set (i := 3) sc_Lput.nd rfl (Or.inl rfl) (pe_op op_add (pv 2) pe_int))
      (Evl.pss_cut (ps_while PassesOwn.never (PW.pt (pw_and (pt_cmpR op_lt (pv 3) (pe_callB call_len rfl T.b_len (by decide +kernel) (pa_cons (pv 8) pa_nil)) (nomark _)) (pw_and1 (pt_cmpR op_gt (pe_ix ix_tup (pv 9) (pe_op op_sub (pv 3) pe_int) (fun _ _ => rfl)) (pv 6) (nomark _))))) (pss_one (ps_set (i := 3) sc_Lput.nd rfl (Or.inl rfl) (pe_op op_add (pv 3) pe_int))))
      (pss_one (ps_ret (pe_tupS (pa_cons (pe_op op_catS (pe_op op_catS (pe_slice sl_tupS (pv 8) po_none (po_some (pv 3))) (pe_tupS (pa_cons (pv 7) pa_nil))) (pe_slice sl_tupS (pv 8) (po_some (pv 3)) po_none)) (pa_cons (pe_op op_catS (pe_op op_catS (pe_slice sl_tupS (pv 9) po_none (po_some (pe_op op_sub (pv 3) pe_int))) (pe_tupS (pa_cons (pv 6) pa_nil))) (pe_slice sl_tupS (pv 9) (po_some (pe_op op_sub (pv 3) pe_int)) po_none)) pa_nil))))))) pss_nil)
      (pss_cons (ps_set (i := 3) sc_Lput.nd rfl (Or.inl rfl) (pv 2))
      (Evl.pss_cut (ps_while PassesOwn.never (PW.pt (pw_and (pt_cmpR op_gt (pv 3) pe_int (nomark _)) (pw_and1 (pt_cmpR op_gt (pe_ix ix_tup (pv 9) (pe_op op_sub (pv 3) pe_int) (fun _ _ => rfl)) (pv 6) (nomark _))))) (pss_one (ps_set (i := 3) sc_Lput.nd rfl (Or.inl rfl) (pe_op op_sub (pv 3) pe_int))))
      (pss_one (ps_ret (pe_tupS (pa_cons (pe_op op_catS (pe_op op_catS (pe_slice sl_tupS (pv 8) po_none (po_some (pv 3))) (pe_tupS (pa_cons (pv 7) pa_nil))) (pe_slice sl_tupS (pv 8) (po_some (pv 3)) po_none)) (pa_cons (pe_op op_catS (pe_op op_catS (pe_slice sl_tupS (pv 9) po_none (po_some (pv 3))) (pe_tupS (pa_cons (pv 6) pa_nil))) (pe_slice sl_tupS (pv 9) (po_some (pv 3)) po_none)) pa_nil))))))))))), ?_⟩
    refine ⟨_, rfl, d, _, rfl, hd.sq, rfl, _, _, rfl, _, _, rfl, _, _, rfl, _, _, rfl, rfl, ?_⟩
    refine ⟨_, rfl, _, rfl, v, o, r.mov, rfl, ho, wo, fun hm => two_of ha hm f.ne, fun v2 H2 s2 ho2 => ?_⟩
    generalize Fw.base o r.mov = o2 at k bw bm ba lb ho2
    obtain ⟨a, b, c, rfl, h1, hb, hc⟩ := ho2
    have hlen := bw.len
    have hi := idx_lt ba
    refine ⟨a, _, rfl, h1.sq, rfl, _, _, rfl, _, _, rfl, rfl, ?_⟩
    refine ⟨_, rfl, ⟨b, _, rfl, hb⟩, _, rfl, b, o2.ls, r.anc, o2.ls.idxOf r.anc, rfl, rfl, hb.sq, idx_get ba, fun m hm => idx_no hm, ?_⟩
    have es : (V.str (sd r.aft) = V.str "after") ↔ r.aft = true := by
      constructor
      · intro z
        have z2 := V.str.inj z
        cases q : r.aft with
        | true => rfl
        | false =>
          rw [q] at z2
          exact absurd z2 (by decide +kernel)
      · intro z
        rw [z]
        rfl
    refine ⟨_, rfl, rfl, _, rfl, ?_⟩
    refine ite2 (fun e => ?_) (fun e => ?_)
    · have ha2 := es.mp (of_decide_eq_true e)
      rw [if_pos ha2] at k
      refine ⟨_, rfl, _, _, rfl, rfl, ?_⟩
      refine ⟨fun σ H3 => H3 = H2 ∧ σ = [some v, some (.ref d), some (.int (o2.ls.idxOf r.anc : Nat)), some (.int (up o2.ss r.k (o2.ls.idxOf r.anc) + 1 : Nat)), some (.str (sd r.aft)), some (.str r.anc), some (.int r.k), some (.str r.mov), some (.ref b), some (.ref c)], ?_, ?_⟩
      · refine ⟨fun m σ H3 => ∃ (p : Nat), m = o2.ss.length - p ∧ p ≤ o2.ss.length ∧ H3 = H2 ∧ up o2.ss r.k p = up o2.ss r.k (o2.ls.idxOf r.anc) ∧ σ = [some v, some (.ref d), some (.int (o2.ls.idxOf r.anc : Nat)), some (.int (p + 1 : Nat)), some (.str (sd r.aft)), some (.str r.anc), some (.int r.k), some (.str r.mov), some (.ref b), some (.ref c)], ⟨_, o2.ls.idxOf r.anc, rfl, by omega, rfl, rfl, rfl⟩, ?_⟩
        rintro m σ H3 ⟨p, rfl, hp, rfl, hu, rfl⟩
        refine ⟨_, rfl, _, rfl, _, o2.ls.length, rfl, .inr ⟨_, hb.sq, by rw [List.length_map]⟩, _, _, rfl, rfl, _, rfl, ?_⟩
        refine ite2 (fun e => ?_) (fun e => ?_)
        · have hlt : p < o2.ss.length := by
            have := of_decide_eq_true e
            omega
          have g : o2.ss[p]? = some o2.ss[p] := List.getElem?_eq_getElem hlt
          refine ⟨_, rfl, _, rfl, _, _, rfl, rfl, c, _, _, _, rfl, rfl, hc.sq, at_nat (j := p) (by omega) (iget g), _, rfl, _, _, rfl, rfl, _, rfl, ?_⟩
          refine ite2 (fun e2 => ?_) (fun e2 => ?_)
          · have e3 : r.k < o2.ss[p] := of_decide_eq_true e2
            refine ⟨_, fun σ2 H3 q => q, _, rfl, _, _, rfl, rfl, o2.ss.length - (p + 1), by omega, p + 1, rfl, hlt, rfl, ?_, rfl⟩
            rw [← hu, up_step g e3]
          · have e3 : ¬ r.k < o2.ss[p] := fun z => e2 (decide_eq_true z)
            refine ⟨rfl, ?_⟩
            rw [← hu, up_stop g e3]
        · have hle : o2.ss.length ≤ p := by
            have e3 : ¬ ((p + 1 : Nat) : Int) < (o2.ls.length : Int) := fun z => e (decide_eq_true z)
            omega
          refine iteF ⟨rfl, ?_⟩
          rw [← hu, up_end hle]
      · rintro σ H3 ⟨rfl, rfl⟩
        refine ⟨_, rfl, _, rfl, _, rfl, b, _, rfl, hb, fun p3 H3 s3 h3 => ⟨_, rfl, (by show 1 ≤ 1000; decide), fun p4 H4 s4 h4 => ?_⟩⟩
        rw [cut_to (k := up o2.ss r.k (o2.ls.idxOf r.anc) + 1) rfl] at h3
        refine ⟨p3, p4, _, _, rfl, rfl, h3.same s4, h4, by simp only [List.length_take, List.length_map, List.length_cons, List.length_nil]; omega, fun p5 H5 s5 h5 => ?_⟩
        have s35 := (s3.trans s4).trans s5
        refine ⟨_, rfl, _, rfl, _, rfl, b, _, rfl, hb.same s35, fun p6 H6 s6 h6 => ?_⟩
        rw [cut_from (k := up o2.ss r.k (o2.ls.idxOf r.anc) + 1) rfl] at h6
        refine ⟨p5, p6, _, _, rfl, rfl, h5.same s6, h6, by simp only [List.length_append, List.length_take, List.length_drop, List.length_map, List.length_cons, List.length_nil]; omega, fun p7 H7 s7 h7 => ?_⟩
        have s37 := (s35.trans s6).trans s7
        have e7 : (o2.ls.map V.str).take (up o2.ss r.k (o2.ls.idxOf r.anc) + 1) ++ [V.str r.mov] ++ (o2.ls.map V.str).drop (up o2.ss r.k (o2.ls.idxOf r.anc) + 1) = ((putA o2 r.anc r.k r.mov).ls).map V.str := by
          unfold putA
          simp
        rw [e7] at h7
        have hc7 := hc.same s37
        refine ⟨_, rfl, _, rfl, _, _, rfl, rfl, _, rfl, c, _, rfl, hc7, fun p8 H8 s8 h8 => ⟨_, rfl, (by show 1 ≤ 1000; decide), fun p9 H9 s9 h9 => ?_⟩⟩
        rw [cut_to (k := up o2.ss r.k (o2.ls.idxOf r.anc)) (by omega)] at h8
        refine ⟨p8, p9, _, _, rfl, rfl, h8.same s9, h9, by simp only [List.length_take, List.length_map, List.length_cons, List.length_nil]; omega, fun p10 H10 s10 h10 => ?_⟩
        have s710 := (s8.trans s9).trans s10
        refine ⟨_, rfl, _, rfl, _, _, rfl, rfl, _, rfl, c, _, rfl, hc7.same s710, fun p11 H11 s11 h11 => ?_⟩
        rw [cut_from (k := up o2.ss r.k (o2.ls.idxOf r.anc)) (by omega)] at h11
        refine ⟨p10, p11, _, _, rfl, rfl, h10.same s11, h11, by simp only [List.length_append, List.length_take, List.length_drop, List.length_map, List.length_cons, List.length_nil]; omega, fun p12 H12 s12 h12 => ⟨(by show 2 ≤ 1000; decide), fun p13 H13 s13 h13 => ?_⟩⟩
        have e12 : (o2.ss.map V.int).take (up o2.ss r.k (o2.ls.idxOf r.anc)) ++ [V.int r.k] ++ (o2.ss.map V.int).drop (up o2.ss r.k (o2.ls.idxOf r.anc)) = ((putA o2 r.anc r.k r.mov).ss).map V.int := by
          unfold putA
          simp
        rw [e12] at h12
        have s713 := ((s710.trans s11).trans s12).trans s13
        exact k _ H13 ((s2.trans s37).trans s713) ⟨p13, p7, p12, rfl, h13, h7.same s713, h12.same s13⟩
    · have ha2 : ¬ r.aft = true := fun z => e (decide_eq_true (es.mpr z))
      rw [if_neg ha2] at k
      refine ⟨_, rfl, ?_⟩
      refine ⟨fun σ H3 => H3 = H2 ∧ σ = [some v, some (.ref d), some (.int (o2.ls.idxOf r.anc : Nat)), some (.int (dn o2.ss r.k (o2.ls.idxOf r.anc) : Nat)), some (.str (sd r.aft)), some (.str r.anc), some (.int r.k), some (.str r.mov), some (.ref b), some (.ref c)], ?_, ?_⟩
      · refine ⟨fun m σ H3 => m ≤ o2.ss.length ∧ H3 = H2 ∧ dn o2.ss r.k m = dn o2.ss r.k (o2.ls.idxOf r.anc) ∧ σ = [some v, some (.ref d), some (.int (o2.ls.idxOf r.anc : Nat)), some (.int (m : Nat)), some (.str (sd r.aft)), some (.str r.anc), some (.int r.k), some (.str r.mov), some (.ref b), some (.ref c)], ⟨o2.ls.idxOf r.anc, by omega, rfl, rfl, rfl⟩, ?_⟩
        rintro m σ H3 ⟨hp, rfl, hu, rfl⟩
        refine ⟨_, rfl, _, _, rfl, rfl, _, rfl, ?_⟩
        refine ite2 (fun e => ?_) (fun e => ?_)
        · obtain ⟨p, rfl⟩ : ∃ p, m = p + 1 := ⟨m - 1, by have := of_decide_eq_true e; omega⟩
          have hlt : p < o2.ss.length := by omega
          have g : o2.ss[p]? = some o2.ss[p] := List.getElem?_eq_getElem hlt
          refine ⟨_, rfl, _, rfl, _, _, rfl, rfl, c, _, _, _, rfl, rfl, hc.sq, at_nat (j := p) (by omega) (iget g), _, rfl, _, _, rfl, rfl, _, rfl, ?_⟩
          refine ite2 (fun e2 => ?_) (fun e2 => ?_)
          · have e3 : r.k < o2.ss[p] := of_decide_eq_true e2
            refine ⟨_, fun σ2 H3 q => q, _, rfl, _, _, rfl, rfl, p, by omega, by omega, rfl, ?_, ?_⟩
            · rw [← hu, dn_step g e3]
            · have ev : ((p + 1 : Nat) : Int) - 1 = ((p : Nat) : Int) := by omega
              show [some v, some (.ref d), some (.int (o2.ls.idxOf r.anc : Nat)), some (.int (((p + 1 : Nat) : Int) - 1)), some (.str (sd r.aft)), some (.str r.anc), some (.int r.k), some (.str r.mov), some (.ref b), some (.ref c)] = _
              rw [ev]
          · have e3 : ¬ r.k < o2.ss[p] := fun z => e2 (decide_eq_true z)
            refine ⟨rfl, ?_⟩
            rw [← hu, dn_stop g e3]
        · have hle : m = 0 := by
            have e3 : ¬ (0 : Int) < ((m : Nat) : Int) := fun z => e (decide_eq_true z)
            omega
          subst hle
          refine iteF ⟨rfl, ?_⟩
          rw [← hu]
          rfl
      · rintro σ H3 ⟨rfl, rfl⟩
        have hdl : dn o2.ss r.k (o2.ls.idxOf r.anc) ≤ o2.ls.idxOf r.anc := dn_le
        refine ⟨_, rfl, _, rfl, _, rfl, b, _, rfl, hb, fun p3 H3 s3 h3 => ⟨_, rfl, (by show 1 ≤ 1000; decide), fun p4 H4 s4 h4 => ?_⟩⟩
        rw [cut_to (k := dn o2.ss r.k (o2.ls.idxOf r.anc)) rfl] at h3
        refine ⟨p3, p4, _, _, rfl, rfl, h3.same s4, h4, by simp only [List.length_take, List.length_map, List.length_cons, List.length_nil]; omega, fun p5 H5 s5 h5 => ?_⟩
        have s35 := (s3.trans s4).trans s5
        refine ⟨_, rfl, _, rfl, _, rfl, b, _, rfl, hb.same s35, fun p6 H6 s6 h6 => ?_⟩
        rw [cut_from (k := dn o2.ss r.k (o2.ls.idxOf r.anc)) rfl] at h6
        refine ⟨p5, p6, _, _, rfl, rfl, h5.same s6, h6, by simp only [List.length_append, List.length_take, List.length_drop, List.length_map, List.length_cons, List.length_nil]; omega, fun p7 H7 s7 h7 => ?_⟩
        have s37 := (s35.trans s6).trans s7
        have e7 : (o2.ls.map V.str).take (dn o2.ss r.k (o2.ls.idxOf r.anc)) ++ [V.str r.mov] ++ (o2.ls.map V.str).drop (dn o2.ss r.k (o2.ls.idxOf r.anc)) = ((putB o2 r.anc r.k r.mov).ls).map V.str := by
          unfold putB
          simp
        rw [e7] at h7
        have hc7 := hc.same s37
        refine ⟨_, rfl, _, rfl, _, rfl, c, _, rfl, hc7, fun p8 H8 s8 h8 => ⟨_, rfl, (by show 1 ≤ 1000; decide), fun p9 H9 s9 h9 => ?_⟩⟩
        rw [cut_to (k := dn o2.ss r.k (o2.ls.idxOf r.anc)) rfl] at h8
        refine ⟨p8, p9, _, _, rfl, rfl, h8.same s9, h9, by simp only [List.length_take, List.length_map, List.length_cons, List.length_nil]; omega, fun p10 H10 s10 h10 => ?_⟩
        have s710 := (s8.trans s9).trans s10
        refine ⟨_, rfl, _, rfl, _, rfl, c, _, rfl, hc7.same s710, fun p11 H11 s11 h11 => ?_⟩
        rw [cut_from (k := dn o2.ss r.k (o2.ls.idxOf r.anc)) rfl] at h11
        refine ⟨p10, p11, _, _, rfl, rfl, h10.same s11, h11, by simp only [List.length_append, List.length_take, List.length_drop, List.length_map, List.length_cons, List.length_nil]; omega, fun p12 H12 s12 h12 => ⟨(by show 2 ≤ 1000; decide), fun p13 H13 s13 h13 => ?_⟩⟩
        have e12 : (o2.ss.map V.int).take (dn o2.ss r.k (o2.ls.idxOf r.anc)) ++ [V.int r.k] ++ (o2.ss.map V.int).drop (dn o2.ss r.k (o2.ls.idxOf r.anc)) = ((putB o2 r.anc r.k r.mov).ss).map V.int := by
          unfold putB
          simp
        rw [e12] at h12
        have s713 := ((s710.trans s11).trans s12).trans s13
        exact k _ H13 ((s2.trans s37).trans s713) ⟨p13, p7, p12, rfl, h13, h7.same s713, h12.same s13⟩
def spLled : Sp := fun vs H Q _ => ∃ (v u : V) (o : Ord Str) (rs : List (Rul Str)), vs = [v, u] ∧ OrdA H v o ∧ RulsA H u rs ∧ WO o ∧ (∀ r ∈ rs, RO r) ∧ (∀ z, lled o rs = some z → RetO H Q z) ∧ (lled o rs = none → Non H Q)
abbrev N_Lled : List Str := ["_law_order_here", "_law_rules", "_law_rule_here"]
theorem sc_Lled : FnScope N_Lled ["_law_order_here", "_law_rules"] (defScope s_Lled) := ⟨rfl, rfl, rfl, by decide +kernel, rfl, by decide +kernel, by decide +kernel⟩
-- slots: 0 _law_order_here, 1 _law_rules, 2 _law_rule_here
theorem k_Lled (T : Txt K mg CP CW CN SD) : Kp P w K mg base CX0 3 "_law_led" ["_law_order_here", "_law_rules"] spLled := by
  refine T.d_Lled.ok sc_Lled (fun vs H Q E h => ?_) (fun f cdv A outer s H vs Q E hr h => ?_)
  · obtain ⟨v, u, o, rs, rfl, _⟩ := h
    rfl
  · obtain ⟨v, u, o, rs, rfl, ho, ⟨d, xs, rfl, hd, hp⟩, wo, ro, k, kn⟩ := h
    refine ⟨_, (pss_cons (ps_for PassesOwn.never rfl (pi_tup (pv 1)) (pg_name (i := 2) sc_Lled.nd rfl (Or.inl rfl))
      (pss_cons (ps_if (PW.pt (pw_or (pt_cmpR op_notInS (pe_ix ix_tup (pv 2) pe_int (fun _ _ => rfl)) (pe_ix ix_tup (pv 0) pe_int (fun _ _ => rfl)) (by rfl)) (pw_or1 (PW.pt (pw_and (pt_cmpR op_eq (pe_callB call_len rfl T.b_len (by decide +kernel) (pa_cons (pe_ix ix_tup (pv 0) pe_int (fun _ _ => rfl)) pa_nil)) pe_int (nomark _)) (pw_and1 (pt_cmpR op_notInS (pe_ix ix_tup (pv 2) pe_int (fun _ _ => rfl)) (pe_ix ix_tup (pv 0) pe_int (fun _ _ => rfl)) (by rfl)))))))) (pss_one (ps_ret pe_non)) pss_nil)
      (pss_one (ps_set (i := 0) sc_Lled.nd rfl (Or.inl rfl) (pe_g (k_Lput T) (hr.mono (by decide)) pass0 (pa_cons (pv 0) (pa_cons (pv 2) pa_nil)))))))
      (pss_one (ps_ret (pv 0)))), ?_⟩
    refine ⟨_, rfl, d, rfl, ⟨_, hd.sq⟩, for_tup (xs := xs) (fun i σ H4 => ∃ v4 o4 a, Same H H4 ∧ OrdA H4 v4 o4 ∧ WO o4 ∧ lled o rs = lled o4 (rs.drop i) ∧ σ = [some v4, some (.ref d), a]) ⟨v, o, none, Same.refl _, ho, wo, rfl, rfl⟩ (fun i σ H4 _ h => ?_) ?_ ?_⟩
    · obtain ⟨_, _, _, s4, _⟩ := h
      exact (hd.same s4).sq
    · rintro i x σ H4 hx ⟨v4, o4, _, s4, ho4, wo4, e4, rfl⟩
      obtain ⟨r, hr1, hr2⟩ := Paired.get hp hx
      have ed : rs.drop i = r :: rs.drop (i + 1) := by
        obtain ⟨hi, e⟩ := List.getElem?_eq_some_iff.mp hr1
        rw [List.drop_eq_getElem_cons hi, e]
      have rr := ro r (List.mem_of_getElem? hr1)
      rw [ed] at e4
      obtain ⟨dr, rfl, hdr⟩ := hr2.tm (TM.of s4)
      obtain ⟨a, b, c, rfl, ha, hb, hc⟩ := ho4
      have le4 := wo4.le
      refine ⟨_, rfl, dr, _, _, _, rfl, rfl, hdr.sq, atI_nat (j := 1) rfl, _, rfl, a, _, _, _, rfl, rfl, ha.sq, atI_nat (j := 0) rfl, b, _, _, rfl, rfl, hb.sq, _, rfl, ?_⟩
      by_cases hm : r.anc ∈ o4.ls
      · refine ite2 (fun e => ?_) (fun e => ?_)
        · have e3 : (!decide (r.anc ∈ o4.ls)) = true := e
          rw [decide_eq_true hm] at e3
          cases e3
        · refine ⟨_, rfl, a, _, _, _, rfl, rfl, ha.sq, atI_nat (j := 0) rfl, _, o4.ls.length, rfl, .inr ⟨_, hb.sq, by rw [List.length_map]⟩, rfl, false, congrArg V.bl (decide_eq_false fun z => by have := V.int.inj z; omega), iteF (iteF ?_)⟩
          have e5 : lled o rs = lled (lput o4 r) (rs.drop (i + 1)) := by rw [e4, lled, if_pos hm]
          refine ⟨_, rfl, _, rfl, _, _, o4, r, rfl, ⟨a, b, c, rfl, ha, hb, hc⟩, ⟨dr, rfl, hdr⟩, wo4, rr, hm, fun v6 H6 s6 h6 => ?_⟩
          have f : RFit o4 r := ⟨rr.ok.ne, rr.ok.lv, hm⟩
          refine ⟨v6, lput o4 r, _, s4.trans s6, h6, ?_, e5, rfl⟩
          rw [lput_eq wo4.wf f]
          exact put_wo wo4 rr hm
      · refine ite2 (fun e => ?_) (fun e => ?_)
        · have e5 : lled o rs = none := by rw [e4, lled, if_neg hm]
          exact kn e5 H4 s4
        · refine absurd ?_ e
          show (!decide (r.anc ∈ o4.ls)) = true
          rw [decide_eq_false hm]
          rfl
    · rintro σ H4 ⟨v4, o4, _, s4, ho4, wo4, e4, rfl⟩
      rw [List.drop_of_length_le (by rw [hp.length]; exact Nat.le_refl _)] at e4
      exact ⟨_, rfl, k o4 e4 v4 H4 s4 ho4⟩
end
end Fw

set_option maxHeartbeats 4000000
/-! FwE5: the law's own behind, command, state, replayed -/
namespace Fw
open PySem PySem.Spec PySem.W PyProof.Rows L2
def CG : Cmd Str → Prop
  | .reset => True
  | .rule r => RG r
  | .rules rs => rs.length ≤ 3 ∧ ∀ r ∈ rs, RG r
theorem CG.co {c : Cmd Str} (h : CG c) : CO c := by
  cases c with
  | reset => trivial
  | rule r => exact RG.ro h
  | rules rs => exact ⟨h.1, fun r hr => (h.2 r hr).ro⟩
section
variable {P : Program} {w : World} {K : PySem.W.Frag} {mg : Str → Option Value} {base : Heap} {CP CW CN SD : Addr}
def spLbehind : Sp := fun vs H Q _ => ∃ (v1 v2 u : V) (i o : Ord Str) (c : Cmd Str), vs = [v1, v2, u] ∧ OrdA H v1 i ∧ OrdA H v2 o ∧ CmdA H u c ∧ CO c ∧ WO o ∧ (∀ z, lstepO i o c = some z → RetO H Q z) ∧ (lstepO i o c = none → Non H Q)
abbrev N_Lbehind : List Str := ["_law_initial", "_law_current", "_law_command_here"]
theorem sc_Lbehind : FnScope N_Lbehind ["_law_initial", "_law_current", "_law_command_here"] (defScope s_Lbehind) := ⟨rfl, rfl, rfl, by decide +kernel, rfl, by decide +kernel, by decide +kernel⟩
-- slots: 0 _law_initial, 1 _law_current, 2 _law_command_here
theorem k_Lbehind (T : Txt K mg CP CW CN SD) : Kp P w K mg base CX0 4 "_law_behind" ["_law_initial", "_law_current", "_law_command_here"] spLbehind := by
  refine T.d_Lbehind.ok sc_Lbehind (fun vs H Q E h => ?_) (fun f cdv A outer s H vs Q E hr h => ?_)
  · obtain ⟨v1, v2, u, i, o, c, rfl, _⟩ := h
    rfl
  · obtain ⟨v1, v2, u, i, o, c, rfl, h1, h2, hc, co, wo, k, kn⟩ := h
    refine ⟨_, (pss_cons (ps_if (pt_cmpR op_eq (pe_ix ix_tup (pv 2) pe_int (fun _ _ => rfl)) pe_str (nomark _)) (pss_one (ps_ret (pv 0))) pss_nil)
      (pss_cons (ps_if (pt_cmpR op_eq (pe_ix ix_tup (pv 2) pe_int (fun _ _ => rfl)) pe_str (nomark _)) (pss_one (ps_ret (pe_g (k_Lled T) (hr.mono (by decide)) pass0 (pa_cons (pv 1) (pa_cons (pe_tupS (pa_cons (pe_ix ix_tup (pv 2) pe_int (fun _ _ => rfl)) pa_nil)) pa_nil))))) pss_nil)
      (pss_one (ps_ret (pe_g (k_Lled T) (hr.mono (by decide)) pass0 (pa_cons (pv 1) (pa_cons (pe_ix ix_tup (pv 2) pe_int (fun _ _ => rfl)) pa_nil))))))), ?_⟩
    cases c with
    | reset =>
      obtain ⟨a, rfl, h⟩ := hc
      refine ⟨_, rfl, a, _, 0, _, rfl, rfl, h.sq, atI_nat (j := 0) rfl, rfl, true, congrArg V.bl (by decide +kernel), iteT ?_⟩
      exact ⟨_, rfl, k i rfl _ H (Same.refl _) h1⟩
    | rule r =>
      obtain ⟨a, x, rfl, h, hx⟩ := hc
      refine ⟨_, rfl, a, _, 0, _, rfl, rfl, h.sq, atI_nat (j := 0) rfl, rfl, false, congrArg V.bl (by decide +kernel), iteF ?_⟩
      refine ⟨_, rfl, a, _, 0, _, rfl, rfl, h.sq, atI_nat (j := 0) rfl, rfl, true, congrArg V.bl (by decide +kernel), iteT ?_⟩
      refine ⟨_, rfl, _, rfl, a, _, 1, _, rfl, rfl, h.sq, atI_nat (j := 1) rfl, (by show 1 ≤ 1000; decide), fun p H2 s2 hp => ?_⟩
      refine ⟨v2, .ref p, o, [r], rfl, h2.tm (TM.of s2), ⟨p, [x], rfl, hp, .cons (hx.tm (TM.of s2)) .nil⟩, wo, fun r' hr' => by rw [List.mem_singleton.mp hr']; exact co, fun z hz v H3 s3 h3 => k z hz v H3 (s2.trans s3) h3, fun hn H3 s3 => kn hn H3 (s2.trans s3)⟩
    | rules rs =>
      obtain ⟨a, x, rfl, h, hx⟩ := hc
      refine ⟨_, rfl, a, _, 0, _, rfl, rfl, h.sq, atI_nat (j := 0) rfl, rfl, false, congrArg V.bl (by decide +kernel), iteF ?_⟩
      refine ⟨_, rfl, a, _, 0, _, rfl, rfl, h.sq, atI_nat (j := 0) rfl, rfl, false, congrArg V.bl (by decide +kernel), iteF ?_⟩
      exact ⟨_, rfl, _, rfl, a, _, 1, _, rfl, rfl, h.sq, atI_nat (j := 1) rfl, v2, x, o, rs, rfl, h2, hx, wo, co.2, k, kn⟩
def spLcommand : Sp := fun vs H Q _ => ∃ (p s0 b : Addr) (v : V) (xs : List Int), vs = [.ref p, v, .ref b] ∧ StrA H p s0 xs ∧ H b = some (.lst (letters7.map V.str)) ∧ b ≠ p ∧
  ∀ u c H2, But p H H2 → StrA H2 p s0 xs → CmdA H2 u c → CG c → Q u H2
abbrev N_Lcommand : List Str := ["_law_stream_here", "_law_order_here", "_law_letters", "_law_pick", "_law_k"]
theorem sc_Lcommand : FnScope N_Lcommand ["_law_stream_here", "_law_order_here", "_law_letters"] (defScope s_Lcommand) := ⟨rfl, rfl, rfl, by decide +kernel, rfl, by decide +kernel, by decide +kernel⟩
-- slots: 0 _law_stream_here, 1 _law_order_here, 2 _law_letters, 3 _law_pick, 4 _law_k
theorem k_Lcommand (T : Txt K mg CP CW CN SD) : Kp P w K mg base CX0 4 "_law_command" ["_law_stream_here", "_law_order_here", "_law_letters"] spLcommand := by
  refine T.d_Lcommand.ok sc_Lcommand (fun vs H Q E h => ?_) (fun f cdv A outer s H vs Q E hr h => ?_)
  · obtain ⟨p, s0, b, v, xs, rfl, _⟩ := h
    rfl
  · obtain ⟨p, s0, b, v, xs, rfl, hst, hb, nbp, k⟩ := h
    refine ⟨_, (pss_cons (ps_set (i := 3) sc_Lcommand.nd rfl (Or.inl rfl) (pe_g (k_Lnext T) (hr.mono (by decide)) pass0 (pa_cons (pv 0) (pa_cons pe_int pa_nil))))
      (pss_cons (ps_if (pt_cmpR op_eq (pv 3) pe_int (nomark _)) (pss_one (ps_ret (pe_tupS (pa_cons pe_str pa_nil)))) pss_nil)
      (pss_cons (ps_if (pt_cmpR op_lt (pv 3) pe_int (nomark _)) (pss_one (ps_ret (pe_tupS (pa_cons pe_str (pa_cons (pe_g (k_Lrule T) (hr.mono (by decide)) pass0 (pa_cons (pv 0) (pa_cons (pv 2) pa_nil))) pa_nil))))) pss_nil)
      (pss_one (ps_ret (pe_tupS (pa_cons pe_str (pa_cons (pe_callTy call_tupS rfl T.b_tuple (by decide +kernel) (pa_cons (pe_lc (own := [("_law_k", 4)]) rfl sc_Lcommand.nd (pi_range1 rfl T.b_range (pa_cons (pe_g (k_Lnext T) (hr.mono (by decide)) pass0 (pa_cons (pv 0) (pa_cons pe_int pa_nil))) pa_nil)) (blkOk_by (own := [("_law_k", 4)]) (N := N_Lcommand) (sc := defScope s_Lcommand) (by decide +kernel)) (fun _ _ _ _ _ => (pg_name (i := 4) sc_Lcommand.nd rfl (Or.inl rfl))) (fun _ _ _ _ _ => pts_nil) (fun _ _ _ _ _ => (pe_g (k_Lrule T) (hr.mono (by decide)) pass0 (pa_cons (pv 0) (pa_cons (pv 2) pa_nil))))) pa_nil)) pa_nil)))))))), ?_⟩
    refine ⟨_, rfl, p, s0, xs, 6, rfl, hst, by decide, by decide, fun r H2 hr0 hr1 b2 st2 => ?_⟩
    have hb2 := b2 _ _ nbp hb
    refine ⟨_, rfl, rfl, _, rfl, ?_⟩
    refine ite2 (fun e => ?_) (fun e => ?_)
    · refine ⟨(by show 1 ≤ 1000; decide), fun q H3 s3 hq => ?_⟩
      exact k _ .reset H3 (b2.trans (But.of s3)) (st2.same s3) ⟨q, rfl, hq⟩ trivial
    · refine ⟨_, rfl, _, _, rfl, rfl, _, rfl, ?_⟩
      refine ite2 (fun e => ?_) (fun e => ?_)
      · refine ⟨_, rfl, _, rfl, p, s0, b, xs, rfl, st2, hb2, nbp, fun v3 r3 H3 b3 st3 h3 g3 => ⟨(by show 2 ≤ 1000; decide), fun q H4 s4 hq => ?_⟩⟩
        exact k _ (.rule r3) H4 ((b2.trans b3).trans (But.of s4)) (st3.same s4) ⟨q, v3, rfl, hq, h3.tm (TM.of s4)⟩ g3
      · refine ⟨_, rfl, p, s0, xs, 4, rfl, st2, by decide, by decide, fun r2 H3 hr2 hr3 b3 st3 => ⟨_, rfl, by omega, by omega, lcM (by omega) (fun D i acc H5 => But p H3 H5 ∧ StrA H5 p s0 xs ∧ ∃ rs, Paired (RulA H5) acc rs ∧ ∀ r ∈ rs, RG r) (fun D hD => ⟨But.of (Same.new hD), st3.same (Same.new hD), [], .nil, fun n hn => by cases hn⟩) (fun D i acc H5 Kt hD hi hacc iv kt => ?_) (fun D acc H5 hD hal hacc iv => ?_)⟩⟩
        · obtain ⟨b5, st5, rs, hp5, hrs⟩ := iv
          have nDp : D ≠ p := fun z => by
            obtain ⟨_, _, _, h, _⟩ := st3
            rw [z, h] at hD
            cases hD
          refine ⟨rfl, _, rfl, _, rfl, p, s0, b, xs, rfl, st5, b5 _ _ nbp (b3 _ _ nbp hb2), nbp, fun v6 r6 H6 b6 st6 h6 g6 => ?_⟩
          have hD6 := b6 _ _ nDp hacc
          have tm := TM.lst (zs := acc ++ [v6]) hD6
          refine kt _ H6 hD6 ⟨?_, ?_, rs ++ [r6], ?_, fun n hn => ?_⟩
          · exact fun a o n e => by
              rw [upd_ne (ne_of_none e hD)]
              exact b6 _ _ n (b5 _ _ n e)
          · obtain ⟨nps, m1, m2, h1, h2⟩ := st6
            obtain ⟨_, _, _, _, g2⟩ := st3
            exact ⟨nps, m1, m2, (upd_ne nDp.symm).trans h1, (upd_ne (ne_of_none g2 hD)).trans h2⟩
          · exact Paired.app (Paired.mapP hp5 fun _ _ q => (q.tm (StrA.tm b6 st5)).tm tm) (.cons (h6.tm tm) .nil)
          · rcases List.mem_append.mp hn with q | q
            · exact hrs n q
            · rw [List.mem_singleton.mp q]
              exact g6
        · obtain ⟨b5, st5, rs, hp5, hrs⟩ := iv
          have hl := hp5.length
          refine ⟨D, _, rfl, SqL.of hacc, fun t2 H6 s6 ht2 => ⟨(by show 2 ≤ 1000; decide), fun q5 H7 s7 hq5 => ?_⟩⟩
          refine k _ (.rules rs) H7 (((b2.trans b3).trans b5).trans (But.of (s6.trans s7))) (st5.same (s6.trans s7)) ⟨q5, _, rfl, hq5, t2, acc, rfl, ht2.same s7, Paired.mapP hp5 fun _ _ q => q.tm (TM.of (s6.trans s7))⟩ ⟨by omega, hrs⟩
def StateA (H : Hp) (v : V) (i : Ord Str) (hs : Hs) : Prop := ∃ q u1 u2 u3, v = .ref q ∧ Tp H q [.int (dist i (cur i hs)), u1, u2, u3] ∧ RulsA H u1 (shortR i (cur i hs)) ∧ StrsA H u2 (long i (cur i hs)) ∧ RecsA i H u3 hs
theorem StateA.tm {H H2 : Hp} {v : V} {i : Ord Str} {hs : Hs} (s : TM H H2) (h : StateA H v i hs) : StateA H2 v i hs := by
  obtain ⟨q, u1, u2, u3, e, h, h1, h2, h3⟩ := h
  exact ⟨q, u1, u2, u3, e, h.tm s, h1.tm s, h2.tm s, h3.tm s⟩
def spLstate (CW : Addr) : Sp := fun vs H Q _ => ∃ (a lo lc : Addr) (i : Ord Str) (hs : Hs), vs = [.ref a] ∧ WsA CW H a lo lc i hs ∧ Hist i hs ∧ hs.length ≤ 20 ∧ ∀ v H2, Same H H2 → StateA H2 v i hs → Q v H2
abbrev N_Lstate : List Str := ["_law_workshop"]
theorem sc_Lstate : FnScope N_Lstate ["_law_workshop"] (defScope s_Lstate) := ⟨rfl, rfl, rfl, by decide +kernel, rfl, by decide +kernel, by decide +kernel⟩
-- slots: 0 _law_workshop
theorem k_Lstate (T : Txt K mg CP CW CN SD) : Kp P w K mg base CX0 9 "_law_state" ["_law_workshop"] (spLstate CW) := by
  refine T.d_Lstate.ok sc_Lstate (fun vs H Q E h => ?_) (fun f cdv A outer s H vs Q E hr h => ?_)
  · obtain ⟨a, lo, lc, i, hs, rfl, _⟩ := h
    rfl
  · obtain ⟨a, lo, lc, i, hs, rfl, hw, hh, hl, k⟩ := h
    have hw0 := hw
    obtain ⟨dx, os, cs, ha, hb⟩ := hw0
    refine ⟨_, (pss_one (ps_ret (pe_tupS (pa_cons (pe_mg0 (k_Workshop_distance T) T.cl_Workshop (hr.mono (by decide)) pass0 (pv 0)) (pa_cons (pe_mg0 (k_Workshop_shortest T) T.cl_Workshop (hr.mono (by decide)) pass0 (pv 0)) (pa_cons (pe_mg0 (k_Workshop_kept T) T.cl_Workshop (hr.mono (by decide)) pass0 (pv 0)) (pa_cons (pe_mg0 (k_Workshop_records T) T.cl_Workshop (hr.mono (by decide)) pass0 (pv 0)) pa_nil))))))), ?_⟩
    refine ⟨_, rfl, a, dx, _, rfl, ha, wsF_n (by decide +kernel) (by decide +kernel), a, lo, lc, i, hs, rfl, hw, hh, fun H2 s2 => ?_⟩
    refine ⟨_, rfl, a, dx, _, rfl, s2 _ _ ha, wsF_n (by decide +kernel) (by decide +kernel), a, lo, lc, i, hs, rfl, hw.same s2, hh, fun u1 H3 s3 h3 => ?_⟩
    have s23 := s2.trans s3
    refine ⟨_, rfl, a, dx, _, rfl, s23 _ _ ha, wsF_n (by decide +kernel) (by decide +kernel), a, lo, lc, i, hs, rfl, hw.same s23, hh, fun u2 H4 s4 h4 => ?_⟩
    have s24 := s23.trans s4
    refine ⟨_, rfl, a, dx, _, rfl, s24 _ _ ha, wsF_n (by decide +kernel) (by decide +kernel), a, lo, lc, i, hs, rfl, hw.same s24, hh, hl, fun u3 H5 s5 h5 => ?_⟩
    exact ⟨(by show 4 ≤ 1000; decide), fun q H6 s6 hq => k _ H6 ((s24.trans s5).trans s6) ⟨q, u1, u2, u3, rfl, hq, h3.tm (TM.of ((s4.trans s5).trans s6)), h4.tm (TM.of (s5.trans s6)), h5.tm (TM.of s6)⟩⟩
/-! ### replayed, and what is raised -/
theorem pe_gS {X : Cx} {CX : CXT} {k : Nat} {ps : List Str} {sp : Sp} {x : Str} {p pos : Pos} {e : Expr} {es : List Expr} {t : TA} {E : L2.St → XK} (F : Kp X.prog X.w X.K X.mg X.base CX k x ps sp) (hr : Room k X.A) (hx : ∀ σ, PassesAt CX X σ (E σ)) (ha : PA X (e :: es) t) (hg : Gl X x := by rfl)
    (hdb : (x == ("__debug__" : Str)) = false := by decide) (he : starEach (e :: es) X.env = (false, eval e X.env) :: starEach es X.env := by rfl) (hpl : (backTo pos (starEach es X.env)).any (·.1) = false := by rfl) : PE X (.Call (.Name x p) (e :: es) [] pos) (tCallS sp E t) := by
  obtain ⟨f, fd, h1, h2, h3, h4⟩ := F
  exact pe_callS h4 hr hg h1 h2 h3 hx ha hdb he hpl
def spLreplayed (CW CN : Addr) : Sp := fun vs H Q _ => ∃ (v u : V) (i : Ord Str) (hs : Hs) (c : Cmd Str) (k : Nat), vs = [v, u] ∧ OrdA H v i ∧ CmdsA H u (hs.map (·.1) ++ [c]) ∧ (∀ d ∈ hs.map (·.1) ++ [c], CO d) ∧ (hs.map (·.1) ++ [c]).length ≤ 20 ∧ Hist i hs ∧ (∀ r, c ≠ .rule r) ∧ stepX i (cur i hs) c = .inr k ∧
  ∀ a H2, Same H H2 → Tp H2 a [.int (k : Nat), .str "anchor"] → Q (.ref a) H2
abbrev N_Lreplayed : List Str := ["_law_order_here", "_law_journal", "e"]
theorem sc_Lreplayed : FnScope N_Lreplayed ["_law_order_here", "_law_journal"] (defScope s_Lreplayed) := ⟨rfl, rfl, rfl, by decide +kernel, rfl, by decide +kernel, by decide +kernel⟩
-- slots: 0 _law_order_here, 1 _law_journal, 2 e
theorem k_Lreplayed (T : Txt K mg CP CW CN SD) : Kp P w K mg base CX0 10 "_law_replayed" ["_law_order_here", "_law_journal"] (spLreplayed CW CN) := by
  obtain ⟨fx, fdx, hx1, hx2, _⟩ := T.d_NotApplicable_init
  refine T.d_Lreplayed.ok sc_Lreplayed (fun vs H Q E h => ?_) (fun f cdv A outer s H vs Q E hr h => ?_)
  · obtain ⟨v, u, i, hs, c, k, rfl, _⟩ := h
    rfl
  · obtain ⟨v, u, i, hs, c, k, rfl, hv, hu, co, hl, hh, hnr, hk, kq⟩ := h
    refine ⟨_, (pss_one (ps_try_as (i := 2) (tb := fun W => tRet (tCallS (spReplay CW CN) (WE W) (tCons (tVar 0) (tCons (tVar 1) tNil)))) (ts := fun a cls d => tRet (tTupS (tCons (tXf a cls d CN "index" (tVar 2)) (tCons (tXf a cls d CN "why" (tVar 2)) tNil)))) (Wout := fun _ _ _ _ => False) rfl rfl sc_Lreplayed.nd rfl rfl ⟨rfl, by decide, Or.inl T.g_NotApplicable⟩ takes0
      (fun W pn xe tk _ => pss_one (ps_ret (pe_gS (k_replayed T) (hr.mono (by decide)) (fun σ => passAt tk σ) (by exact (pa_cons (pv 0) (pa_cons (pv 1) pa_nil))))))
      (fun a oe cls d pn hz hf => pss_one (ps_ret (pe_tupS (by exact (pa_cons (pe_xf hx2 T.n_NotApplicable_index hz hf (pv 2)) (pa_cons (pe_xf hx2 T.n_NotApplicable_why hz hf (pv 2)) pa_nil)))))))), ?_⟩
    refine ⟨_, rfl, _, rfl, v, u, i, hs, _, rfl, hv, hu, co, hl, hh, .inr ⟨c, k, rfl, hnr, hk, fun d H2 s2 hd => ?_⟩⟩
    refine ⟨true, T.exm, fun _ a ha => ?_, fun e => Bool.noConfusion e⟩
    refine ⟨_, rfl, rfl, rfl, d, _, _, rfl, hd, rfl, _, rfl, rfl, rfl, d, _, _, rfl, hd, rfl, (by show 2 ≤ 1000; decide), fun q H3 s3 hq => ?_⟩
    exact kq q H3 (s2.trans s3) hq
end
end Fw

set_option maxHeartbeats 4000000
/-! FwE6: what is compared, as plain data -/
namespace Fw
open PySem PySem.Spec PySem.W PyProof.Rows L2
/-! ### data of a depth -/
def G (n : Nat) (d : PyData) : Prop := d.canLay0 = true ∧ d.depth ≤ n
theorem canAll : ∀ {ds : List PyData}, (∀ d ∈ ds, d.canLay0 = true) → PyData.canLayAll0 ds = true
  | [], _ => by simp only [PyData.canLayAll0]
  | d :: ds, h => by
    simp only [PyData.canLayAll0]
    rw [h d List.mem_cons_self, canAll fun x hx => h x (List.mem_cons_of_mem _ hx)]
    rfl
theorem depAll : ∀ {ds : List PyData} {n : Nat}, (∀ d ∈ ds, d.depth ≤ n) → PyData.depthAll ds ≤ n
  | [], _, _ => by simp only [PyData.depthAll]; omega
  | d :: ds, n, h => by
    simp only [PyData.depthAll]
    exact Nat.max_le.mpr ⟨h d List.mem_cons_self, depAll fun x hx => h x (List.mem_cons_of_mem _ hx)⟩
theorem G.tup {n : Nat} {ds : List PyData} (h : ∀ d ∈ ds, G n d) : G (n + 1) (.tuple ds) := by
  refine ⟨?_, ?_⟩
  · simp only [PyData.canLay0]
    exact canAll fun d hd => (h d hd).1
  · simp only [PyData.depth]
    have := depAll fun d hd => (h d hd).2
    omega
theorem G.mono {n m : Nat} {d : PyData} (h : G n d) (q : n ≤ m) : G m d := ⟨h.1, Nat.le_trans h.2 q⟩
theorem G.sh {n : Nat} {d : PyData} (h : G n d) (q : n ≤ 64) : SeqAt.shaped d = true := by
  unfold SeqAt.shaped
  rw [h.1, decide_eq_true (Nat.le_trans h.2 q)]
  rfl
theorem G.int (i : Int) : G 0 (.int i) := ⟨by simp only [PyData.canLay0], by simp only [PyData.depth]; omega⟩
theorem G.str {x : Str} (h : (PyData.str x).canLay0 = true) : G 0 (.str x) := ⟨h, by simp only [PyData.depth]; omega⟩
theorem lay9 : ∀ x ∈ alpha9, (PyData.str x).canLay0 = true := by
  have h : (alpha9.all fun x => (PyData.str x).canLay0) = true := by decide +kernel
  exact List.all_eq_true.mp h
theorem G.let {x : Str} (h : x ∈ alpha9) : G 0 (.str x) := G.str (lay9 x h)
theorem eqv_same {d : PyData} (h : SeqAt.shaped d = true) : PyData.eqv d d = true := SeqAt.eqv_refl d (SeqAt.canLay_of_shaped h)
theorem dpAll {K : PySem.W.Frag} {H : Hp} {β : Type} {R : V → β → Prop} {f : β → PyData} {xs : List V} {ys : List β} (h : Paired R xs ys) (q : ∀ v y, R v y → Dp K H v (f y)) : DpAll K H xs (ys.map f) := by
  induction h with
  | nil => exact .nil
  | cons r _ ih => exact .cons (q _ _ r) ih
theorem dpStrs {K : PySem.W.Frag} {H : Hp} : ∀ l : List Str, DpAll K H (l.map V.str) (l.map PyData.str)
  | [] => .nil
  | x :: l => .cons (.str x) (dpStrs l)
/-! ### the data -/
def dStrs (l : List Str) : PyData := .tuple (l.map PyData.str)
def dInts (l : List Int) : PyData := .tuple (l.map PyData.int)
def dOrd (o : Ord Str) : PyData := .tuple [dStrs o.ls, dInts o.ss]
def dRul (r : Rul Str) : PyData := .tuple [.str (sd r.aft), .str r.anc, .int r.k, .str r.mov]
def dRuls (rs : List (Rul Str)) : PyData := .tuple (rs.map dRul)
def dCmd : Cmd Str → PyData
  | .reset => .tuple [.str "reset"]
  | .rule r => .tuple [.str "rule", dRul r]
  | .rules rs => .tuple [.str "rules", dRuls rs]
def dCmds (cs : List (Cmd Str)) : PyData := .tuple (cs.map dCmd)
def dRec (i : Ord Str) (p : Cmd Str × Ord Str) : PyData := .tuple [dCmd p.1, dRuls (shortR i p.2), dInts (levs i p.2)]
def dRecs (i : Ord Str) (hs : Hs) : PyData := .tuple (hs.map (dRec i))
def dState (i : Ord Str) (hs : Hs) : PyData := .tuple [.int (dist i (cur i hs)), dRuls (shortR i (cur i hs)), dStrs (long i (cur i hs)), dRecs i hs]
section
variable {K : PySem.W.Frag} {H : Hp} {v : V}
theorem StrsA.dp {l : List Str} (h : StrsA H v l) : Dp K H v (dStrs l) := by
  obtain ⟨a, rfl, h⟩ := h
  exact .tup h.sq (dpStrs l)
theorem IntsA.dp {l : List Int} (h : IntsA H v l) : Dp K H v (dInts l) := by
  obtain ⟨a, rfl, h⟩ := h
  exact .tup h.sq (dp_ints l)
theorem OrdA.dp {o : Ord Str} (h : OrdA H v o) : Dp K H v (dOrd o) := by
  obtain ⟨a, b, c, rfl, h1, h2, h3⟩ := h
  exact .tup h1.sq (.cons (.tup h2.sq (dpStrs _)) (.cons (.tup h3.sq (dp_ints _)) .nil))
theorem RulA.dp {r : Rul Str} (h : RulA H v r) : Dp K H v (dRul r) := by
  obtain ⟨a, rfl, h⟩ := h
  exact .tup h.sq (.cons (.str _) (.cons (.str _) (.cons (.int _) (.cons (.str _) .nil))))
theorem RulsA.dp {rs : List (Rul Str)} (h : RulsA H v rs) : Dp K H v (dRuls rs) := by
  obtain ⟨a, xs, rfl, h, p⟩ := h
  exact .tup h.sq (dpAll p fun _ _ q => q.dp)
theorem CmdA.dp {c : Cmd Str} (h : CmdA H v c) : Dp K H v (dCmd c) := by
  cases c with
  | reset =>
    obtain ⟨a, rfl, h⟩ := h
    exact .tup h.sq (.cons (.str _) .nil)
  | rule r =>
    obtain ⟨a, x, rfl, h, q⟩ := h
    exact .tup h.sq (.cons (.str _) (.cons q.dp .nil))
  | rules rs =>
    obtain ⟨a, x, rfl, h, q⟩ := h
    exact .tup h.sq (.cons (.str _) (.cons q.dp .nil))
theorem CmdsA.dp {cs : List (Cmd Str)} (h : CmdsA H v cs) : Dp K H v (dCmds cs) := by
  obtain ⟨a, xs, rfl, h, p⟩ := h
  exact .tup h.sq (dpAll p fun _ _ q => q.dp)
theorem RecA.dp {i : Ord Str} {p : Cmd Str × Ord Str} (h : RecA i H v p) : Dp K H v (dRec i p) := by
  obtain ⟨a, u0, u1, u2, rfl, h, h0, h1, h2⟩ := h
  exact .tup h.sq (.cons h0.dp (.cons h1.dp (.cons h2.dp .nil)))
theorem RecsA.dp {i : Ord Str} {hs : Hs} (h : RecsA i H v hs) : Dp K H v (dRecs i hs) := by
  obtain ⟨a, xs, rfl, h, p⟩ := h
  exact .tup h.sq (dpAll p fun _ _ q => q.dp)
theorem StateA.dp {i : Ord Str} {hs : Hs} (h : StateA H v i hs) : Dp K H v (dState i hs) := by
  obtain ⟨a, u1, u2, u3, rfl, h, h1, h2, h3⟩ := h
  exact .tup h.sq (.cons (.int _) (.cons h1.dp (.cons h2.dp (.cons h3.dp .nil))))
end
/-! ### they are of little depth, their texts are plain -/
theorem gStrs {l : List Str} (h : ∀ x ∈ l, x ∈ alpha9) : G 1 (dStrs l) := G.tup fun d hd => by
  obtain ⟨x, hx, rfl⟩ := List.mem_map.mp hd
  exact G.let (h x hx)
theorem gInts (l : List Int) : G 1 (dInts l) := G.tup fun d hd => by
  obtain ⟨x, hx, rfl⟩ := List.mem_map.mp hd
  exact G.int x
theorem gOrd {o : Ord Str} (w : WO o) : G 2 (dOrd o) := G.tup fun d hd => by
  simp only [List.mem_cons, List.not_mem_nil, or_false] at hd
  rcases hd with rfl | rfl
  · exact gStrs fun x hx => alpha_sub (w.al x hx)
  · exact gInts _
def Lets (r : Rul Str) : Prop := r.anc ∈ alpha9 ∧ r.mov ∈ alpha9
theorem gRul {r : Rul Str} (h : Lets r) : G 1 (dRul r) := G.tup fun d hd => by
  simp only [List.mem_cons, List.not_mem_nil, or_false] at hd
  rcases hd with rfl | rfl | rfl | rfl
  · refine G.str ?_
    unfold sd
    cases r.aft <;> decide +kernel
  · exact G.let h.1
  · exact G.int _
  · exact G.let h.2
theorem gRuls {rs : List (Rul Str)} (h : ∀ r ∈ rs, Lets r) : G 2 (dRuls rs) := G.tup fun d hd => by
  obtain ⟨x, hx, rfl⟩ := List.mem_map.mp hd
  exact gRul (h x hx)
theorem RO.lets {r : Rul Str} (h : RO r) : Lets r := ⟨h.a9, alpha_sub h.a8⟩
theorem gCmd {c : Cmd Str} (h : CO c) : G 3 (dCmd c) := by
  cases c with
  | reset =>
    refine G.mono (G.tup (n := 0) fun d hd => ?_) (by decide)
    rw [List.mem_singleton.mp hd]
    exact G.str (by decide +kernel)
  | rule r =>
    refine G.tup fun d hd => ?_
    simp only [List.mem_cons, List.not_mem_nil, or_false] at hd
    rcases hd with rfl | rfl
    · exact G.mono (G.str (by decide +kernel)) (by decide)
    · exact G.mono (gRul (RO.lets h)) (by decide)
  | rules rs =>
    refine G.tup fun d hd => ?_
    simp only [List.mem_cons, List.not_mem_nil, or_false] at hd
    rcases hd with rfl | rfl
    · exact G.mono (G.str (by decide +kernel)) (by decide)
    · exact gRuls fun r hr => (h.2 r hr).lets
theorem gCmds {cs : List (Cmd Str)} (h : ∀ c ∈ cs, CO c) : G 4 (dCmds cs) := G.tup fun d hd => by
  obtain ⟨x, hx, rfl⟩ := List.mem_map.mp hd
  exact gCmd (h x hx)
/-- the letters of the shortest rules are the order's -/
def In2 (o : Ord Str) (r : Rul Str) : Prop := r.anc ∈ o.ls ∧ r.mov ∈ o.ls
theorem rl_in {o : Ord Str} {i : Nat} {r : Rul Str} (h : rl o i = some r) : In2 o r := by
  unfold rl at h
  split at h
  · rename_i a k x e1 e2 e3
    cases h
    exact ⟨List.mem_of_getElem? e1, List.mem_of_getElem? e3⟩
  · cases h
theorem rr_in {o : Ord Str} {i : Nat} {r : Rul Str} (h : rr o i = some r) : In2 o r := by
  unfold rr at h
  split at h
  · rename_i a k x e1 e2 e3
    cases h
    exact ⟨List.mem_of_getElem? e1, List.mem_of_getElem? e3⟩
  · cases h
theorem fromL_in {o : Ord Str} {a b : Nat} : ∀ r ∈ fromL o a b, In2 o r := fun r hr => by
  obtain ⟨i, _, e⟩ := List.mem_filterMap.mp hr
  exact rl_in e
theorem fromR_in {o : Ord Str} {a b : Nat} : ∀ r ∈ fromR o a b, In2 o r := fun r hr => by
  obtain ⟨i, _, e⟩ := List.mem_filterMap.mp hr
  exact rr_in e
theorem keepT_in {o : Ord Str} {ps : List Nat} : ∀ t, ∀ r ∈ keepT o ps t, In2 o r
  | 0, r, hr => fromR_in r hr
  | t + 1, r, hr => by
    rcases List.mem_append.mp hr with q | q
    · exact keepT_in t r q
    · rcases List.mem_append.mp q with q | q
      · exact fromL_in r q
      · exact fromR_in r q
theorem short_lets {i o : Ord Str} (w : WO o) : ∀ r ∈ shortR i o, Lets r := fun r hr => by
  have q : In2 o r := by
    rcases List.mem_append.mp hr with q | q
    · exact keepT_in _ r q
    · exact fromL_in r q
  exact ⟨alpha_sub (w.al _ q.1), alpha_sub (w.al _ q.2)⟩
theorem gRec {i : Ord Str} {p : Cmd Str × Ord Str} (h : CO p.1) (w : WO p.2) : G 4 (dRec i p) := G.tup fun d hd => by
  simp only [List.mem_cons, List.not_mem_nil, or_false] at hd
  rcases hd with rfl | rfl | rfl
  · exact gCmd h
  · exact G.mono (gRuls (short_lets w)) (by decide)
  · exact G.mono (gInts _) (by decide)
theorem Hist.cos {i : Ord Str} {hs : Hs} (h : Hist i hs) : ∀ p ∈ hs, CO p.1 := fun p hp => by
  obtain ⟨t, ht, e⟩ := List.mem_iff_getElem.mp hp
  exact (h.step t p.1 p.2 (by rw [List.getElem?_eq_getElem ht, e])).co
theorem gRecs {i : Ord Str} {hs : Hs} (h : Hist i hs) : G 5 (dRecs i hs) := G.tup fun d hd => by
  obtain ⟨p, hp, rfl⟩ := List.mem_map.mp hd
  exact gRec (h.cos p hp) (h.two p hp).wo
theorem gState {i : Ord Str} {hs : Hs} (h : Hist i hs) : G 6 (dState i hs) := G.tup fun d hd => by
  have w := h.cur.wo
  simp only [List.mem_cons, List.not_mem_nil, or_false] at hd
  rcases hd with rfl | rfl | rfl | rfl
  · exact G.mono (G.int _) (by decide)
  · exact G.mono (gRuls (short_lets w)) (by decide)
  · exact G.mono (gStrs fun x hx => alpha_sub (w.al x ((long_places (f := i) w.wf).1 x hx))) (by decide)
  · exact gRecs h
theorem gJour {i : Ord Str} {hs : Hs} (h : Hist i hs) : G 4 (dCmds (hs.map (·.1))) := gCmds fun c hc => by
  obtain ⟨p, hp, rfl⟩ := List.mem_map.mp hc
  exact h.cos p hp
/-! ### what repr asks -/
theorem showAll : ∀ {ds : List PyData}, (∀ d ∈ ds, d.showable = true) → PyData.showableAll ds = true
  | [], _ => by simp only [PyData.showableAll]
  | d :: ds, h => by
    simp only [PyData.showableAll]
    rw [h d List.mem_cons_self, showAll fun x hx => h x (List.mem_cons_of_mem _ hx)]
    rfl
theorem shownAll_map : ∀ ds : List PyData, PyData.shownAll ds = ds.map PyData.shown
  | [] => by simp only [PyData.shownAll, List.map_nil]
  | d :: ds => by simp only [PyData.shownAll, List.map_cons]; rw [shownAll_map ds]
theorem sum_le : ∀ {l : List Nat} {m : Nat}, (∀ x ∈ l, x ≤ m) → l.sum ≤ m * l.length
  | [], m, _ => by simp
  | x :: l, m, h => by
    have h1 := h x List.mem_cons_self
    have h2 := sum_le fun y hy => h y (List.mem_cons_of_mem x hy)
    rw [List.sum_cons, List.length_cons, Nat.mul_succ]
    omega
theorem tup_shown {ds : List PyData} {m : Nat} (h : ∀ d ∈ ds, d.shown.length ≤ m) : (PyData.tuple ds).shown.length ≤ m * ds.length + 2 * ds.length + 3 := by
  simp only [PyData.shown]
  rw [shownAll_map]
  have h1 := tupleText_len_le (ds.map PyData.shown)
  have h2 : ((ds.map PyData.shown).map (·.length)).sum ≤ m * ((ds.map PyData.shown).map (·.length)).length := sum_le fun x hx => by
    obtain ⟨y, hy, rfl⟩ := List.mem_map.mp hx
    obtain ⟨d, hd, rfl⟩ := List.mem_map.mp hy
    exact h d hd
  rw [List.length_map, List.length_map] at h2
  rw [List.length_map] at h1
  omega
theorem shown9 : ∀ x ∈ alpha9, (PyData.str x).shown.length ≤ 8 := by
  have h : (alpha9.all fun x => decide ((PyData.str x).shown.length ≤ 8)) = true := by decide +kernel
  exact fun x hx => of_decide_eq_true (List.all_eq_true.mp h x hx)
theorem ordRepr {o : Ord Str} (w : WO o) : (dOrd o).showable = true ∧ (dOrd o).hasDict = false ∧ (dOrd o).shown.length ≤ sizeLine ∧ (dOrd o).depth ≤ 30 := by
  have le := w.le
  have hlen := w.wf.len
  have i3 : ∀ n ∈ o.ss, n = 1 ∨ n = 2 ∨ n = 3 := fun n hn => by
    have := w.wf.lv n hn
    omega
  refine ⟨?_, PyData.hasDict_of_canLay _ (gOrd w).1, ?_, Nat.le_trans (gOrd w).2 (by decide)⟩
  · unfold dOrd dStrs dInts
    simp only [PyData.showable]
    refine showAll fun d hd => ?_
    simp only [List.mem_cons, List.not_mem_nil, or_false] at hd
    rcases hd with rfl | rfl
    · simp only [PyData.showable]
      refine showAll fun d hd => ?_
      obtain ⟨x, hx, rfl⟩ := List.mem_map.mp hd
      simp only [PyData.showable]
    · simp only [PyData.showable]
      refine showAll fun d hd => ?_
      obtain ⟨x, hx, rfl⟩ := List.mem_map.mp hd
      rcases i3 x hx with rfl | rfl | rfl <;> decide +kernel
  · have h1 : (dStrs o.ls).shown.length ≤ 1000 := by
      have q := tup_shown (ds := o.ls.map PyData.str) (m := 8) fun d hd => by
        obtain ⟨x, hx, rfl⟩ := List.mem_map.mp hd
        exact shown9 x (alpha_sub (w.al x hx))
      rw [List.length_map] at q
      unfold dStrs
      omega
    have h2 : (dInts o.ss).shown.length ≤ 1000 := by
      have q := tup_shown (ds := o.ss.map PyData.int) (m := 8) fun d hd => by
        obtain ⟨x, hx, rfl⟩ := List.mem_map.mp hd
        rcases i3 x hx with rfl | rfl | rfl <;> decide +kernel
      rw [List.length_map] at q
      unfold dInts
      omega
    have q := tup_shown (ds := [dStrs o.ls, dInts o.ss]) (m := 1000) fun d hd => by
      simp only [List.mem_cons, List.not_mem_nil, or_false] at hd
      rcases hd with rfl | rfl
      · exact h1
      · exact h2
    refine Nat.le_trans q (small ?_)
    show 1000 * 2 + 2 * 2 + 3 ≤ 100000
    decide
end Fw

set_option maxHeartbeats 4000000
/-! FwE7: what stands while the law runs -/
namespace Fw
open PySem PySem.Spec PySem.W PyProof.Rows L2
theorem nd_ne {l : List Addr} {a b : Addr} (h : l.Nodup) (i j : Nat) (hi : l[i]? = some a) (hj : l[j]? = some b) (q : i ≠ j) : a ≠ b := fun e => by
  obtain ⟨h1, e1⟩ := List.getElem?_eq_some_iff.mp hi
  obtain ⟨h2, e2⟩ := List.getElem?_eq_some_iff.mp hj
  have h3 : l[i] = l[j] := by rw [e1, e2, e]
  exact q ((List.getElem_inj h).mp h3)
theorem nd_new {H : Hp} {l : List Addr} {a : Addr} (h : l.Nodup) (hl : ∀ b ∈ l, H b ≠ none) (ha : H a = none) : (a :: l).Nodup := List.nodup_cons.mpr ⟨fun m => hl a m ha, h⟩
/-- the states of what has been done, one after another -/
def pre (hs : Hs) : List Hs := (List.range (hs.length + 1)).map (hs.take ·)
theorem pre_snoc (hs : Hs) (p : Cmd Str × Ord Str) : pre (hs ++ [p]) = pre hs ++ [hs ++ [p]] := by
  unfold pre
  rw [List.length_append, List.length_singleton, List.range_succ, List.map_append, List.map_singleton]
  congr 1
  · refine List.map_congr_left fun t ht => ?_
    rw [List.take_append_of_le_length (by have := List.mem_range.mp ht; omega)]
  · rw [List.take_of_length_le (by rw [List.length_append, List.length_singleton]; exact Nat.le_refl _)]
def OL (H : Hp) (O : Addr) (i : Ord Str) (hs : Hs) : Prop := ∃ os, H O = some (.lst os) ∧ Paired (OrdA H) os (i :: hs.map (·.2))
def SL (H : Hp) (S : Addr) (i : Ord Str) (hs : Hs) : Prop := ∃ ss, H S = some (.lst ss) ∧ Paired (fun v h => StateA H v i h) ss (pre hs)
def JL (H : Hp) (J : Addr) (hs : Hs) : Prop := ∃ js, H J = some (.lst js) ∧ Paired (CmdA H) js (hs.map (·.1))
section
variable {H H2 : Hp} {O S J : Addr} {i : Ord Str} {hs : Hs}
theorem OL.fr (k : ∀ o, H O = some o → H2 O = some o) (t : TM H H2) (h : OL H O i hs) : OL H2 O i hs := by
  obtain ⟨os, h, p⟩ := h
  exact ⟨os, k _ h, Paired.mapP p fun _ _ q => q.tm t⟩
theorem SL.fr (k : ∀ o, H S = some o → H2 S = some o) (t : TM H H2) (h : SL H S i hs) : SL H2 S i hs := by
  obtain ⟨os, h, p⟩ := h
  exact ⟨os, k _ h, Paired.mapP p fun _ _ q => q.tm t⟩
theorem JL.fr (k : ∀ o, H J = some o → H2 J = some o) (t : TM H H2) (h : JL H J hs) : JL H2 J hs := by
  obtain ⟨os, h, p⟩ := h
  exact ⟨os, k _ h, Paired.mapP p fun _ _ q => q.tm t⟩
theorem WsA.fr {CW w lo lc : Addr} (h : WsA CW H w lo lc i hs) (kw : ∀ C dx fs, H w = some (.ins C dx fs) → H2 w = some (.ins C dx fs)) (k1 : ∀ o, H lo = some o → H2 lo = some o) (k2 : ∀ o, H lc = some o → H2 lc = some o) (t : TM H H2) : WsA CW H2 w lo lc i hs := by
  obtain ⟨dx, os, cs, ha, hb⟩ := h
  exact ⟨dx, os, cs, kw _ _ _ ha, hb.tm t ((k1 _ hb.ho).trans hb.ho.symm) ((k2 _ hb.hc).trans hb.hc.symm)⟩
theorem OL.last (h : OL H O i hs) : ∃ os v, H O = some (.lst os) ∧ os[os.length - 1]? = some v ∧ OrdA H v (cur i hs) := by
  obtain ⟨os, h, p⟩ := h
  have b : WsB (fun a => if a = 0 then some (.lst os) else if a = 1 then some (.lst []) else none) 0 1 i [] [] [] → True := fun _ => trivial
  have q : ∃ v, os[os.length - 1]? = some v ∧ OrdA H v (cur i hs) := by
    refine Paired.at2 p ?_
    have hl := p.length
    rw [hl, List.length_cons, List.length_map]
    unfold cur
    cases e : hs.getLast? with
    | none =>
      rw [List.getLast?_eq_none_iff.mp e]
      rfl
    | some p =>
      rw [List.getLast?_eq_getElem?] at e
      have hp : 0 < hs.length := by
        have := (List.getElem?_eq_some_iff.mp e).1
        omega
      have e2 : hs.length + 1 - 1 = (hs.length - 1) + 1 := by omega
      rw [e2, List.getElem?_cons_succ, List.getElem?_map, e]
      rfl
  obtain ⟨v, q1, q2⟩ := q
  exact ⟨os, v, h, q1, q2⟩
theorem SL.last (h : SL H S i hs) : ∃ ss v, H S = some (.lst ss) ∧ ss[ss.length - 1]? = some v ∧ StateA H v i hs := by
  obtain ⟨ss, h, p⟩ := h
  have q : ∃ v, ss[ss.length - 1]? = some v ∧ StateA H v i hs := by
    refine Paired.at2 p ?_
    have hl := p.length
    unfold pre at hl ⊢
    rw [hl, List.length_map, List.length_range, List.getElem?_map, List.getElem?_range (by omega)]
    show some (hs.take (hs.length + 1 - 1)) = _
    rw [Nat.add_sub_cancel, List.take_length]
  obtain ⟨v, q1, q2⟩ := q
  exact ⟨ss, v, h, q1, q2⟩
end
/-- what stands while commands are drawn -/
structure LA (CW : Addr) (H : Hp) (p s0 : Addr) (xs : List Int) (b : Addr) (v0 : V) (i : Ord Str) (w lo lc O S J : Addr) (hs : Hs) : Prop where
  nd : [J, S, O, lc, lo, b, p, s0].Nodup
  st : StrA H p s0 xs
  hb : H b = some (.lst (letters7.map V.str))
  h0 : OrdA H v0 i
  ws : WsA CW H w lo lc i hs
  oo : OL H O i hs
  sl : SL H S i hs
  jl : JL H J hs
  hh : Hist i hs
  h7 : ∀ o ∈ i :: hs.map (·.2), ∀ x ∈ o.ls, x ∈ letters7
section
variable {CW : Addr} {H H2 : Hp} {p s0 : Addr} {xs : List Int} {b : Addr} {v0 : V} {i : Ord Str} {w lo lc O S J : Addr} {hs : Hs}
theorem LA.same (s : Same H H2) (h : LA CW H p s0 xs b v0 i w lo lc O S J hs) : LA CW H2 p s0 xs b v0 i w lo lc O S J hs :=
  { h with st := h.st.same s, hb := s _ _ h.hb, h0 := h.h0.tm (TM.of s), ws := h.ws.same s, oo := h.oo.fr (fun o e => s _ _ e) (TM.of s), sl := h.sl.fr (fun o e => s _ _ e) (TM.of s), jl := h.jl.fr (fun o e => s _ _ e) (TM.of s) }
theorem StrA.ins {w C dx : Addr} {fs : List (Str × V)} (h : StrA H p s0 xs) (e : H w = some (.ins C dx fs)) : w ≠ p := fun z => by
  obtain ⟨_, _, _, h, _⟩ := h
  rw [z, h] at e
  cases e
theorem LA.next (f : But p H H2) (st : StrA H2 p s0 xs) (h : LA CW H p s0 xs b v0 i w lo lc O S J hs) : LA CW H2 p s0 xs b v0 i w lo lc O S J hs := by
  have t := h.st.tm f
  have ne := fun (n : Nat) (a : Addr) (e : [J, S, O, lc, lo, b, p, s0][n]? = some a) (q : n ≠ 6) => nd_ne h.nd n 6 e rfl q
  exact { h with
    st := st
    hb := f _ _ (ne 5 b rfl (by decide)) h.hb
    h0 := h.h0.tm t
    ws := h.ws.fr (fun C dx fs e => f _ _ (h.st.ins e) e) (fun o e => f _ _ (ne 4 lo rfl (by decide)) e) (fun o e => f _ _ (ne 3 lc rfl (by decide)) e) t
    oo := h.oo.fr (fun o e => f _ _ (ne 2 O rfl (by decide)) e) t
    sl := h.sl.fr (fun o e => f _ _ (ne 1 S rfl (by decide)) e) t
    jl := h.jl.fr (fun o e => f _ _ (ne 0 J rfl (by decide)) e) t }
theorem LA.cur7 (h : LA CW H p s0 xs b v0 i w lo lc O S J hs) : ∀ x ∈ (cur i hs).ls, x ∈ letters7 := by
  unfold cur
  split
  · rename_i q e
    exact h.h7 q.2 (List.mem_cons_of_mem _ (List.mem_map_of_mem (List.mem_of_getLast? e)))
  · exact h.h7 i List.mem_cons_self
end
theorem step7 {i o z : Ord Str} {c : Cmd Str} (hi : ∀ x ∈ i.ls, x ∈ letters7) (ho : ∀ x ∈ o.ls, x ∈ letters7) (w : WF o) (g : CG c) (e : stepX i o c = .inl z) : ∀ x ∈ z.ls, x ∈ letters7 := by
  have led : ∀ rs : List (Rul Str), (∀ r ∈ rs, RG r) → ledX 0 o rs = .inl z → ∀ x ∈ z.ls, x ∈ letters7 := fun rs hr e x hx => by
    obtain ⟨_, _, s2⟩ := ledX_wf rs 0 o z w (fun r q => (hr r q).ok) e
    rcases s2 x hx with q | ⟨r, q, rfl⟩
    · exact ho x q
    · exact (hr r q).mo
  cases c with
  | reset =>
    cases e
    exact hi
  | rule r => exact led [r] (fun r' q => by rw [List.mem_singleton.mp q]; exact g) e
  | rules rs => exact led rs g.2 e
/-- the law's own way leads where the program's leads -/
theorem lstep_eq {i o : Ord Str} {c : Cmd Str} (w : WF o) (g : CO c) : lstepO i o c = (stepX i o c).elim some (fun _ => none) := by
  have led : ∀ rs : List (Rul Str), (∀ r ∈ rs, RO r) → lled o rs = (ledX 0 o rs).elim some (fun _ => none) := fun rs h => by
    rw [lled_eq rs 0 o w fun r hr => (h r hr).ok]
    cases ledX 0 o rs <;> rfl
  cases c with
  | reset => rfl
  | rule r => exact led [r] fun r' q => by rw [List.mem_singleton.mp q]; exact g
  | rules rs => exact led rs g.2
theorem lstep_some {i o z : Ord Str} {c : Cmd Str} (w : WF o) (g : CO c) (e : lstepO i o c = some z) : Step i o c z := by
  rw [lstep_eq w g] at e
  cases q : stepX i o c with
  | inr k => rw [q] at e; cases e
  | inl y =>
    rw [q] at e
    cases e
    refine ⟨g, q, fun r hr => ?_⟩
    subst hr
    have q2 : ledX 0 o [r] = .inl z := q
    by_cases m : r.anc ∈ o.ls
    · exact m
    · rw [ledX_out m] at q2
      cases q2
section
variable {CW : Addr} {H H2 Ha Hc : Hp} {p s0 : Addr} {xs : List Int} {b : Addr} {v0 : V} {i : Ord Str} {w lo lc O S J : Addr} {hs : Hs}
theorem WsA.tm2 {CW : Addr} {H H2 : Hp} {w lo lc : Addr} {hs : Hs} (h : WsA CW H w lo lc i hs) (f : But2 lo lc H H2) : TM H H2 := by
  obtain ⟨dx, os, cs, ha, hb⟩ := h
  exact f.tm hb.ho hb.hc
theorem LA.push {c : Cmd Str} {z : Ord Str} {va u vst : V} {os ss js : List V} (h : LA CW H p s0 xs b v0 i w lo lc O S J hs) (f : But2 lo lc H Ha) (hw : WsA CW Ha w lo lc i (hs ++ [(c, z)])) (s : Step i (cur i hs) c z) (g : CG c)
    (eo : H O = some (.lst os)) (es : H S = some (.lst ss)) (ej : H J = some (.lst js)) (hva : OrdA Ha va z) (hu : CmdA Ha u c) (sc : Same (upd Ha O (.lst (os ++ [va]))) Hc) (hst : StateA Hc vst i (hs ++ [(c, z)])) :
    Ha O = some (.lst os) ∧ Hc S = some (.lst ss) ∧ upd Hc S (.lst (ss ++ [vst])) J = some (.lst js) ∧
      LA CW (upd (upd Hc S (.lst (ss ++ [vst]))) J (.lst (js ++ [u]))) p s0 xs b v0 i w lo lc O S J (hs ++ [(c, z)]) := by
  have nd := h.nd
  have nJS : J ≠ S := nd_ne nd 0 1 rfl rfl (by decide)
  have nJO : J ≠ O := nd_ne nd 0 2 rfl rfl (by decide)
  have nSO : S ≠ O := nd_ne nd 1 2 rfl rfl (by decide)
  have oth : ∀ {q : Addr} {o : HO}, q ≠ lo → q ≠ lc → q ≠ O → q ≠ S → q ≠ J → H q = some o → upd (upd Hc S (.lst (ss ++ [vst]))) J (.lst (js ++ [u])) q = some o := fun {q o} a1 a2 a3 a4 a5 e => by
    rw [upd_ne a5, upd_ne a4]
    exact sc _ _ ((upd_ne a3).trans (f _ _ a1 a2 e))
  have othA : ∀ {q : Addr} {o : HO}, q ≠ O → q ≠ S → q ≠ J → Ha q = some o → upd (upd Hc S (.lst (ss ++ [vst]))) J (.lst (js ++ [u])) q = some o := fun {q o} a3 a4 a5 e => by
    rw [upd_ne a5, upd_ne a4]
    exact sc _ _ ((upd_ne a3).trans e)
  have eoA : Ha O = some (.lst os) := f _ _ (nd_ne nd 2 4 rfl rfl (by decide)) (nd_ne nd 2 3 rfl rfl (by decide)) eo
  have esA : Ha S = some (.lst ss) := f _ _ (nd_ne nd 1 4 rfl rfl (by decide)) (nd_ne nd 1 3 rfl rfl (by decide)) es
  have ejA : Ha J = some (.lst js) := f _ _ (nd_ne nd 0 4 rfl rfl (by decide)) (nd_ne nd 0 3 rfl rfl (by decide)) ej
  have esC : Hc S = some (.lst ss) := sc _ _ ((upd_ne nSO).trans esA)
  have ejC : upd Hc S (.lst (ss ++ [vst])) J = some (.lst js) := (upd_ne nJS).trans (sc _ _ ((upd_ne nJO).trans ejA))
  refine ⟨eoA, esC, ejC, ?_⟩
  have t1 : TM H Ha := h.ws.tm2 f
  have t2 : TM Ha Hc := (TM.lst eoA).trans (TM.of sc)
  have t3 : TM Hc (upd (upd Hc S (.lst (ss ++ [vst]))) J (.lst (js ++ [u]))) := (TM.lst esC).trans (TM.lst ejC)
  have t23 := t2.trans t3
  have t13 := t1.trans t23
  obtain ⟨os', eo', po⟩ := h.oo
  obtain ⟨ss', es', ps⟩ := h.sl
  obtain ⟨js', ej', pj⟩ := h.jl
  rw [eo] at eo'
  cases eo'
  rw [es] at es'
  cases es'
  rw [ej] at ej'
  cases ej'
  obtain ⟨nps, n1, k1, hp, hs0⟩ := h.st
  refine { nd := nd, st := ⟨nps, n1, k1, ?_, ?_⟩, hb := ?_, h0 := h.h0.tm t13, ws := ?_, oo := ⟨os ++ [va], ?_, ?_⟩, sl := ⟨ss ++ [vst], ?_, ?_⟩, jl := ⟨js ++ [u], upd_same, ?_⟩, hh := h.hh.snoc s, h7 := ?_ }
  · exact oth (nd_ne nd 6 4 rfl rfl (by decide)) (nd_ne nd 6 3 rfl rfl (by decide)) (nd_ne nd 6 2 rfl rfl (by decide)) (nd_ne nd 6 1 rfl rfl (by decide)) (nd_ne nd 6 0 rfl rfl (by decide)) hp
  · exact oth (nd_ne nd 7 4 rfl rfl (by decide)) (nd_ne nd 7 3 rfl rfl (by decide)) (nd_ne nd 7 2 rfl rfl (by decide)) (nd_ne nd 7 1 rfl rfl (by decide)) (nd_ne nd 7 0 rfl rfl (by decide)) hs0
  · exact oth (nd_ne nd 5 4 rfl rfl (by decide)) (nd_ne nd 5 3 rfl rfl (by decide)) (nd_ne nd 5 2 rfl rfl (by decide)) (nd_ne nd 5 1 rfl rfl (by decide)) (nd_ne nd 5 0 rfl rfl (by decide)) h.hb
  · refine hw.fr (fun C dx fs e => othA (fun q => ?_) (fun q => ?_) (fun q => ?_) e) (fun o e => othA (nd_ne nd 4 2 rfl rfl (by decide)) (nd_ne nd 4 1 rfl rfl (by decide)) (nd_ne nd 4 0 rfl rfl (by decide)) e) (fun o e => othA (nd_ne nd 3 2 rfl rfl (by decide)) (nd_ne nd 3 1 rfl rfl (by decide)) (nd_ne nd 3 0 rfl rfl (by decide)) e) t23
    · rw [q, eoA] at e; cases e
    · rw [q, esA] at e; cases e
    · rw [q, ejA] at e; cases e
  · rw [upd_ne nJO.symm, upd_ne nSO.symm]
    exact sc _ _ upd_same
  · rw [List.map_append, ← List.cons_append]
    exact Paired.app (Paired.mapP po fun _ _ q => q.tm t13) (.cons (hva.tm t23) .nil)
  · rw [upd_ne nJS.symm, upd_same]
  · rw [pre_snoc]
    exact Paired.app (Paired.mapP ps fun _ _ q => q.tm t13) (.cons (hst.tm t3) .nil)
  · rw [List.map_append]
    exact Paired.app (Paired.mapP pj fun _ _ q => q.tm t13) (.cons (hu.tm t23) .nil)
  · intro o ho
    rw [List.map_append, ← List.cons_append] at ho
    rcases List.mem_append.mp ho with q | q
    · exact h.h7 o q
    · rw [List.mem_singleton.mp q]
      exact step7 (h.h7 i List.mem_cons_self) h.cur7 h.hh.cur.wo.wf g s.st
end
/-! ### with the second workshop: hl what the lists tell, h1 and h2 what the workshops hold -/
structure LM (CW : Addr) (H : Hp) (p s0 : Addr) (xs : List Int) (b : Addr) (v0 : V) (i : Ord Str) (w lo lc O S J w2 lo2 lc2 : Addr) (hl h1 h2 : Hs) : Prop where
  nd : [lc2, lo2, J, S, O, lc, lo, b, p, s0].Nodup
  st : StrA H p s0 xs
  h0 : OrdA H v0 i
  ws : WsA CW H w lo lc i h1
  wt : WsA CW H w2 lo2 lc2 i h2
  oo : OL H O i hl
  sl : SL H S i hl
  jl : JL H J hl
  hh : Hist i hl
  hh1 : Hist i h1
  hh2 : Hist i h2
  h7 : ∀ o ∈ i :: hl.map (·.2), ∀ x ∈ o.ls, x ∈ letters7
section
variable {CW : Addr} {H H2 : Hp} {p s0 : Addr} {xs : List Int} {b : Addr} {v0 : V} {i : Ord Str} {w lo lc O S J w2 lo2 lc2 : Addr} {hl h1 h2 : Hs}
theorem LM.same (s : Same H H2) (h : LM CW H p s0 xs b v0 i w lo lc O S J w2 lo2 lc2 hl h1 h2) : LM CW H2 p s0 xs b v0 i w lo lc O S J w2 lo2 lc2 hl h1 h2 :=
  { h with st := h.st.same s, h0 := h.h0.tm (TM.of s), ws := h.ws.same s, wt := h.wt.same s, oo := h.oo.fr (fun o e => s _ _ e) (TM.of s), sl := h.sl.fr (fun o e => s _ _ e) (TM.of s), jl := h.jl.fr (fun o e => s _ _ e) (TM.of s) }
theorem LM.next (f : But p H H2) (st : StrA H2 p s0 xs) (h : LM CW H p s0 xs b v0 i w lo lc O S J w2 lo2 lc2 hl h1 h2) : LM CW H2 p s0 xs b v0 i w lo lc O S J w2 lo2 lc2 hl h1 h2 := by
  have t := h.st.tm f
  have ne := fun (n : Nat) (a : Addr) (e : [lc2, lo2, J, S, O, lc, lo, b, p, s0][n]? = some a) (q : n ≠ 8) => nd_ne h.nd n 8 e rfl q
  exact { h with
    st := st
    h0 := h.h0.tm t
    ws := h.ws.fr (fun C dx fs e => f _ _ (h.st.ins e) e) (fun o e => f _ _ (ne 6 lo rfl (by decide)) e) (fun o e => f _ _ (ne 5 lc rfl (by decide)) e) t
    wt := h.wt.fr (fun C dx fs e => f _ _ (h.st.ins e) e) (fun o e => f _ _ (ne 1 lo2 rfl (by decide)) e) (fun o e => f _ _ (ne 0 lc2 rfl (by decide)) e) t
    oo := h.oo.fr (fun o e => f _ _ (ne 4 O rfl (by decide)) e) t
    sl := h.sl.fr (fun o e => f _ _ (ne 3 S rfl (by decide)) e) t
    jl := h.jl.fr (fun o e => f _ _ (ne 2 J rfl (by decide)) e) t }
theorem WsA.ins {w3 C dx : Addr} {fs : List (Str × V)} (h : WsA CW H w lo lc i h1) (e : H w3 = some (.ins C dx fs)) : w3 ≠ lo ∧ w3 ≠ lc := by
  obtain ⟨_, os, cs, _, hb⟩ := h
  exact ⟨(fun z => by rw [z, hb.ho] at e; cases e), (fun z => by rw [z, hb.hc] at e; cases e)⟩
theorem LM.one {h1' : Hs} (f : But2 lo lc H H2) (hw : WsA CW H2 w lo lc i h1') (hh' : Hist i h1') (h : LM CW H p s0 xs b v0 i w lo lc O S J w2 lo2 lc2 hl h1 h2) : LM CW H2 p s0 xs b v0 i w lo lc O S J w2 lo2 lc2 hl h1' h2 := by
  have t := h.ws.tm2 f
  have nd := h.nd
  have k := fun (n : Nat) (a : Addr) (e : [lc2, lo2, J, S, O, lc, lo, b, p, s0][n]? = some a) (q : n ≠ 6) (q2 : n ≠ 5) (o : HO) (e2 : H a = some o) => f a o (nd_ne nd n 6 e rfl q) (nd_ne nd n 5 e rfl q2) e2
  obtain ⟨nps, n1, k1, hp, hs0⟩ := h.st
  exact { h with
    st := ⟨nps, n1, k1, k 8 p rfl (by decide) (by decide) _ hp, k 9 s0 rfl (by decide) (by decide) _ hs0⟩
    h0 := h.h0.tm t
    ws := hw
    wt := h.wt.fr (fun C dx fs e => f _ _ (h.ws.ins e).1 (h.ws.ins e).2 e) (k 1 lo2 rfl (by decide) (by decide)) (k 0 lc2 rfl (by decide) (by decide)) t
    oo := h.oo.fr (k 4 O rfl (by decide) (by decide)) t
    sl := h.sl.fr (k 3 S rfl (by decide) (by decide)) t
    jl := h.jl.fr (k 2 J rfl (by decide) (by decide)) t
    hh1 := hh' }
theorem LM.two {h2' : Hs} (f : But2 lo2 lc2 H H2) (hw : WsA CW H2 w2 lo2 lc2 i h2') (hh' : Hist i h2') (h : LM CW H p s0 xs b v0 i w lo lc O S J w2 lo2 lc2 hl h1 h2) : LM CW H2 p s0 xs b v0 i w lo lc O S J w2 lo2 lc2 hl h1 h2' := by
  have t := h.wt.tm2 f
  have nd := h.nd
  have k := fun (n : Nat) (a : Addr) (e : [lc2, lo2, J, S, O, lc, lo, b, p, s0][n]? = some a) (q : n ≠ 1) (q2 : n ≠ 0) (o : HO) (e2 : H a = some o) => f a o (nd_ne nd n 1 e rfl q) (nd_ne nd n 0 e rfl q2) e2
  obtain ⟨nps, n1, k1, hp, hs0⟩ := h.st
  exact { h with
    st := ⟨nps, n1, k1, k 8 p rfl (by decide) (by decide) _ hp, k 9 s0 rfl (by decide) (by decide) _ hs0⟩
    h0 := h.h0.tm t
    wt := hw
    ws := h.ws.fr (fun C dx fs e => f _ _ (h.wt.ins e).1 (h.wt.ins e).2 e) (k 6 lo rfl (by decide) (by decide)) (k 5 lc rfl (by decide) (by decide)) t
    oo := h.oo.fr (k 4 O rfl (by decide) (by decide)) t
    sl := h.sl.fr (k 3 S rfl (by decide) (by decide)) t
    jl := h.jl.fr (k 2 J rfl (by decide) (by decide)) t
    hh2 := hh' }
theorem LM.cur7 (h : LM CW H p s0 xs b v0 i w lo lc O S J w2 lo2 lc2 hl h1 h2) : ∀ x ∈ (cur i hl).ls, x ∈ letters7 := by
  unfold cur
  split
  · rename_i q e
    exact h.h7 q.2 (List.mem_cons_of_mem _ (List.mem_map_of_mem (List.mem_of_getLast? e)))
  · exact h.h7 i List.mem_cons_self
/-- the three lists give their last away -/
theorem LM.pops {c : Cmd Str} {z : Ord Str} (h : LM CW H p s0 xs b v0 i w lo lc O S J w2 lo2 lc2 (hl ++ [(c, z)]) h1 h2) : ∃ js os ss u y1 y2, H J = some (.lst js) ∧ js[js.length - 1]? = some u ∧ CmdA H u c ∧ H O = some (.lst os) ∧ os[os.length - 1]? = some y1 ∧ H S = some (.lst ss) ∧ ss[ss.length - 1]? = some y2 ∧ js ≠ [] ∧
    J ≠ O ∧ J ≠ S ∧ O ≠ S ∧ TM H (upd (upd (upd H J (.lst js.dropLast)) O (.lst os.dropLast)) S (.lst ss.dropLast)) ∧ LM CW (upd (upd (upd H J (.lst js.dropLast)) O (.lst os.dropLast)) S (.lst ss.dropLast)) p s0 xs b v0 i w lo lc O S J w2 lo2 lc2 hl h1 h2 := by
  have nd := h.nd
  obtain ⟨os, eo, po⟩ := h.oo
  obtain ⟨ss, es, ps⟩ := h.sl
  obtain ⟨js, ej, pj⟩ := h.jl
  rw [List.map_append, List.map_cons, List.map_nil, ← List.cons_append] at po
  rw [List.map_append, List.map_cons, List.map_nil] at pj
  rw [pre_snoc] at ps
  obtain ⟨po1, y1, po2, po3⟩ := Paired.drop po
  obtain ⟨ps1, y2, ps2, ps3⟩ := Paired.drop ps
  obtain ⟨pj1, u, pj2, pj3⟩ := Paired.drop pj
  have nJS : J ≠ S := nd_ne nd 2 3 rfl rfl (by decide)
  have nJO : J ≠ O := nd_ne nd 2 4 rfl rfl (by decide)
  have nSO : S ≠ O := nd_ne nd 3 4 rfl rfl (by decide)
  have oth : ∀ {q : Addr} {o : HO}, q ≠ J → q ≠ O → q ≠ S → H q = some o → upd (upd (upd H J (.lst js.dropLast)) O (.lst os.dropLast)) S (.lst ss.dropLast) q = some o := fun {q o} a1 a2 a3 e => by
    rw [upd_ne a3, upd_ne a2, upd_ne a1]
    exact e
  have t : TM H (upd (upd (upd H J (.lst js.dropLast)) O (.lst os.dropLast)) S (.lst ss.dropLast)) := fun q o ys e => oth (fun z => by rw [z, ej] at e; cases e) (fun z => by rw [z, eo] at e; cases e) (fun z => by rw [z, es] at e; cases e) e
  have k := fun (n : Nat) (a : Addr) (e : [lc2, lo2, J, S, O, lc, lo, b, p, s0][n]? = some a) (q1 : n ≠ 2) (q2 : n ≠ 4) (q3 : n ≠ 3) (o : HO) (e2 : H a = some o) => oth (nd_ne nd n 2 e rfl q1) (nd_ne nd n 4 e rfl q2) (nd_ne nd n 3 e rfl q3) e2
  have kw : ∀ {q C dx : Addr} {fs : List (Str × V)}, H q = some (.ins C dx fs) → upd (upd (upd H J (.lst js.dropLast)) O (.lst os.dropLast)) S (.lst ss.dropLast) q = some (.ins C dx fs) := fun {q C dx fs} e => oth (fun z => by rw [z, ej] at e; cases e) (fun z => by rw [z, eo] at e; cases e) (fun z => by rw [z, es] at e; cases e) e
  have hne : js ≠ [] := fun z => by
    rw [z] at pj2
    simp at pj2
  have hh' : Hist i hl := by
    have q := h.hh.take hl.length
    rw [List.take_left] at q
    exact q
  obtain ⟨nps, n1, k1, hp, hs0⟩ := h.st
  refine ⟨js, os, ss, u, y1, y2, ej, pj2, pj3, eo, po2, es, ps2, hne, nJO, nJS, nSO.symm, t, ?_⟩
  exact {
    nd := nd
    st := ⟨nps, n1, k1, k 8 p rfl (by decide) (by decide) (by decide) _ hp, k 9 s0 rfl (by decide) (by decide) (by decide) _ hs0⟩
    h0 := h.h0.tm t
    ws := h.ws.fr (fun C dx fs e => kw e) (k 6 lo rfl (by decide) (by decide) (by decide)) (k 5 lc rfl (by decide) (by decide) (by decide)) t
    wt := h.wt.fr (fun C dx fs e => kw e) (k 1 lo2 rfl (by decide) (by decide) (by decide)) (k 0 lc2 rfl (by decide) (by decide) (by decide)) t
    oo := ⟨os.dropLast, (upd_ne nSO.symm).trans upd_same, Paired.mapP po1 fun _ _ q => q.tm t⟩
    sl := ⟨ss.dropLast, upd_same, Paired.mapP ps1 fun _ _ q => q.tm t⟩
    jl := ⟨js.dropLast, (upd_ne nJS).trans ((upd_ne nJO).trans upd_same), Paired.mapP pj1 fun _ _ q => q.tm t⟩
    hh := hh'
    hh1 := h.hh1
    hh2 := h.hh2
    h7 := fun o ho => h.h7 o (by
      rcases List.mem_cons.mp ho with q | q
      · rw [q]; exact List.mem_cons_self
      · rw [List.map_append]
        exact List.mem_cons_of_mem _ (List.mem_append_left _ q)) }
end
/-! ### the last commands: three workshops -/
structure LE (CW : Addr) (H : Hp) (i : Ord Str) (w lo lc w2 lo2 lc2 w3 lo3 lc3 O J ql qr : Addr) (r : Rul Str) (hs h1 h2 h3 : Hs) : Prop where
  nd : [ql, lc3, lo3, lc2, lo2, J, O, lc, lo].Nodup
  a1 : WsA CW H w lo lc i h1
  a2 : WsA CW H w2 lo2 lc2 i h2
  a3 : WsA CW H w3 lo3 lc3 i h3
  oo : OL H O i hs
  jl : JL H J hs
  hq : H ql = some (.lst [.ref w, .ref w2, .ref w3])
  rr : RulA H (.ref qr) r
section
variable {CW : Addr} {H H2 : Hp} {i : Ord Str} {w lo lc w2 lo2 lc2 w3 lo3 lc3 O J ql qr : Addr} {r : Rul Str} {hs h1 h2 h3 h1' h2' h3' : Hs}
theorem LE.same (s : Same H H2) (h : LE CW H i w lo lc w2 lo2 lc2 w3 lo3 lc3 O J ql qr r hs h1 h2 h3) : LE CW H2 i w lo lc w2 lo2 lc2 w3 lo3 lc3 O J ql qr r hs h1 h2 h3 :=
  ⟨h.nd, h.a1.same s, h.a2.same s, h.a3.same s, h.oo.fr (fun o e => s _ _ e) (TM.of s), h.jl.fr (fun o e => s _ _ e) (TM.of s), s _ _ h.hq, h.rr.tm (TM.of s)⟩
theorem LE.one (f : But2 lo lc H H2) (hw : WsA CW H2 w lo lc i h1') (h : LE CW H i w lo lc w2 lo2 lc2 w3 lo3 lc3 O J ql qr r hs h1 h2 h3) : LE CW H2 i w lo lc w2 lo2 lc2 w3 lo3 lc3 O J ql qr r hs h1' h2 h3 := by
  have t := h.a1.tm2 f
  have k := fun (n : Nat) (a : Addr) (e : [ql, lc3, lo3, lc2, lo2, J, O, lc, lo][n]? = some a) (q : n ≠ 8) (q2 : n ≠ 7) (o : HO) (e2 : H a = some o) => f a o (nd_ne h.nd n 8 e rfl q) (nd_ne h.nd n 7 e rfl q2) e2
  exact ⟨h.nd, hw, h.a2.fr (fun C dx fs e => f _ _ (h.a1.ins e).1 (h.a1.ins e).2 e) (k 4 lo2 rfl (by decide) (by decide)) (k 3 lc2 rfl (by decide) (by decide)) t, h.a3.fr (fun C dx fs e => f _ _ (h.a1.ins e).1 (h.a1.ins e).2 e) (k 2 lo3 rfl (by decide) (by decide)) (k 1 lc3 rfl (by decide) (by decide)) t,
    h.oo.fr (k 6 O rfl (by decide) (by decide)) t, h.jl.fr (k 5 J rfl (by decide) (by decide)) t, k 0 ql rfl (by decide) (by decide) _ h.hq, h.rr.tm t⟩
theorem LE.two (f : But2 lo2 lc2 H H2) (hw : WsA CW H2 w2 lo2 lc2 i h2') (h : LE CW H i w lo lc w2 lo2 lc2 w3 lo3 lc3 O J ql qr r hs h1 h2 h3) : LE CW H2 i w lo lc w2 lo2 lc2 w3 lo3 lc3 O J ql qr r hs h1 h2' h3 := by
  have t := h.a2.tm2 f
  have k := fun (n : Nat) (a : Addr) (e : [ql, lc3, lo3, lc2, lo2, J, O, lc, lo][n]? = some a) (q : n ≠ 4) (q2 : n ≠ 3) (o : HO) (e2 : H a = some o) => f a o (nd_ne h.nd n 4 e rfl q) (nd_ne h.nd n 3 e rfl q2) e2
  exact ⟨h.nd, h.a1.fr (fun C dx fs e => f _ _ (h.a2.ins e).1 (h.a2.ins e).2 e) (k 8 lo rfl (by decide) (by decide)) (k 7 lc rfl (by decide) (by decide)) t, hw, h.a3.fr (fun C dx fs e => f _ _ (h.a2.ins e).1 (h.a2.ins e).2 e) (k 2 lo3 rfl (by decide) (by decide)) (k 1 lc3 rfl (by decide) (by decide)) t,
    h.oo.fr (k 6 O rfl (by decide) (by decide)) t, h.jl.fr (k 5 J rfl (by decide) (by decide)) t, k 0 ql rfl (by decide) (by decide) _ h.hq, h.rr.tm t⟩
theorem LE.three (f : But2 lo3 lc3 H H2) (hw : WsA CW H2 w3 lo3 lc3 i h3') (h : LE CW H i w lo lc w2 lo2 lc2 w3 lo3 lc3 O J ql qr r hs h1 h2 h3) : LE CW H2 i w lo lc w2 lo2 lc2 w3 lo3 lc3 O J ql qr r hs h1 h2 h3' := by
  have t := h.a3.tm2 f
  have k := fun (n : Nat) (a : Addr) (e : [ql, lc3, lo3, lc2, lo2, J, O, lc, lo][n]? = some a) (q : n ≠ 2) (q2 : n ≠ 1) (o : HO) (e2 : H a = some o) => f a o (nd_ne h.nd n 2 e rfl q) (nd_ne h.nd n 1 e rfl q2) e2
  exact ⟨h.nd, h.a1.fr (fun C dx fs e => f _ _ (h.a3.ins e).1 (h.a3.ins e).2 e) (k 8 lo rfl (by decide) (by decide)) (k 7 lc rfl (by decide) (by decide)) t, h.a2.fr (fun C dx fs e => f _ _ (h.a3.ins e).1 (h.a3.ins e).2 e) (k 4 lo2 rfl (by decide) (by decide)) (k 3 lc2 rfl (by decide) (by decide)) t, hw,
    h.oo.fr (k 6 O rfl (by decide) (by decide)) t, h.jl.fr (k 5 J rfl (by decide) (by decide)) t, k 0 ql rfl (by decide) (by decide) _ h.hq, h.rr.tm t⟩
/-- a list that is none of theirs is written -/
theorem LE.put {D : Addr} {ys zs : List V} (hD : H D = some (.lst ys)) (nD : D ∉ [ql, lc3, lo3, lc2, lo2, J, O, lc, lo]) (h : LE CW H i w lo lc w2 lo2 lc2 w3 lo3 lc3 O J ql qr r hs h1 h2 h3) : LE CW (upd H D (.lst zs)) i w lo lc w2 lo2 lc2 w3 lo3 lc3 O J ql qr r hs h1 h2 h3 := by
  have t : TM H (upd H D (.lst zs)) := TM.lst hD
  have k := fun (n : Nat) (a : Addr) (e : [ql, lc3, lo3, lc2, lo2, J, O, lc, lo][n]? = some a) (o : HO) (e2 : H a = some o) => (upd_ne (H := H) (o := .lst zs) fun z : a = D => nD (z ▸ List.mem_of_getElem? e)).trans e2
  have kw : ∀ {q C dx : Addr} {fs : List (Str × V)}, H q = some (.ins C dx fs) → upd H D (.lst zs) q = some (.ins C dx fs) := fun {q C dx fs} e => (upd_ne fun z => by rw [z, hD] at e; cases e).trans e
  exact ⟨h.nd, h.a1.fr (fun C dx fs e => kw e) (k 8 lo rfl) (k 7 lc rfl) t, h.a2.fr (fun C dx fs e => kw e) (k 4 lo2 rfl) (k 3 lc2 rfl) t, h.a3.fr (fun C dx fs e => kw e) (k 2 lo3 rfl) (k 1 lc3 rfl) t, h.oo.fr (k 6 O rfl) t, h.jl.fr (k 5 J rfl) t, k 0 ql rfl _ h.hq, h.rr.tm t⟩
theorem LE.some (h : LE CW H i w lo lc w2 lo2 lc2 w3 lo3 lc3 O J ql qr r hs h1 h2 h3) : ∀ q ∈ [ql, lc3, lo3, lc2, lo2, J, O, lc, lo], H q ≠ none := fun q hq z => by
  obtain ⟨_, _, _, _, b1⟩ := h.a1
  obtain ⟨_, _, _, _, b2⟩ := h.a2
  obtain ⟨_, _, _, _, b3⟩ := h.a3
  obtain ⟨_, eo, _⟩ := h.oo
  obtain ⟨_, ej, _⟩ := h.jl
  have eq := h.hq
  simp only [List.mem_cons, List.not_mem_nil, or_false] at hq
  rcases hq with rfl | rfl | rfl | rfl | rfl | rfl | rfl | rfl | rfl
  · rw [eq] at z; cases z
  · rw [b3.hc] at z; cases z
  · rw [b3.ho] at z; cases z
  · rw [b2.hc] at z; cases z
  · rw [b2.ho] at z; cases z
  · rw [ej] at z; cases z
  · rw [eo] at z; cases z
  · rw [b1.hc] at z; cases z
  · rw [b1.ho] at z; cases z
end
/-- a comprehension over a list whose turns may change what stood -/
theorem lcL {K : PySem.W.Frag} {al : Addr} {ys : List V} {H1 : Hp} {g : TG} {te : TE} {vs : List Nat} {σ : L2.St} {Qd : Addr → Hp → Prop} (hn : ys.length ≤ 5000) (Iv : Addr → Nat → List V → Hp → Prop) (h0 : ∀ D, H1 D = none → Iv D 0 [] (upd H1 D (.lst [])))
    (hl : ∀ D i acc H, Iv D i acc H → SqL K H al ys)
    (turn : ∀ D i x acc H (Kt : V → Hp → Prop), H1 D = none → ys[i]? = some x → H D = some (.lst acc) → Iv D i acc H → (∀ y H4, H4 D = some (.lst acc) → Iv D (i + 1) (acc ++ [y]) (upd H4 D (.lst (acc ++ [y]))) → Kt y H4) → g x (wipe σ vs) H fun σ2 H2 => wipe σ2 vs = wipe σ vs ∧ te σ2 H2 Kt)
    (done : ∀ D acc H, H1 D = none → acc.length = ys.length → H D = some (.lst acc) → Iv D ys.length acc H → Qd D H) :
    ∀ D, H1 D = none → ∃ W : Nat → Nat → Hp → Prop, (∃ m, W 0 m (upd H1 D (.lst []))) ∧ ∀ i m H, W i m H →
      ((Itl K al).stop i H ∧ Qd D H) ∨ ((Itl K al).go i H ∧ ∃ Nx : Hp → Prop, (∀ H2, Nx H2 → ∃ m', m' < m ∧ W (i + 1) m' H2) ∧ ∀ x H2, (Itl K al).yld i H x H2 → g x (wipe σ vs) H2 fun σ2 H2 => wipe σ2 vs = wipe σ vs ∧ tYes σ2 H2 fun b H3 =>
        if b = true then te σ2 H3 fun y H4 => ∃ acc, H4 D = some (.lst acc) ∧ acc.length < sizeLine ∧ Nx (upd H4 D (.lst (acc ++ [y]))) else Nx H3) := by
  intro D hD
  refine ⟨fun i m H => m = ys.length - i ∧ i ≤ ys.length ∧ ∃ acc, acc.length = i ∧ H D = some (.lst acc) ∧ Iv D i acc H, ⟨ys.length, rfl, Nat.zero_le _, [], rfl, upd_same, h0 D hD⟩, ?_⟩
  rintro i m H ⟨rfl, hi, acc, ha, hd, iv⟩
  have q := hl D i acc H iv
  by_cases hlt : i < ys.length
  · refine .inr ⟨⟨ys, ys[i], q, List.getElem?_eq_getElem hlt⟩, fun H2 => ∃ acc, acc.length = i + 1 ∧ H2 D = some (.lst acc) ∧ Iv D (i + 1) acc H2, fun H2 q => ⟨ys.length - (i + 1), by omega, rfl, hlt, q⟩, fun x H2 y => ?_⟩
    obtain ⟨rfl, y⟩ := y
    exact turn D i x acc _ (fun y H4 => ∃ acc, H4 D = some (.lst acc) ∧ acc.length < sizeLine ∧ _) hD (y ys q) hd iv fun y H4 e q => ⟨acc, e, small' (by omega), _, by rw [List.length_append, List.length_singleton, ha], upd_same, q⟩
  · have e : i = ys.length := by omega
    subst e
    exact .inl ⟨⟨ys, q, Nat.le_refl _⟩, done D acc H hD ha hd iv⟩
end Fw

set_option maxHeartbeats 8000000
set_option pp.maxSteps 600
/-! FwE8: the law -/
namespace Fw
open PySem PySem.Spec PySem.W PyProof.Rows L2
theorem ne_f {d : PyData} (h : SeqAt.shaped d = true) : V.bl (!PyData.eqv d d) = V.bl false := by
  rw [eqv_same h]
  rfl
theorem eq_t {d : PyData} (h : SeqAt.shaped d = true) : V.bl (PyData.eqv d d) = V.bl true := by rw [eqv_same h]
theorem zz_no {o : Ord Str} {r : Rul Str} (w : WF o) (h : ∀ x ∈ o.ls, x ∈ letters7) (hr : r.mov = "y") : ("zz" : Str) ∉ (put o r).ls := fun m => by
  rcases (put_mem w).mp m with q | q
  · exact absurd (h _ q) (by decide +kernel)
  · rw [hr] at q
    exact absurd q (by decide +kernel)
theorem y_al : ("y" : Str) ∈ alpha := by decide +kernel
theorem y_no {x : Str} (h : x ∈ letters7) : x ≠ "y" := fun e => by
  rw [e] at h
  exact absurd h (by decide +kernel)
/-- what an undo gives: the last command, or None -/
def Due (H : Hp) (v : V) (hs hl : Hs) : Prop := (hs = [] ∧ hl = [] ∧ v = .non) ∨ ∃ c z, hs = hl ++ [(c, z)] ∧ CmdA H v c
theorem Due.tm {H H2 : Hp} {v : V} {hs hl : Hs} (t : TM H H2) (h : Due H v hs hl) : Due H2 v hs hl := by
  rcases h with h | ⟨c, z, e, h⟩
  · exact .inl h
  · exact .inr ⟨c, z, e, h.tm t⟩
theorem wsU_of {CW a lo lc : Addr} {H : Hp} {i : Ord Str} {hs : Hs} {Q : VK} {E : XK} (hw : WsA CW H a lo lc i hs) (h : ∀ v H2 hl, But2 lo lc H H2 → WsA CW H2 a lo lc i hl → Due H2 v hs hl → Q v H2) : spWsU CW [.ref a] H Q E :=
  ⟨a, lo, lc, i, hs, rfl, hw, fun e => h .non H [] (But2.of (Same.refl _)) (e ▸ hw) (.inl ⟨e, rfl, rfl⟩), fun hl c z e v H2 b2 hv hw2 => h v H2 hl b2 hw2 (.inr ⟨c, z, e, hv⟩)⟩
theorem Due.data {K : PySem.W.Frag} {H : Hp} {u v : V} {hs hl hl2 : Hs} (h : Due H u hs hl) (h2 : Due H v hs hl2) (co : ∀ p ∈ hs, CO p.1) : hl2 = hl ∧ ∃ d, Dp K H v d ∧ Dp K H u d ∧ SeqAt.shaped d = true := by
  rcases h with ⟨e, e1, rfl⟩ | ⟨c, z, e, h⟩
  · rcases h2 with ⟨_, e2, rfl⟩ | ⟨c2, z2, e2, _⟩
    · exact ⟨by rw [e1, e2], .none, .non, .non, by decide +kernel⟩
    · rw [e] at e2
      simp at e2
  · rcases h2 with ⟨e2, _, _⟩ | ⟨c2, z2, e2, h2⟩
    · rw [e] at e2
      simp at e2
    · rw [e] at e2
      obtain ⟨q1, q2⟩ := List.append_inj' e2 rfl
      cases q2
      exact ⟨q1.symm, dCmd c, h2.dp, h.dp, (gCmd (co (c, z) (by rw [e]; exact List.mem_append_right _ List.mem_cons_self))).sh (by decide)⟩
section
variable {P : Program} {w : World} {K : PySem.W.Frag} {mg : Str → Option Value} {base : Heap} {CP CW CN SD : Addr}
abbrev N_law : List Str := ["_law_script", "_law_stream_here", "_law_letters", "_law_initial", "_law_shown", "_law_workshop", "_law_orders", "_law_states", "_law_journal", "_law_turn", "_law_other", "_law_wrong", "_law_rule_here", "_law_told_here", "_law_command_here", "_law_after", "_law_due", "_law_one"]
theorem sc_law : FnScope N_law ["_law_script"] (defScope s_law) := ⟨rfl, rfl, rfl, by decide +kernel, rfl, by decide +kernel, by decide +kernel⟩
-- slots: 0 _law_script, 1 _law_stream_here, 2 _law_letters, 3 _law_initial, 4 _law_shown, 5 _law_workshop, 6 _law_orders, 7 _law_states, 8 _law_journal, 9 _law_turn, 10 _law_other, 11 _law_wrong, 12 _law_rule_here, 13 _law_told_here, 14 _law_command_here, 15 _law_after, 16 _law_due, 17 _law_one
theorem law_body (T : Txt K mg CP CW CN SD) {f : Addr} {cdv : Value} {A : Around} {outer : List Env} {s : Shared} {H : Hp} (hA0 : A.guards = some []) (hr : Room 10 (A.deeper (envOfC "law" (defScope s_law) s.heap.objs.size f cdv)))
    (a : Addr) (xs : List Int) (hs : SqL K H a (iV xs)) {Q : VK} (k : ∀ H2, Q (.bl true) H2) :
    ∃ t, PSs (cxOf CX0 P w K mg base N_law "law" (defScope s_law) f cdv A outer s H (fun _ _ _ => False)).nox (defBody s_law) t ∧ t { nx := fun _ H2 => Q .non H2, rt := Q } (start N_law [.ref a]) H := by
  have hA : (A.deeper (envOfC "law" (defScope s_law) s.heap.objs.size f cdv)).guards = some [] := hA0
  refine ⟨_, (pss_cons (ps_set (i := 1) sc_law.nd rfl (Or.inl rfl) (pe_g (k_Lstream T) (hr.mono (by decide)) pass0 (pa_cons (pv 0) pa_nil)))
      (pss_cons (ps_set (i := 2) sc_law.nd rfl (Or.inl rfl) (pe_lst (pa_cons pe_str (pa_cons pe_str (pa_cons pe_str (pa_cons pe_str (pa_cons pe_str (pa_cons pe_str (pa_cons pe_str pa_nil)))))))))
      (pss_cons (ps_set (i := 3) sc_law.nd rfl (Or.inl rfl) (pe_g (k_Lorder T) (hr.mono (by decide)) pass0 (pa_cons (pv 1) (pa_cons (pv 2) (pa_cons (pe_op op_add pe_int (pe_g (k_Lnext T) (hr.mono (by decide)) pass0 (pa_cons (pv 1) (pa_cons pe_int pa_nil)))) pa_nil)))))
      (pss_cons (ps_set (i := 4) sc_law.nd rfl (Or.inl rfl) (pe_callB (cr_repr hA hr.units) rfl T.b_repr (by decide +kernel) (pa_cons (pv 3) pa_nil)))
      (pss_cons (ps_set (i := 5) sc_law.nd rfl (Or.inl rfl) (pe_ig (k_Workshop_init T) (hr.mono (by decide)) T.g_Workshop pass0 (pa_cons (pv 3) pa_nil)))
      (pss_cons (ps_set (i := 6) sc_law.nd rfl (Or.inl rfl) (pe_lst (pa_cons (pv 3) pa_nil)))
      (pss_cons (ps_set (i := 7) sc_law.nd rfl (Or.inl rfl) (pe_lst (pa_cons (pe_g (k_Lstate T) (hr.mono (by decide)) pass0 (pa_cons (pv 5) pa_nil)) pa_nil)))
      (pss_cons (ps_set (i := 8) sc_law.nd rfl (Or.inl rfl) (pe_lst pa_nil))
      (pss_cons (ps_for PassesOwn.never rfl (pi_range1 rfl T.b_range (pa_cons (pe_g (k_Lnext T) (hr.mono (by decide)) pass0 (pa_cons (pv 1) (pa_cons pe_int pa_nil))) pa_nil)) (pg_name (i := 9) sc_law.nd rfl (Or.inl rfl))
      (pss_cons (ps_set (i := 14) sc_law.nd rfl (Or.inl rfl) (pe_g (k_Lcommand T) (hr.mono (by decide)) pass0 (pa_cons (pv 1) (pa_cons (pe_ix ix_list (pv 6) (pe_un un_neg pe_int) (fun _ _ => rfl)) (pa_cons (pv 2) pa_nil)))))
      (pss_cons (ps_set (i := 15) sc_law.nd rfl (Or.inl rfl) (pe_g (k_Lbehind T) (hr.mono (by decide)) pass0 (pa_cons (pv 3) (pa_cons (pe_ix ix_list (pv 6) (pe_un un_neg pe_int) (fun _ _ => rfl)) (pa_cons (pv 14) pa_nil)))))
      (pss_one (ps_if (pt_cmpR op_notN (pv 15) pe_non (nomark _)) (pss_cons (ps_expr (pe_mg (k_Workshop_do T) T.cl_Workshop (hr.mono (by decide)) passL (pv 5) (pa_cons (pv 14) pa_nil)))
      (pss_cons (ps_expr (pe_bm PySem.F.plainAttrs_list PySem.F.slot_list_append PySem.F.type_list_append mt_append (pv 6) (pa_cons (pv 15) pa_nil)))
      (pss_cons (ps_expr (pe_bm PySem.F.plainAttrs_list PySem.F.slot_list_append PySem.F.type_list_append mt_append (pv 7) (pa_cons (pe_g (k_Lstate T) (hr.mono (by decide)) pass0 (pa_cons (pv 5) pa_nil)) pa_nil)))
      (pss_one (ps_expr (pe_bm PySem.F.plainAttrs_list PySem.F.slot_list_append PySem.F.type_list_append mt_append (pv 8) (pa_cons (pv 14) pa_nil))))))) pss_nil)))))
      (pss_cons (ps_set (i := 10) sc_law.nd rfl (Or.inl rfl) (pe_g (k_replayed T) (hr.mono (by decide)) passL (pa_cons (pv 3) (pa_cons (pe_callTy call_tupS rfl T.b_tuple (by decide +kernel) (pa_cons (pv 8) pa_nil)) pa_nil))))
      (pss_cons (ps_if (PW.pt (pw_or (pt_cmpR (op_neD hr.units) (pe_mg0 (k_Workshop_current T) T.cl_Workshop (hr.mono (by decide)) pass0 (pv 10)) (pe_ix ix_list (pv 6) (pe_un un_neg pe_int) (fun _ _ => rfl)) (nomark _)) (pw_or (pt_cmpR (op_neD hr.units) (pe_mg0 (k_Workshop_initial T) T.cl_Workshop (hr.mono (by decide)) pass0 (pv 10)) (pv 3) (nomark _)) (pw_or1 (pt_cmpR (op_neD hr.units) (pe_mg0 (k_Workshop_journal T) T.cl_Workshop (hr.mono (by decide)) pass0 (pv 10)) (pe_callTy call_tupS rfl T.b_tuple (by decide +kernel) (pa_cons (pv 8) pa_nil)) (nomark _)))))) (pss_one (ps_ret pe_bl)) pss_nil)
      (pss_cons (ps_if (PW.pt (pw_or (pt_cmpR (op_neD hr.units) (pe_mg0 (k_Workshop_records T) T.cl_Workshop (hr.mono (by decide)) pass0 (pv 10)) (pe_mg0 (k_Workshop_records T) T.cl_Workshop (hr.mono (by decide)) pass0 (pv 5)) (nomark _)) (pw_or1 (pt_cmpR op_ne (pe_callB (cr_repr hA hr.units) rfl T.b_repr (by decide +kernel) (pa_cons (pv 3) pa_nil)) (pv 4) (nomark _))))) (pss_one (ps_ret pe_bl)) pss_nil)
      (pss_cons (ps_set (i := 11) sc_law.nd rfl (Or.inl rfl) (pe_tupS (pa_cons pe_str (pa_cons (pe_tupS (pa_cons (pe_tupS (pa_cons pe_str (pa_cons (pe_ix ix_tup (pe_ix ix_tup (pe_ix ix_list (pv 6) (pe_un un_neg pe_int) (fun _ _ => rfl)) pe_int (fun _ _ => rfl)) pe_int (fun _ _ => rfl)) (pa_cons pe_int (pa_cons pe_str pa_nil))))) (pa_cons (pe_tupS (pa_cons pe_str (pa_cons pe_str (pa_cons pe_int (pa_cons pe_str pa_nil))))) pa_nil))) pa_nil))))
      (pss_cons (ps_if (pt_cmpR (op_neD hr.units) (pe_g (k_Lreplayed T) (hr.mono (by decide)) pass0 (pa_cons (pv 3) (pa_cons (pe_op op_catS (pe_callTy call_tupS rfl T.b_tuple (by decide +kernel) (pa_cons (pv 8) pa_nil)) (pe_tupS (pa_cons (pv 11) pa_nil))) pa_nil))) (pe_tupS (pa_cons pe_int (pa_cons pe_str pa_nil))) (nomark _)) (pss_one (ps_ret pe_bl)) pss_nil)
      (pss_cons (ps_for PassesOwn.never rfl (pi_range1 rfl T.b_range (pa_cons (pe_g (k_Lnext T) (hr.mono (by decide)) pass0 (pa_cons (pv 1) (pa_cons pe_int pa_nil))) pa_nil)) (pg_name (i := 9) sc_law.nd rfl (Or.inl rfl))
      (pss_cons (ps_set (i := 16) sc_law.nd rfl (Or.inl rfl) pe_non)
      (Evl.pss_cut (ps_if (pt_truth (pv 8) (by intro _; rfl)) (pss_cons (ps_set (i := 16) sc_law.nd rfl (Or.inl rfl) (pe_bm0 PySem.F.plainAttrs_list PySem.F.slot_list_pop PySem.F.type_list_pop mt_pop (pv 8)))
      (pss_cons (ps_expr (pe_bm0 PySem.F.plainAttrs_list PySem.F.slot_list_pop PySem.F.type_list_pop mt_pop (pv 6)))
      (pss_one (ps_expr (pe_bm0 PySem.F.plainAttrs_list PySem.F.slot_list_pop PySem.F.type_list_pop mt_pop (pv 7)))))) pss_nil)
      (pss_cons (ps_if (PW.pt (pw_or (pt_cmpR (op_neD hr.units) (pe_mg0 (k_Workshop_undo T) T.cl_Workshop (hr.mono (by decide)) pass0 (pv 5)) (pv 16) (nomark _)) (pw_or (pt_cmpR (op_neD hr.units) (pe_mg0 (k_Workshop_current T) T.cl_Workshop (hr.mono (by decide)) pass0 (pv 5)) (pe_ix ix_list (pv 6) (pe_un un_neg pe_int) (fun _ _ => rfl)) (nomark _)) (pw_or1 (pt_cmpR (op_neD hr.units) (pe_mg0 (k_Workshop_journal T) T.cl_Workshop (hr.mono (by decide)) pass0 (pv 5)) (pe_callTy call_tupS rfl T.b_tuple (by decide +kernel) (pa_cons (pv 8) pa_nil)) (nomark _)))))) (pss_one (ps_ret pe_bl)) pss_nil)
      (pss_one (ps_if (PW.pt (pw_or (pt_cmpR (op_neD hr.units) (pe_mg0 (k_Workshop_undo T) T.cl_Workshop (hr.mono (by decide)) pass0 (pv 10)) (pv 16) (nomark _)) (pw_or (pt_cmpR (op_neD hr.units) (pe_g (k_Lstate T) (hr.mono (by decide)) pass0 (pa_cons (pv 5) pa_nil)) (pe_ix ix_list (pv 7) (pe_un un_neg pe_int) (fun _ _ => rfl)) (nomark _)) (pw_or1 (pt_cmpR (op_neD hr.units) (pe_g (k_Lstate T) (hr.mono (by decide)) pass0 (pa_cons (pv 10) pa_nil)) (pe_ix ix_list (pv 7) (pe_un un_neg pe_int) (fun _ _ => rfl)) (nomark _)))))) (pss_one (ps_ret pe_bl)) pss_nil))))))
      (pss_cons (ps_set (i := 12) sc_law.nd rfl (Or.inr rfl) (pe_tupS (pa_cons pe_str (pa_cons (pe_ix ix_tup (pe_ix ix_tup (pe_ix ix_list (pv 6) (pe_un un_neg pe_int) (fun _ _ => rfl)) pe_int (fun _ _ => rfl)) pe_int (fun _ _ => rfl)) (pa_cons pe_int (pa_cons pe_str pa_nil))))))
      (pss_cons (ps_setLc (i := 13) (own := [("_law_one", 17)]) rfl sc_law.nd rfl rfl (sw_true rfl rfl rfl (by decide +kernel)) (pi_list (pe_lst (pa_cons (pv 5) (pa_cons (pv 10) (pa_cons (pe_g (k_replayed T) (hr.mono (by decide)) passL (pa_cons (pv 3) (pa_cons (pe_callTy call_tupS rfl T.b_tuple (by decide +kernel) (pa_cons (pv 8) pa_nil)) pa_nil))) pa_nil))))) (blkOk_by (own := [("_law_one", 17)]) (N := N_law) (sc := defScope s_law) (by decide +kernel)) (fun _ _ _ _ _ => (pg_name (i := 17) sc_law.nd rfl (Or.inl rfl))) (fun _ _ _ _ _ => pts_nil) (fun _ _ _ _ _ => (pe_mg (k_Workshop_do T) T.cl_Workshop (hr.mono (by decide)) passL (pv 17) (pa_cons (pe_tupS (pa_cons pe_str (pa_cons (pv 12) pa_nil))) pa_nil))))
      (pss_cons (ps_if (PW.pt (pw_or (pt_cmpR op_ne (pe_ix ix_list (pv 13) pe_int (fun _ _ => rfl)) (pe_ix ix_list (pv 13) pe_int (fun _ _ => rfl)) (nomark _)) (pw_or (pt_cmpR op_ne (pe_ix ix_list (pv 13) pe_int (fun _ _ => rfl)) (pe_ix ix_list (pv 13) pe_int (fun _ _ => rfl)) (nomark _)) (pw_or1 (pt_cmpR (op_neD hr.units) (pe_mg0 (k_Workshop_current T) T.cl_Workshop (hr.mono (by decide)) pass0 (pv 5)) (pe_g (k_Lled T) (hr.mono (by decide)) pass0 (pa_cons (pe_ix ix_list (pv 6) (pe_un un_neg pe_int) (fun _ _ => rfl)) (pa_cons (pe_tupS (pa_cons (pv 12) pa_nil)) pa_nil))) (nomark _)))))) (pss_one (ps_ret pe_bl)) pss_nil)
      (pss_one (ps_ret (pe_and (pe_cmpR (op_eqD hr.units) (pe_mg0 (k_Workshop_journal T) T.cl_Workshop (hr.mono (by decide)) pass0 (pv 5)) (pe_op op_catS (pe_callTy call_tupS rfl T.b_tuple (by decide +kernel) (pa_cons (pv 8) pa_nil)) (pe_tupS (pa_cons (pe_tupS (pa_cons pe_str (pa_cons (pv 12) pa_nil))) pa_nil))) (nomark _)) (pe_one (pe_cmpR (op_eqD hr.units) (pe_g (k_Lstate T) (hr.mono (by decide)) pass0 (pa_cons (pv 10) pa_nil)) (pe_g (k_Lstate T) (hr.mono (by decide)) pass0 (pa_cons (pv 5) pa_nil)) (nomark _)))))))))))))))))))))))), ?_⟩
  refine ⟨_, rfl, a, xs, rfl, hs, fun p s0 H1 s1 hp hs0 st1 => ?_⟩
  refine ⟨(by show 7 ≤ sizeLine; decide), fun b hb => ?_⟩
  have hb2 : upd H1 b (.lst (letters7.map V.str)) b = some (.lst (letters7.map V.str)) := upd_same
  have st2 : StrA (upd H1 b (.lst (letters7.map V.str))) p s0 xs := st1.same (Same.new hb)
  have e2 : upd H1 b (.lst [.str "a", .str "b", .str "c", .str "d", .str "e", .str "f", .str "g"]) = upd H1 b (.lst (letters7.map V.str)) := rfl
  have nbp : b ≠ p := fun z => by
    obtain ⟨_, _, _, h, _⟩ := st1
    rw [z, h] at hb
    cases hb
  have nbs : b ≠ s0 := fun z => by
    obtain ⟨_, _, _, _, h⟩ := st1
    rw [z, h] at hb
    cases hb
  rw [e2]
  generalize upd H1 b (.lst (letters7.map V.str)) = H2 at hb2 st2 ⊢
  -- the initial order
  refine ⟨_, rfl, _, rfl, _, rfl, p, s0, xs, 5, rfl, st2, by decide, by decide, fun r H3 hr0 hr1 b3 st3 => ?_⟩
  have hb3 := b3 _ _ nbp hb2
  refine ⟨_, _, rfl, rfl, p, s0, b, xs, 2 + r, rfl, st3, hb3, nbp, by omega, by omega, fun v0 i H4 b4 st4 h4 wf hne hl7 hi7 => ?_⟩
  have hb4 := b4 _ _ nbp hb3
  have wo : WO i := ⟨wf, fun x hx => l7_alpha (hi7 x hx)⟩
  have h0h : Hist i [] := ⟨wo, hne, (fun q hq => by cases hq), (fun t c z e => by simp at e)⟩
  -- repr
  obtain ⟨r1, r2, r3, r4⟩ := ordRepr wo
  have h4' := h4
  obtain ⟨a0, a1, a2, rfl, ha0, ha1, ha2⟩ := h4'
  refine ⟨_, rfl, a0, dOrd i, rfl, h4.dp, r1, r2, r3, r4, ?_⟩
  -- the workshop, the lists
  refine ⟨_, rfl, fun x dx hx hdx hne2 => ⟨x, dx, .ref a0, i, rfl, upd_same, h4.tm (made_tm hx hdx), wo, fun lo lc H5 b5 hlo hlc hw => ⟨rfl, ?_⟩⟩⟩
  have s5 := made_same hx hdx b5
  have fr : ∀ {q : Addr}, upd (upd H4 dx (.own x)) x (.ins CW dx []) q = none → H4 q = none := fun {q} e => by
    have nb : q ≠ x := fun z => by rw [z, upd_same] at e; cases e
    rw [upd_ne nb] at e
    have nd : q ≠ dx := fun z => by rw [z, upd_same] at e; cases e
    rw [upd_ne nd] at e
    exact e
  have flo := fr hlo
  have flc := fr hlc
  have hw' := hw
  obtain ⟨dx5, os5, cs5, hx5, hb5⟩ := hw'
  refine ⟨_, rfl, (by show 1 ≤ sizeLine; decide), fun O hO => ?_⟩
  have s6 : Same H5 (upd H5 O (.lst [.ref a0])) := Same.new hO
  have hO6 : upd H5 O (.lst [.ref a0]) O = some (.lst [.ref a0]) := upd_same
  generalize upd H5 O (.lst [.ref a0]) = H6 at s6 hO6 ⊢
  refine ⟨_, rfl, x, lo, lc, i, [], rfl, hw.same s6, h0h, by decide, fun vs0 H7 s7 hst7 => ⟨(by show 1 ≤ sizeLine; decide), fun S hS => ?_⟩⟩
  have s8 : Same H7 (upd H7 S (.lst [vs0])) := Same.new hS
  have hS8 : upd H7 S (.lst [vs0]) S = some (.lst [vs0]) := upd_same
  generalize upd H7 S (.lst [vs0]) = H8 at s8 hS8 ⊢
  refine ⟨(by show 0 ≤ sizeLine; decide), fun J hJ => ?_⟩
  have s9 : Same H8 (upd H8 J (.lst [])) := Same.new hJ
  have hJ9 : upd H8 J (.lst []) J = some (.lst []) := upd_same
  generalize upd H8 J (.lst []) = H9 at s9 hJ9 ⊢
  have s59 : Same H5 H9 := ((s6.trans s7).trans s8).trans s9
  have s49 : Same H4 H9 := s5.trans s59
  obtain ⟨nps, n4, k4, hp4, hs4⟩ := st4
  have nd0 : [p, s0].Nodup := by
    refine nd_new (H := fun q => if q = s0 then some (.lst []) else none) (by simp) (fun q hq => ?_) ?_
    · rw [List.mem_singleton.mp hq]
      simp
    · rw [if_neg nps]
  have nd1 : [b, p, s0].Nodup := by
    simp only [List.nodup_cons, List.mem_cons, List.not_mem_nil, or_false, not_or, not_false_eq_true, List.nodup_nil, and_true]
    exact ⟨⟨nbp, nbs⟩, nps⟩
  have some4 : ∀ q ∈ [b, p, s0], H4 q ≠ none := fun q hq => by
    simp only [List.mem_cons, List.not_mem_nil, or_false] at hq
    rcases hq with rfl | rfl | rfl
    · rw [hb4]; exact fun z => by cases z
    · rw [hp4]; exact fun z => by cases z
    · rw [hs4]; exact fun z => by cases z
  have nd2 := nd_new nd1 some4 flo
  have nd3 : [lc, lo, b, p, s0].Nodup := List.nodup_cons.mpr ⟨fun m => by
    rcases List.mem_cons.mp m with e | e
    · exact hb5.ne e.symm
    · exact some4 _ e flc, nd2⟩
  have keepN : ∀ {q : Addr} {G1 G2 : Hp}, Same G1 G2 → G1 q ≠ none → G2 q ≠ none := fun {q G1 G2} s h z => h (same_non s z)
  have some5 : ∀ q ∈ [lc, lo, b, p, s0], H5 q ≠ none := fun q hq => by
    rcases List.mem_cons.mp hq with rfl | hq
    · rw [hb5.hc]; exact fun z => by cases z
    rcases List.mem_cons.mp hq with rfl | hq
    · rw [hb5.ho]; exact fun z => by cases z
    exact keepN s5 (some4 q hq)
  have nd4 := nd_new nd3 some5 hO
  have some7 : ∀ q ∈ [O, lc, lo, b, p, s0], H7 q ≠ none := fun q hq => by
    rcases List.mem_cons.mp hq with rfl | hq
    · refine keepN s7 ?_
      rw [hO6]
      exact fun z => by cases z
    exact keepN (s6.trans s7) (some5 q hq)
  have nd5 := nd_new nd4 some7 hS
  have some8 : ∀ q ∈ [S, O, lc, lo, b, p, s0], H8 q ≠ none := fun q hq => by
    rcases List.mem_cons.mp hq with rfl | hq
    · rw [hS8]
      exact fun z => by cases z
    exact keepN s8 (some7 q hq)
  have nd6 := nd_new nd5 some8 hJ
  have la9 : LA CW H9 p s0 xs b (.ref a0) i x lo lc O S J [] :=
    { nd := nd6
      st := ⟨nps, n4, k4, s49 _ _ hp4, s49 _ _ hs4⟩
      hb := s49 _ _ hb4
      h0 := h4.tm (TM.of s49)
      ws := hw.same s59
      oo := ⟨_, ((s7.trans s8).trans s9) _ _ hO6, .cons (h4.tm (TM.of s49)) .nil⟩
      sl := ⟨_, s9 _ _ hS8, .cons (hst7.tm (TM.of (s8.trans s9))) .nil⟩
      jl := ⟨_, hJ9, .nil⟩
      hh := h0h
      h7 := fun o ho => by
        rw [List.mem_singleton.mp ho]
        exact hi7 }
  clear s59 s49 some4 some5 some7 some8 nd2 nd3 nd4 nd5 nd6 nd1 nd0 keepN hJ9 s9 hS8 s8 hO6 s6 s7 hst7 fr flo flc hlo hlc hx5 hb5 s5 b5 hw hx hdx hne2 hO hS hJ
  refine ⟨_, rfl, p, s0, xs, 9, rfl, la9.st, by decide, by decide, fun r9 H10 hr9 hr9' b10 st10 => ⟨_, rfl, by omega, by omega, ?_⟩⟩
  have la10 := la9.next b10 st10
  have hshown : ∃ sh : Str, sh = (dOrd i).shown := ⟨_, rfl⟩
  obtain ⟨sh, hsh⟩ := hshown
  rw [← hsh]
  refine for_range (fun t σ G => ∃ hs w9 w14 w15, hs.length ≤ t ∧ LA CW G p s0 xs b (.ref a0) i x lo lc O S J hs ∧ σ = [some (.ref a), some (.ref p), some (.ref b), some (.ref a0), some (.str sh), some (.ref x), some (.ref O), some (.ref S), some (.ref J), w9, none, none, none, none, w14, w15, none, none]) ⟨[], none, none, none, Nat.le_refl _, la10, rfl⟩ ?_ ?_
  · rintro t σ G ht ⟨hs, w9, w14, w15, hhl, la, rfl⟩
    have htl : t < 9 := by omega
    obtain ⟨os, vl, eo, el, hvl⟩ := la.oo.last
    have nbp2 : b ≠ p := nd_ne la.nd 5 6 rfl rfl (by decide)
    refine ⟨_, rfl, _, rfl, 1, rfl, O, _, _, _, rfl, rfl, SqL.of eo, at_last el, _, rfl, p, s0, b, vl, xs, rfl, la.st, la.hb, nbp2, fun u c G2 b2 st2 hu g => ?_⟩
    have la2 := la.next b2 st2
    have t2 := la.st.tm b2
    have eo2 : G2 O = some (.lst os) := b2 _ _ (nd_ne la.nd 2 6 rfl rfl (by decide)) eo
    have cw := la2.hh.cur.wo
    refine ⟨_, rfl, _, rfl, 1, rfl, O, _, _, _, rfl, rfl, SqL.of eo2, at_last el, _, rfl, .ref a0, vl, u, i, cur i hs, c, rfl, la2.h0, hvl.tm t2, hu, g.co, cw, fun z hz va G3 s3 hva => ?_, fun hn G3 s3 => ?_⟩
    · have st := lstep_some cw.wf g.co hz
      have la3 := la2.same s3
      obtain ⟨av, bv, cv, rfl, hva'⟩ := hva
      have hva : OrdA G3 (.ref av) z := ⟨av, bv, cv, rfl, hva'⟩
      have hu3 := hu.tm (TM.of s3)
      refine ⟨_, rfl, rfl, true, congrArg V.bl (by rw [decide_eq_false (fun z => by cases z)]; rfl), iteT ?_⟩
      have hws := la3.ws
      obtain ⟨dx3, os3, cs3, hx3, _⟩ := hws
      refine ⟨_, rfl, x, dx3, _, rfl, hx3, wsF_n (by decide +kernel) (by decide +kernel), _, rfl, x, lo, lc, i, hs, u, c, rfl, la3.ws, la3.hh, by omega, hu3, g.co, st.fit, fun z2 hz2 G4 b4 hw4 => ?_, fun k2 hk2 => ?_⟩
      · rw [st.st] at hz2
        cases hz2
        have t4 := la3.ws.tm2 b4
        have eo3 : G3 O = some (.lst os) := s3 _ _ eo2
        obtain ⟨ss, es3, _⟩ := la3.sl
        obtain ⟨js, ej3, pj3⟩ := la3.jl
        have eo4 : G4 O = some (.lst os) := b4 _ _ (nd_ne la.nd 2 4 rfl rfl (by decide)) (nd_ne la.nd 2 3 rfl rfl (by decide)) eo3
        have es4 : G4 S = some (.lst ss) := b4 _ _ (nd_ne la.nd 1 4 rfl rfl (by decide)) (nd_ne la.nd 1 3 rfl rfl (by decide)) es3
        have hol : os.length = hs.length + 1 := by
          obtain ⟨os', e', po⟩ := la3.oo
          rw [eo3] at e'
          cases e'
          rw [po.length, List.length_cons, List.length_map]
        have hsl : ss.length = hs.length + 1 := by
          obtain ⟨ss', e', ps⟩ := la3.sl
          rw [es3] at e'
          cases e'
          rw [ps.length]
          unfold pre
          rw [List.length_map, List.length_range]
        have hjl : js.length = hs.length := by rw [pj3.length, List.length_map]
        refine ⟨_, rfl, .inl ⟨rfl, _, SqL.of eo4⟩, _, rfl, O, os, _, rfl, rfl, eo4, small' (by omega), ?_⟩
        have es5 : upd G4 O (.lst (os ++ [.ref av])) S = some (.lst ss) := (upd_ne (nd_ne la.nd 1 2 rfl rfl (by decide))).trans es4
        have t5 : TM G4 (upd G4 O (.lst (os ++ [.ref av]))) := TM.lst eo4
        have hw5 : WsA CW (upd G4 O (.lst (os ++ [.ref av]))) x lo lc i (hs ++ [(c, z)]) := hw4.fr (fun C dx fs e => (upd_ne fun q => by rw [q, eo4] at e; cases e).trans e) (fun o e => (upd_ne (nd_ne la.nd 4 2 rfl rfl (by decide))).trans e) (fun o e => (upd_ne (nd_ne la.nd 3 2 rfl rfl (by decide))).trans e) t5
        refine ⟨_, rfl, .inl ⟨rfl, _, SqL.of es5⟩, _, rfl, x, lo, lc, i, _, rfl, hw5, la3.hh.snoc st, by rw [List.length_append, List.length_singleton]; omega, fun vst G6 s6 hst => ?_⟩
        obtain ⟨_, es6, ej7, la7⟩ := la3.push b4 hw4 st g eo3 es3 ej3 (hva.tm t4) (hu3.tm t4) s6 hst
        refine ⟨S, ss, _, rfl, rfl, es6, small' (by omega), ?_⟩
        refine ⟨_, rfl, .inl ⟨rfl, _, SqL.of ej7⟩, _, rfl, J, js, _, rfl, rfl, ej7, small' (by omega), ?_⟩
        exact ⟨_, _, _, _, by rw [List.length_append, List.length_singleton]; omega, la7, rfl⟩
      · rw [st.st] at hk2
        cases hk2
    · refine ⟨_, rfl, rfl, false, congrArg V.bl (by rw [decide_eq_true rfl]; rfl), iteF ?_⟩
      exact ⟨hs, _, _, _, by omega, la2.same s3, rfl⟩
  · rintro σ G ⟨hs, w9, w14, w15, hhl, la, rfl⟩
    have hh8 : hs.length ≤ 8 := by omega
    clear hhl
    obtain ⟨js, ej, pj⟩ := la.jl
    refine ⟨_, rfl, _, rfl, J, js, rfl, SqL.of ej, fun tj G2 s2 htj => ?_⟩
    have cosH : ∀ c ∈ hs.map (·.1), CO c := fun c hc => by
      obtain ⟨q, hq, rfl⟩ := List.mem_map.mp hc
      exact la.hh.cos q hq
    refine ⟨.ref a0, .ref tj, i, hs, hs.map (·.1), rfl, la.h0.tm (TM.of s2), ⟨tj, js, rfl, htj, Paired.mapP pj fun _ _ q => q.tm (TM.of s2)⟩, cosH, by rw [List.length_map]; omega, la.hh, .inl ⟨rfl, fun x2 lo2 lc2 G3 s3 fx2 flo2 flc2 hw2 => ?_⟩⟩
    have s03 := s2.trans s3
    have la3 := la.same s03
    have hw2' := hw2
    obtain ⟨dx2, os2, cs2, hx2, hb2⟩ := hw2'
    have hws := la3.ws
    obtain ⟨dx1, os1, cs1, hx1, hb1⟩ := hws
    have someG : ∀ q ∈ [J, S, O, lc, lo, b, p, s0], G2 q ≠ none := fun q hq z => by
      have z2 := same_non s2 z
      obtain ⟨_, _, _, hp, hs0⟩ := la.st
      obtain ⟨_, _, _, _, hb1'⟩ := la.ws
      obtain ⟨_, e1, _⟩ := la.oo
      obtain ⟨_, e2, _⟩ := la.sl
      simp only [List.mem_cons, List.not_mem_nil, or_false] at hq
      rcases hq with rfl | rfl | rfl | rfl | rfl | rfl | rfl | rfl
      · rw [ej] at z2; cases z2
      · rw [e2] at z2; cases z2
      · rw [e1] at z2; cases z2
      · rw [hb1'.hc] at z2; cases z2
      · rw [hb1'.ho] at z2; cases z2
      · rw [la.hb] at z2; cases z2
      · rw [hp] at z2; cases z2
      · rw [hs0] at z2; cases z2
    have ndA := nd_new la.nd someG flo2
    have ndB : [lc2, lo2, J, S, O, lc, lo, b, p, s0].Nodup := List.nodup_cons.mpr ⟨fun m => by
      rcases List.mem_cons.mp m with e | e
      · exact hb2.ne e.symm
      · exact someG _ e flc2, ndA⟩
    have lm : LM CW G3 p s0 xs b (.ref a0) i x lo lc O S J x2 lo2 lc2 hs hs hs :=
      { nd := ndB, st := la3.st, h0 := la3.h0, ws := la3.ws, wt := hw2, oo := la3.oo, sl := la3.sl, jl := la3.jl, hh := la3.hh, hh1 := la3.hh, hh2 := la3.hh, h7 := la3.h7 }
    clear someG ndA ndB la la3 ej pj htj cosH s2 s3 s03 fx2 flo2 flc2 hb1 hb2
    -- the same orders, the same journal
    obtain ⟨os, vl, eo, el, hvl⟩ := lm.oo.last
    have gcur := (gOrd lm.hh.cur.wo).sh (by decide)
    have gini := (gOrd wo).sh (by decide)
    have gjou := (gJour lm.hh).sh (by decide)
    have grec := (gRecs lm.hh).sh (by decide)
    refine ⟨_, rfl, x2, dx2, _, rfl, hx2, wsF_n (by decide +kernel) (by decide +kernel), x2, lo2, lc2, i, hs, rfl, hw2, fun v hv => ?_⟩
    refine ⟨_, rfl, 1, rfl, O, os, _, vl, rfl, rfl, SqL.of eo, at_last el, dOrd (cur i hs), dOrd (cur i hs), hv.dp, hvl.dp, gcur, gcur, false, ne_f gcur, iteF ?_⟩
    refine ⟨_, rfl, x2, dx2, _, rfl, hx2, wsF_n (by decide +kernel) (by decide +kernel), x2, lo2, lc2, i, hs, rfl, hw2, fun v2 hv2 => ?_⟩
    refine ⟨_, rfl, dOrd i, dOrd i, hv2.dp, lm.h0.dp, gini, gini, false, ne_f gini, iteF ?_⟩
    refine ⟨_, rfl, x2, dx2, _, rfl, hx2, wsF_n (by decide +kernel) (by decide +kernel), x2, lo2, lc2, i, hs, rfl, hw2, fun v3 G4 s4 hv3 => ?_⟩
    have lm4 := lm.same s4
    obtain ⟨js, ej, pj⟩ := lm4.jl
    refine ⟨_, rfl, J, js, rfl, SqL.of ej, fun t5 G5 s5 h5 => ?_⟩
    refine ⟨dCmds (hs.map (·.1)), dCmds (hs.map (·.1)), (hv3.tm (TM.of s5)).dp, CmdsA.dp ⟨t5, js, rfl, h5, Paired.mapP pj fun _ _ q => q.tm (TM.of s5)⟩, gjou, gjou, false, ne_f gjou, iteF ?_⟩
    have lm5 := lm4.same s5
    have s35 := s4.trans s5
    -- the same records, the same text
    refine ⟨_, rfl, x2, dx2, _, rfl, s35 _ _ hx2, wsF_n (by decide +kernel) (by decide +kernel), x2, lo2, lc2, i, hs, rfl, lm5.wt, lm5.hh, by omega, fun v6 G6 s6 hv6 => ?_⟩
    have lm6 := lm5.same s6
    have s36 := s35.trans s6
    refine ⟨_, rfl, x, dx1, _, rfl, s36 _ _ hx1, wsF_n (by decide +kernel) (by decide +kernel), x, lo, lc, i, hs, rfl, lm6.ws, lm6.hh, by omega, fun v7 G7 s7 hv7 => ?_⟩
    refine ⟨dRecs i hs, dRecs i hs, (hv6.tm (TM.of s7)).dp, hv7.dp, grec, grec, false, ne_f grec, iteF ?_⟩
    have lm7 := lm6.same s7
    have s37 := s36.trans s7
    refine ⟨_, rfl, a0, dOrd i, rfl, lm7.h0.dp, r1, r2, r3, r4, _, rfl, rfl, false, congrArg V.bl (by rw [hsh, decide_eq_true rfl]; rfl), iteF ?_⟩
    -- a journal that cannot be done
    have c7 := lm7.cur7
    have wc := lm7.hh.cur.wo
    obtain ⟨y0, hy0⟩ : ∃ y0, (cur i hs).ls[0]? = some y0 := by
      cases e : i.ls with
      | nil => exact absurd e hne
      | cons q l =>
        have hq : q ∈ (cur i hs).ls := lm7.hh.cur.sub q (by rw [e]; exact List.mem_cons_self)
        exact ⟨_, List.getElem?_eq_getElem (List.length_pos_of_mem hq)⟩
    have hym : y0 ∈ (cur i hs).ls := List.mem_of_getElem? hy0
    have hy7 := c7 _ hym
    have eo7 : G7 O = some (.lst os) := s37 _ _ eo
    obtain ⟨av, bv, cv, rfl, hva, hvb, hvc⟩ := hvl.tm (TM.of s37)
    refine ⟨_, rfl, 1, rfl, O, os, _, _, rfl, rfl, SqL.of eo7, at_last el, av, _, 0, _, rfl, rfl, hva.sq, atI_nat (j := 0) rfl, bv, _, 0, _, rfl, rfl, hvb.sq, atI_nat (j := 0) (tget hy0), ?_⟩
    refine ⟨(by show 4 ≤ 1000; decide), fun q1 G8 s8 hq1 => ⟨(by show 4 ≤ 1000; decide), fun q2 G9 s9 hq2 => ⟨(by show 2 ≤ 1000; decide), fun q3 Ga sa hq3 => ⟨(by show 2 ≤ 1000; decide), fun q4 Gb sb hq4 => ?_⟩⟩⟩⟩
    have s7b := ((s8.trans s9).trans sa).trans sb
    have lmb := lm7.same s7b
    obtain ⟨js, ej, pj⟩ := lmb.jl
    refine ⟨_, rfl, _, rfl, J, js, rfl, SqL.of ej, fun t1 Gc sc ht1 => ⟨_, rfl, (by show 1 ≤ 1000; decide), fun t2 Gd sd' ht2 => ?_⟩⟩
    have hjl : js.length = hs.length := by rw [pj.length, List.length_map]
    refine ⟨t1, t2, _, _, rfl, rfl, ht1.same sd', ht2, by show js.length + 1 ≤ 1000; omega, fun t3 Ge se ht3 => ?_⟩
    have sbe := (sc.trans sd').trans se
    have s7e := s7b.trans sbe
    have ro1 : RO ⟨true, y0, 1, "y"⟩ := ⟨⟨y_no hy7, by show (1 : Int) ≤ 1; decide, by show (1 : Int) ≤ 3; decide⟩, alpha_sub (l7_alpha hy7), y_al⟩
    have ro2 : RO ⟨false, "zz", 2, "y"⟩ := ⟨⟨by decide +kernel, by decide, by decide⟩, by decide +kernel, by decide +kernel⟩
    have hcw : CO (.rules [⟨true, y0, 1, "y"⟩, ⟨false, "zz", 2, "y"⟩]) := ⟨(by show 2 ≤ 3; decide), fun r hr => by
      simp only [List.mem_cons, List.not_mem_nil, or_false] at hr
      rcases hr with rfl | rfl
      · exact ro1
      · exact ro2⟩
    have hxw : stepX i (cur i hs) (.rules [⟨true, y0, 1, "y"⟩, ⟨false, "zz", 2, "y"⟩]) = .inr 1 := by
      show ledX 0 (cur i hs) [⟨true, y0, 1, "y"⟩, ⟨false, "zz", 2, "y"⟩] = .inr 1
      rw [ledX_step hym, ledX_out (zz_no wc.wf c7 rfl)]
    have lme := lmb.same sbe
    refine ⟨.ref a0, .ref t3, i, hs, .rules [⟨true, y0, 1, "y"⟩, ⟨false, "zz", 2, "y"⟩], 1, rfl, lme.h0, ⟨t3, _, rfl, ht3, Paired.app (Paired.mapP pj fun _ _ q => q.tm (TM.of sbe)) (.cons ⟨q4, .ref q3, rfl, hq4.same sbe, q3, _, rfl, hq3.same (sb.trans sbe), .cons ⟨q1, rfl, hq1.same (((s9.trans sa).trans sb).trans sbe)⟩ (.cons ⟨q2, rfl, hq2.same ((sa.trans sb).trans sbe)⟩ .nil)⟩ .nil)⟩, fun d hd => ?_, by rw [List.length_append, List.length_map, List.length_singleton]; omega, lme.hh, (fun r hr => by cases hr), hxw, fun qr Gf sf hqr => ?_⟩
    · rcases List.mem_append.mp hd with q | q
      · obtain ⟨q', hq', rfl⟩ := List.mem_map.mp q
        exact lme.hh.cos q' hq'
      · rw [List.mem_singleton.mp q]
        exact hcw
    refine ⟨(by show 2 ≤ 1000; decide), fun qs Gg sg hqs => ?_⟩
    have gtwo : SeqAt.shaped (.tuple [.int 1, .str "anchor"]) = true := by decide +kernel
    refine ⟨.tuple [.int 1, .str "anchor"], .tuple [.int 1, .str "anchor"], .tup (hqr.same sg).sq (.cons (.int _) (.cons (.str _) .nil)), .tup hqs.sq (.cons (.int _) (.cons (.str _) .nil)), gtwo, gtwo, false, ne_f gtwo, iteF ?_⟩
    have lmg := (lme.same sf).same sg
    have s7g := (s7e.trans sf).trans sg
    have s3g := s37.trans s7g
    have hx1g := s3g _ _ hx1
    have hx2g := s3g _ _ hx2
    -- undo
    refine ⟨_, rfl, p, s0, xs, 10, rfl, lmg.st, by decide, by decide, fun r10 H10 hra hrb b10 st10 => ⟨_, rfl, by omega, by omega, ?_⟩⟩
    have lmh := lmg.next b10 st10
    have hx1h : H10 x = _ := b10 _ _ (lmg.st.ins hx1g) hx1g
    have hx2h : H10 x2 = _ := b10 _ _ (lmg.st.ins hx2g) hx2g
    refine for_range (fun t σ G => ∃ hs w9 w16, hs.length ≤ 8 ∧ LM CW G p s0 xs b (.ref a0) i x lo lc O S J x2 lo2 lc2 hs hs hs ∧ σ = [some (.ref a), some (.ref p), some (.ref b), some (.ref a0), some (.str sh), some (.ref x), some (.ref O), some (.ref S), some (.ref J), w9, some (.ref x2), some (.ref q4), none, none, w14, w15, w16, none]) ⟨hs, _, _, hh8, lmh, rfl⟩ ?_ ?_
    · clear lmh lmg lme lmb lm7 lm6 lm5 lm4 lm hx1h hx2h hx1g hx2g b10 st10 s3g s7g s7e sbe s7b s37 s36 s35 hqs hqr ht1 ht2 ht3 hq1 hq2 hq3 hq4 pj ej hv hv2 hv3 hv6 hv7 hw2 hx1 hx2 hvl eo el eo7 hva hvb hvc h5 sf sg sc sd' se s8 s9 sa sb s4 s5 s6 s7 hxw hcw ro1 ro2 c7 wc hym hy7 hy0 gtwo gcur gjou grec
      rintro t σ G ht ⟨hs, w9, w16, hh8, lm, rfl⟩
      refine ⟨fun σ G2 => ∃ hl dv, hl.length ≤ 8 ∧ LM CW G2 p s0 xs b (.ref a0) i x lo lc O S J x2 lo2 lc2 hl hs hs ∧ Due G2 dv hs hl ∧ σ = [some (.ref a), some (.ref p), some (.ref b), some (.ref a0), some (.str sh), some (.ref x), some (.ref O), some (.ref S), some (.ref J), some (.int (0 + (t : Nat))), some (.ref x2), some (.ref q4), none, none, w14, w15, some dv, none], ?_, ?_⟩
      · rcases List.eq_nil_or_concat hs with e | ⟨hl, pz, e⟩
        · obtain ⟨js, ej, pj⟩ := lm.jl
          have ejs : js = [] := List.length_eq_zero_iff.mp (by rw [pj.length, List.length_map, e]; rfl)
          refine ⟨_, rfl, false, .inl ⟨_, SqL.of ej, by rw [ejs]; rfl⟩, iteF ?_⟩
          exact ⟨hs, .non, hh8, lm, .inl ⟨e, e, rfl⟩, rfl⟩
        · rw [List.concat_eq_append] at e
          have lm' := lm
          rw [e] at lm'
          have lmx : LM CW G p s0 xs b (.ref a0) i x lo lc O S J x2 lo2 lc2 (hl ++ [(pz.1, pz.2)]) hs hs := { lm with oo := lm'.oo, sl := lm'.sl, jl := lm'.jl, hh := lm'.hh, h7 := lm'.h7 }
          obtain ⟨js, os, ss, u, y1, y2, ej, pj2, pj3, eo, po2, es, ps2, hne2, nJO, nJS, nOS, tm, lmp⟩ := lmx.pops
          refine ⟨_, rfl, true, .inl ⟨_, SqL.of ej, by rw [List.isEmpty_eq_false_iff.mpr hne2]; rfl⟩, iteT ?_⟩
          refine ⟨_, rfl, .inl ⟨rfl, _, SqL.of ej⟩, J, js, u, rfl, rfl, ej, pj2, ?_⟩
          have eo2 : upd G J (.lst js.dropLast) O = some (.lst os) := (upd_ne nJO.symm).trans eo
          refine ⟨_, rfl, .inl ⟨rfl, _, SqL.of eo2⟩, O, os, y1, rfl, rfl, eo2, po2, ?_⟩
          have es2 : upd (upd G J (.lst js.dropLast)) O (.lst os.dropLast) S = some (.lst ss) := (upd_ne nOS.symm).trans ((upd_ne nJS.symm).trans es)
          refine ⟨_, rfl, .inl ⟨rfl, _, SqL.of es2⟩, S, ss, y2, rfl, rfl, es2, ps2, ?_⟩
          refine ⟨hl, u, ?_, lmp, .inr ⟨pz.1, pz.2, e, pj3.tm tm⟩, rfl⟩
          rw [e, List.length_append] at hh8
          omega
      · rintro σ G2 ⟨hl, dv, hl8, lm2, due, rfl⟩
        have cos1 := lm2.hh1.cos
        have ws2 := lm2.ws
        obtain ⟨dx1, _, _, hx1, _⟩ := ws2
        have wt2 := lm2.wt
        obtain ⟨dx2, _, _, hx2, _⟩ := wt2
        have gcur := (gOrd lm2.hh.cur.wo).sh (by decide)
        have gjou := (gJour lm2.hh).sh (by decide)
        have gsta := (gState lm2.hh).sh (by decide)
        refine ⟨_, rfl, x, dx1, _, rfl, hx1, wsF_n (by decide +kernel) (by decide +kernel), ?_⟩
        unfold tNil
        refine wsU_of lm2.ws fun v3 G3 hl3 b3 hw3 due3 => ?_
        have t3 := lm2.ws.tm2 b3
        have due' := due.tm t3
        obtain ⟨eh, d, dd1, dd2, dsh⟩ := Due.data (K := K) due' due3 cos1
        subst eh
        have lm3 := lm2.one b3 hw3 lm2.hh
        have hx1' : G3 x = _ := b3 _ _ (lm2.ws.ins hx1).1 (lm2.ws.ins hx1).2 hx1
        have hx2' : G3 x2 = _ := b3 _ _ (lm2.ws.ins hx2).1 (lm2.ws.ins hx2).2 hx2
        refine ⟨_, rfl, d, d, dd1, dd2, dsh, dsh, false, ne_f dsh, iteF ?_⟩
        obtain ⟨os, vl, eo, el, hvl⟩ := lm3.oo.last
        refine ⟨_, rfl, x, dx1, _, rfl, hx1', wsF_n (by decide +kernel) (by decide +kernel), x, lo, lc, i, hl3, rfl, lm3.ws, fun v hv => ?_⟩
        refine ⟨_, rfl, 1, rfl, O, os, _, vl, rfl, rfl, SqL.of eo, at_last el, dOrd (cur i hl3), dOrd (cur i hl3), hv.dp, hvl.dp, gcur, gcur, false, ne_f gcur, iteF ?_⟩
        refine ⟨_, rfl, x, dx1, _, rfl, hx1', wsF_n (by decide +kernel) (by decide +kernel), x, lo, lc, i, hl3, rfl, lm3.ws, fun v4 G4 s4 hv4 => ?_⟩
        have lm4 := lm3.same s4
        obtain ⟨js, ej, pj⟩ := lm4.jl
        refine ⟨_, rfl, J, js, rfl, SqL.of ej, fun t5 G5 s5 h5 => ?_⟩
        refine ⟨dCmds (hl3.map (·.1)), dCmds (hl3.map (·.1)), (hv4.tm (TM.of s5)).dp, CmdsA.dp ⟨t5, js, rfl, h5, Paired.mapP pj fun _ _ q => q.tm (TM.of s5)⟩, gjou, gjou, false, ne_f gjou, iteF ?_⟩
        have s35 := s4.trans s5
        have lm5 := lm4.same s5
        have due5 := due'.tm (TM.of s35)
        refine ⟨_, rfl, x2, dx2, _, rfl, s35 _ _ hx2', wsF_n (by decide +kernel) (by decide +kernel), ?_⟩
        dsimp only
        refine wsU_of lm5.wt fun v6 G6 hl6 b6 hw6 due6 => ?_
        have t6 := lm5.wt.tm2 b6
        have due7 := due5.tm t6
        obtain ⟨eh6, d6, dd3, dd4, dsh6⟩ := Due.data (K := K) due7 due6 cos1
        subst eh6
        have lm6 := lm5.two b6 hw6 lm5.hh
        refine ⟨_, rfl, d6, d6, dd3, dd4, dsh6, dsh6, false, ne_f dsh6, iteF ?_⟩
        refine ⟨_, rfl, x, lo, lc, i, hl6, rfl, lm6.ws, lm6.hh, by omega, fun v7 G7 s7 hv7 => ?_⟩
        have lm7 := lm6.same s7
        obtain ⟨ss, vs7, es7, el7, hvs7⟩ := lm7.sl.last
        refine ⟨_, rfl, 1, rfl, S, ss, _, vs7, rfl, rfl, SqL.of es7, at_last el7, dState i hl6, dState i hl6, hv7.dp, hvs7.dp, gsta, gsta, false, ne_f gsta, iteF ?_⟩
        refine ⟨_, rfl, x2, lo2, lc2, i, hl6, rfl, lm7.wt, lm7.hh, by omega, fun v8 G8 s8 hv8 => ?_⟩
        have lm8 := lm7.same s8
        refine ⟨_, rfl, 1, rfl, S, ss, _, vs7, rfl, rfl, SqL.of (s8 _ _ es7), at_last el7, dState i hl6, dState i hl6, hv8.dp, (hvs7.tm (TM.of s8)).dp, gsta, gsta, false, ne_f gsta, iteF ?_⟩
        exact ⟨hl6, _, _, hl8, lm8, rfl⟩
    · rintro σ G ⟨hs, w9, w16, hh8, lm, rfl⟩
      -- a command more
      obtain ⟨os, vl, eo, el, hvl⟩ := lm.oo.last
      have c7 := lm.cur7
      have wc := lm.hh.cur.wo
      obtain ⟨y0, hy0⟩ : ∃ y0, (cur i hs).ls[0]? = some y0 := by
        cases e : i.ls with
        | nil => exact absurd e hne
        | cons q l =>
          have hq : q ∈ (cur i hs).ls := lm.hh.cur.sub q (by rw [e]; exact List.mem_cons_self)
          exact ⟨_, List.getElem?_eq_getElem (List.length_pos_of_mem hq)⟩
      have hym : y0 ∈ (cur i hs).ls := List.mem_of_getElem? hy0
      have hy7 := c7 _ hym
      obtain ⟨av, bv, cv, rfl, hva, hvb, hvc⟩ := hvl
      refine ⟨_, rfl, 1, rfl, O, os, _, _, rfl, rfl, SqL.of eo, at_last el, av, _, 0, _, rfl, rfl, hva.sq, atI_nat (j := 0) rfl, bv, _, 0, _, rfl, rfl, hvb.sq, atI_nat (j := 0) (tget hy0), (by show 4 ≤ 1000; decide), fun qr G1 s1 hqr => ?_⟩
      have ro : RO ⟨false, y0, 2, "y"⟩ := ⟨⟨y_no hy7, by show (1 : Int) ≤ 2; decide, by show (2 : Int) ≤ 3; decide⟩, alpha_sub (l7_alpha hy7), y_al⟩
      have hrr : RulA G1 (.ref qr) ⟨false, y0, 2, "y"⟩ := ⟨qr, rfl, hqr⟩
      generalize hR : (⟨false, y0, 2, "y"⟩ : Rul Str) = rl0 at ro hrr
      have hanc : rl0.anc ∈ (cur i hs).ls := by rw [← hR]; exact hym
      have stp : Step i (cur i hs) (.rule rl0) (Fw.put (cur i hs) rl0) := ⟨ro, ledX_step hanc, fun r hr => by cases hr; exact hanc⟩
      generalize Fw.put (cur i hs) rl0 = z at stp
      have hsn := lm.hh.snoc stp
      have hcur : cur i (hs ++ [(.rule rl0, z)]) = z := cur_snoc
      have lm1 := lm.same s1
      obtain ⟨js, ej, pj⟩ := lm1.jl
      -- three workshops
      refine ⟨_, rfl, _, rfl, _, rfl, _, rfl, J, js, rfl, SqL.of ej, fun tj G2 s2 htj => ?_⟩
      have lm2 := lm1.same s2
      have cosH : ∀ c ∈ hs.map (·.1), CO c := fun c hc => by
        obtain ⟨q, hq, rfl⟩ := List.mem_map.mp hc
        exact lm2.hh.cos q hq
      refine ⟨.ref a0, .ref tj, i, hs, hs.map (·.1), rfl, lm2.h0, ⟨tj, js, rfl, htj, Paired.mapP pj fun _ _ q => q.tm (TM.of s2)⟩, cosH, by rw [List.length_map]; omega, lm2.hh, .inl ⟨rfl, fun x3 lo3 lc3 G3 s3 fx3 flo3 flc3 hw3 => ?_⟩⟩
      refine ⟨(by show 3 ≤ sizeLine; decide), fun ql hql => ?_⟩
      have s4 : Same G3 (upd G3 ql (.lst [.ref x, .ref x2, .ref x3])) := Same.new hql
      have hq4 : upd G3 ql (.lst [.ref x, .ref x2, .ref x3]) ql = some (.lst [.ref x, .ref x2, .ref x3]) := upd_same
      have lm3 := lm2.same s3
      have le4 : LE CW (upd G3 ql (.lst [.ref x, .ref x2, .ref x3])) i x lo lc x2 lo2 lc2 x3 lo3 lc3 O J ql qr rl0 hs hs hs hs := by
        obtain ⟨_, _, _, _, b1⟩ := lm2.ws
        obtain ⟨_, _, _, _, b2⟩ := lm2.wt
        have hw3' := hw3
        obtain ⟨_, _, _, _, b3⟩ := hw3'
        obtain ⟨_, eo2, _⟩ := lm2.oo
        obtain ⟨_, ej2, _⟩ := lm2.jl
        have nd := lm.nd
        have nd7 : [lc2, lo2, J, O, lc, lo].Nodup := by
          have q := List.Nodup.sublist (List.Sublist.cons_cons lc2 (List.Sublist.cons_cons lo2 (List.Sublist.cons_cons J (List.Sublist.cons S (List.Sublist.cons_cons O (List.Sublist.cons_cons lc (List.Sublist.cons_cons lo (List.nil_sublist [b, p, s0])))))))) nd
          exact q
        have someG : ∀ q ∈ [lc2, lo2, J, O, lc, lo], G2 q ≠ none := fun q hq z => by
          simp only [List.mem_cons, List.not_mem_nil, or_false] at hq
          rcases hq with rfl | rfl | rfl | rfl | rfl | rfl
          · rw [b2.hc] at z; cases z
          · rw [b2.ho] at z; cases z
          · rw [ej2] at z; cases z
          · rw [eo2] at z; cases z
          · rw [b1.hc] at z; cases z
          · rw [b1.ho] at z; cases z
        have nd8 := nd_new nd7 someG flo3
        have nd9 : [lc3, lo3, lc2, lo2, J, O, lc, lo].Nodup := List.nodup_cons.mpr ⟨fun m => by
          rcases List.mem_cons.mp m with e | e
          · exact b3.ne e.symm
          · exact someG _ e flc3, nd8⟩
        have nd10 := nd_new nd9 (fun q hq z => by
          rcases List.mem_cons.mp hq with rfl | hq
          · rw [b3.hc] at z; cases z
          rcases List.mem_cons.mp hq with rfl | hq
          · rw [b3.ho] at z; cases z
          exact someG q hq (same_non s3 z)) hql
        exact ⟨nd10, lm3.ws.same s4, lm3.wt.same s4, hw3.same s4, lm3.oo.fr (fun o e => s4 _ _ e) (TM.of s4), lm3.jl.fr (fun o e => s4 _ _ e) (TM.of s4), hq4, hrr.tm (TM.of ((s2.trans s3).trans s4))⟩
      clear hq4 hw3 lm3 lm2 lm1 fx3 flo3 flc3 s4 htj cosH pj ej
      generalize upd G3 ql (.lst [.ref x, .ref x2, .ref x3]) = G4 at le4 ⊢
      refine ⟨ql, rfl, ⟨_, SqL.of le4.hq⟩, lcL (ys := [.ref x, .ref x2, .ref x3]) (by show 3 ≤ 5000; decide) (fun D t acc G => D ∉ [ql, lc3, lo3, lc2, lo2, J, O, lc, lo] ∧ acc = List.replicate t (.int (dist i z)) ∧ LE CW G i x lo lc x2 lo2 lc2 x3 lo3 lc3 O J ql qr rl0 hs (if 0 < t then hs ++ [(.rule rl0, z)] else hs) (if 1 < t then hs ++ [(.rule rl0, z)] else hs) (if 2 < t then hs ++ [(.rule rl0, z)] else hs)) (fun D hD => ⟨fun m => le4.some D m hD, rfl, le4.same (Same.new hD)⟩) (fun D t acc G iv => SqL.of iv.2.2.hq) (fun D t xv acc G Kt hD hx hacc iv kt => ?_) (fun D acc G hD hal hacc iv => ?_)⟩
      · obtain ⟨nD, rfl, le⟩ := iv
        have nDc : ∀ (n : Nat) (a : Addr), [ql, lc3, lo3, lc2, lo2, J, O, lc, lo][n]? = some a → D ≠ a := fun n a e z => nD (z ▸ List.mem_of_getElem? e)
        have hcmd : ∀ {G2 : Hp} {q : Addr}, Same G G2 → Tp G2 q [.str "rule", .ref qr] → CmdA G2 (.ref q) (.rule rl0) := fun s h => ⟨_, _, rfl, h, le.rr.tm (TM.of s)⟩
        have ht3 : t = 0 ∨ t = 1 ∨ t = 2 := by
          have h := (List.getElem?_eq_some_iff.mp hx).1
          have h3 : t < 3 := h
          omega
        rcases ht3 with rfl | rfl | rfl
        · cases hx
          have e1 : (if 0 < 0 then hs ++ [(.rule rl0, z)] else hs) = hs := rfl
          have ws := le.a1
          rw [e1] at ws
          obtain ⟨dx, _, _, hxx, _⟩ := ws
          refine ⟨rfl, _, rfl, x, dx, _, rfl, hxx, wsF_n (by decide +kernel) (by decide +kernel), _, rfl, (by show 2 ≤ 1000; decide), fun q G2 s2 hq => ?_⟩
          have le2 := le.same s2
          have ws := le2.a1
          rw [e1] at ws
          refine ⟨x, lo, lc, i, hs, .ref q, .rule rl0, rfl, ws, lm.hh, by omega, hcmd s2 hq, ro, stp.fit, fun z2 hz2 G5 b5 hw5 => ?_, fun k2 hk2 => ?_⟩
          · rw [stp.st] at hz2
            cases hz2
            have hD5 := b5 _ _ (nDc 8 _ rfl) (nDc 7 _ rfl) (s2 _ _ hacc)
            exact kt _ G5 hD5 ⟨nD, rfl, (le2.one b5 hw5).put hD5 nD⟩
          · rw [stp.st] at hk2
            cases hk2
        · cases hx
          have e1 : (if 1 < 1 then hs ++ [(.rule rl0, z)] else hs) = hs := rfl
          have ws := le.a2
          rw [e1] at ws
          obtain ⟨dx, _, _, hxx, _⟩ := ws
          refine ⟨rfl, _, rfl, x2, dx, _, rfl, hxx, wsF_n (by decide +kernel) (by decide +kernel), _, rfl, (by show 2 ≤ 1000; decide), fun q G2 s2 hq => ?_⟩
          have le2 := le.same s2
          have ws := le2.a2
          rw [e1] at ws
          refine ⟨x2, lo2, lc2, i, hs, .ref q, .rule rl0, rfl, ws, lm.hh, by omega, hcmd s2 hq, ro, stp.fit, fun z2 hz2 G5 b5 hw5 => ?_, fun k2 hk2 => ?_⟩
          · rw [stp.st] at hz2
            cases hz2
            have hD5 := b5 _ _ (nDc 4 _ rfl) (nDc 3 _ rfl) (s2 _ _ hacc)
            exact kt _ G5 hD5 ⟨nD, rfl, (le2.two b5 hw5).put hD5 nD⟩
          · rw [stp.st] at hk2
            cases hk2
        · cases hx
          have e1 : (if 2 < 2 then hs ++ [(.rule rl0, z)] else hs) = hs := rfl
          have ws := le.a3
          rw [e1] at ws
          obtain ⟨dx, _, _, hxx, _⟩ := ws
          refine ⟨rfl, _, rfl, x3, dx, _, rfl, hxx, wsF_n (by decide +kernel) (by decide +kernel), _, rfl, (by show 2 ≤ 1000; decide), fun q G2 s2 hq => ?_⟩
          have le2 := le.same s2
          have ws := le2.a3
          rw [e1] at ws
          refine ⟨x3, lo3, lc3, i, hs, .ref q, .rule rl0, rfl, ws, lm.hh, by omega, hcmd s2 hq, ro, stp.fit, fun z2 hz2 G5 b5 hw5 => ?_, fun k2 hk2 => ?_⟩
          · rw [stp.st] at hz2
            cases hz2
            have hD5 := b5 _ _ (nDc 2 _ rfl) (nDc 1 _ rfl) (s2 _ _ hacc)
            exact kt _ G5 hD5 ⟨nD, rfl, (le2.three b5 hw5).put hD5 nD⟩
          · rw [stp.st] at hk2
            cases hk2
      · obtain ⟨nD, rfl, le⟩ := iv
        have le : LE CW G i x lo lc x2 lo2 lc2 x3 lo3 lc3 O J ql qr rl0 hs (hs ++ [(.rule rl0, z)]) (hs ++ [(.rule rl0, z)]) (hs ++ [(.rule rl0, z)]) := le
        have hD : G D = some (.lst [.int (dist i z), .int (dist i z), .int (dist i z)]) := hacc
        clear hacc hal
        refine ⟨_, rfl, D, _, _, _, rfl, rfl, SqL.of hD, atI_nat (j := 0) rfl, _, rfl, D, _, _, _, rfl, rfl, SqL.of hD, atI_nat (j := 1) rfl, rfl, false, congrArg V.bl (by rw [decide_eq_true rfl]; rfl), iteF ?_⟩
        refine ⟨_, rfl, D, _, _, _, rfl, rfl, SqL.of hD, atI_nat (j := 0) rfl, _, rfl, D, _, _, _, rfl, rfl, SqL.of hD, atI_nat (j := 2) rfl, rfl, false, congrArg V.bl (by rw [decide_eq_true rfl]; rfl), iteF ?_⟩
        have ws := le.a1
        obtain ⟨dx1, _, _, hx1, _⟩ := ws
        have gz := (gOrd (hcur ▸ hsn.cur.wo)).sh (by decide)
        have gjou := (gJour hsn).sh (by decide)
        have gsta := (gState hsn).sh (by decide)
        refine ⟨_, rfl, x, dx1, _, rfl, hx1, wsF_n (by decide +kernel) (by decide +kernel), x, lo, lc, i, _, rfl, le.a1, fun v hv => ?_⟩
        rw [hcur] at hv
        obtain ⟨os, vl, eo, el, hvl⟩ := le.oo.last
        refine ⟨_, rfl, 1, rfl, O, os, _, vl, rfl, rfl, SqL.of eo, at_last el, _, rfl, (by show 1 ≤ 1000; decide), fun q5 G5 s5 hq5 => ?_⟩
        have lz : lled (cur i hs) [rl0] = some z := by
          have q : lstepO i (cur i hs) (.rule rl0) = _ := lstep_eq wc.wf ro
          rw [stp.st] at q
          exact q
        refine ⟨vl, .ref q5, cur i hs, [rl0], rfl, hvl.tm (TM.of s5), ⟨q5, [.ref qr], rfl, hq5, .cons (le.rr.tm (TM.of s5)) .nil⟩, wc, (fun r hr => by rw [List.mem_singleton.mp hr]; exact ro), fun z2 hz2 v6 G6 s6 hv6 => ?_, fun hn => ?_⟩
        · rw [lz] at hz2
          cases hz2
          have s56 := s5.trans s6
          refine ⟨dOrd z, dOrd z, (hv.tm (TM.of s56)).dp, hv6.dp, gz, gz, false, ne_f gz, iteF ?_⟩
          have le6 := le.same s56
          refine ⟨_, rfl, x, dx1, _, rfl, s56 _ _ hx1, wsF_n (by decide +kernel) (by decide +kernel), x, lo, lc, i, _, rfl, le6.a1, fun v7 G7 s7 hv7 => ?_⟩
          have le7 := le6.same s7
          obtain ⟨js, ej, pj⟩ := le7.jl
          have hjl : js.length = hs.length := by rw [pj.length, List.length_map]
          refine ⟨_, rfl, J, js, rfl, SqL.of ej, fun t8 G8 s8 ht8 => ?_⟩
          refine ⟨_, rfl, (by show 2 ≤ 1000; decide), fun q9 G9 s9 hq9 => ⟨(by show 1 ≤ 1000; decide), fun qa Ga sa hqa => ?_⟩⟩
          refine ⟨t8, qa, _, _, rfl, rfl, (ht8.same s9).same sa, hqa, by show js.length + 1 ≤ 1000; omega, fun qb Gb sb hqb => ?_⟩
          have s7b := ((s8.trans s9).trans sa).trans sb
          have le7b := le7.same s7b
          have hj2 : CmdsA Gb (.ref qb) ((hs ++ [(Cmd.rule rl0, z)]).map (·.1)) := by
            rw [List.map_append]
            exact ⟨qb, _, rfl, hqb, Paired.app (Paired.mapP pj fun _ _ q => q.tm (TM.of s7b)) (.cons ⟨q9, .ref qr, rfl, hq9.same (sa.trans sb), le7b.rr⟩ .nil)⟩
          refine ⟨_, _, (hv7.tm (TM.of s7b)).dp, hj2.dp, gjou, gjou, true, eq_t gjou, iteT ?_⟩
          refine ⟨_, rfl, x2, lo2, lc2, i, _, rfl, le7b.a2, hsn, by rw [List.length_append, List.length_singleton]; omega, fun va Gc sc hva2 => ?_⟩
          have le7c := le7b.same sc
          refine ⟨_, rfl, x, lo, lc, i, _, rfl, le7c.a1, hsn, by rw [List.length_append, List.length_singleton]; omega, fun vb Gd sd' hvb2 => ?_⟩
          have q := k Gd
          rw [← eqv_same gsta] at q
          exact ⟨_, _, (hva2.tm (TM.of sd')).dp, hvb2.dp, gsta, gsta, q⟩
        · rw [lz] at hn
          cases hn
end
end Fw

set_option maxHeartbeats 4000000
/-! FwE9: the call from without, where no repr is under way (the layer's own end asks a promise at every place) -/
namespace Fw
open PySem PySem.Spec PySem.W PyProof.Rows L2
section
variable {P : Program} {w : World} {K : PySem.W.Frag} {mg mb : Str → Option Value} {x y : Str} {st : Stmt} {N : List Str} {fa a : Addr} {fd : FuncData} {s1 : Shared} {us : List Value} {ns : List Int} {k : Nat}
theorem call_top {H : Hp} {base : Heap} {Q : VK} (F : FunD K x x (defArgs st) (defBody st) (defScope st) [] [] fa fd) (S : FnScope N [y] (defScope st)) (e0 : Env0 P w K mg base callerA [] s1 H) (hr : Room (k + 1) callerA)
    (hb : BindsTo s1 fd ⟨[.ref a], []⟩ [(y, .ref a)])
    (body : ∀ cdv : Value, Room k (callerA.deeper (envOfC x (defScope st) s1.heap.objs.size fa cdv)) → ∃ t, PSs (cxOf CX0 P w K mg base N x (defScope st) fa cdv callerA [] s1 H (fun _ _ _ => False)) (defBody st) t ∧ t { nx := fun _ G => Q .non G, rt := Q } (start N [.ref a]) H) :
    codeAny (model P w) callerA (.call (.ref fa) ⟨[.ref a], []⟩) (CR CX0 [] P w H s1 Q (fun _ _ _ => False)) s1 := by
  obtain ⟨oc, od, dV, kV, doc, pm, an, cdv, ct, osl, rfl, lk, hcd, _, _⟩ := F.ex
  have inK : K.In s1.heap := e0.mod.kin.keeps fun c q z => (e0.bs c q z).1
  have noLim : s1.heap.NoLimit := e0.mod.nolimit.keeps fun c q z => (e0.bs c q z).1
  refine codeAny_call_function hr.depth (inK _ _ lk) rfl S.co S.gen rfl (PySem.W.codeRec_of inK hcd) (hb _ _ _ _ ?_)
  refine wpAny_newFunctionEnv_cells S.kind (fun z hz => ?_) fun env he s2 new => ?_
  · obtain rfl : z = (y, Value.ref a) := List.mem_singleton.mp hz
    rcases S.par y List.mem_cons_self with q | q
    · exact Or.inl q
    · exact Or.inr ⟨q, PySem.W.cellsFrom_some _ _ _ (Or.inl q)⟩
  · subst he
    refine ⟨noLim.keeps new.toInCall.keep, codeAny_func ?_⟩
    obtain ⟨t, pt, rd⟩ := body cdv (hr.deeper _)
    have I := inv_start (CX := CX0) (E := fun _ _ _ => False) (us := [.ref a]) (vs := [.ref a]) S hr.hd e0 rfl (.cons rfl .nil) new
    refine wpAny_mono (pt.run [] s2 _ H _ I rd) (fun fl s3 out => ?_) fun _ _ z => z
    cases fl with
    | ret u =>
      obtain ⟨v, _, G, J, rv, q⟩ := out
      exact ⟨v, G, J.os, J.bare, J.base, J.hok, rv, q⟩
    | next =>
      obtain ⟨_, G, J, q⟩ := out
      exact ⟨V.non, G, J.os, J.bare, J.base, J.hok, rfl, q⟩
    | brk => exact out.elim fun _ z => z.elim fun _ z => z.2.elim
    | cont => exact out.elim fun _ z => z.elim fun _ z => z.2.elim
theorem law_run (inK : K.In s1.heap) (nsG : s1.heap.Ns mainGlobals mg) (nsB : s1.heap.Ns builtinsNs mb) (blt : ∀ z : Str, z ≠ "__name__" → mb z = bootBuiltins z) (noLim : s1.heap.NoLimit) (hg : s1.gens = #[])
    (ha : s1.heap.get? a = some { cls := .type "list", data := .seq us.toArray }) (hi : IntsAre us ns) (hl : ns.length ≤ sizeLine) (hr : Room (k + 1) callerA)
    (F : FunD K x x (defArgs st) (defBody st) (defScope st) [] [] fa fd) (S : FnScope N [y] (defScope st)) (hb : ∀ (s : Shared) (u : Value), BindsTo s fd ⟨[u], []⟩ [(y, u)])
    (body : ∀ (base : Heap) (cdv : Value) (H : Hp), SqL K H a (iV ns) → Room k (callerA.deeper (envOfC x (defScope st) s1.heap.objs.size fa cdv)) →
      ∃ t, PSs (cxOf CX0 P w K mg base N x (defScope st) fa cdv callerA [] s1 H (fun _ _ _ => False)) (defBody st) t ∧ t { nx := fun _ _ => V.non = .bl true, rt := fun v _ => v = .bl true } (start N [.ref a]) H) :
    codeAny (model P w) callerA (.call (.ref fa) ⟨[.ref a], []⟩) (fun r s2 => r = .ok (.ret (.bool true)) ∧ OldK s1.heap s2.heap ∧ s2.os = s1.os ∧ AllBare s2.gens) s1 := by
  have rv := vals_ints hi
  have hlen := hi.length
  -- what is tracked: the script, where the written part does not know it
  obtain ⟨H, hH⟩ : ∃ H : Hp, H = fun b => if b = a ∧ K.lookup a = none then some (.frz { cls := .type "list", data := .seq us.toArray } (.lst (iV ns))) else none := ⟨_, rfl⟩
  have only : ∀ {b : Addr} {u : HO}, H b = some u → b = a ∧ K.lookup a = none ∧ u = .frz { cls := .type "list", data := .seq us.toArray } (.lst (iV ns)) := fun {b u} z => by
    rw [hH] at z
    by_cases c : b = a ∧ K.lookup a = none
    · have z2 := (if_pos c).symm.trans z
      exact ⟨c.1, c.2, (Option.some.inj z2).symm⟩
    · have z2 := (if_neg c).symm.trans z
      cases z2
  have hok : HOk P w H s1.heap := fun b u z => by
    obtain ⟨rfl, _, rfl⟩ := only z
    exact ⟨ha, by rw [iV_len]; exact hl, us, _, rv, ha⟩
  have sq : SqL K H a (iV ns) := by
    cases q : K.lookup a with
    | none =>
      refine .inl (.inr ⟨{ cls := .type "list", data := .seq us.toArray }, ?_⟩)
      rw [hH]
      exact if_pos ⟨rfl, q⟩
    | some o =>
      have e := inK a o q
      rw [ha] at e
      cases e
      exact .inr ⟨_, us.toArray, _, q, rfl, rfl, rfl, by rw [List.size_toArray, hlen]; exact hl, by
        have q : Vals (iV ns) us := rv
        simpa using q⟩
  have known : ∀ {b : Addr} {o : Obj}, s1.heap.get? b = some o → H b = none → (hidT s1.heap H).get? b = some o := fun e n => hidT_get e n
  have dict_no : ∀ {b : Addr} {o : Obj} {es : Array DictEntry} {ep : Nat}, s1.heap.get? b = some o → o.data = .dict es ep → H b = none := fun {b o es ep} e d => by
    cases q : H b with
    | none => rfl
    | some u =>
      obtain ⟨rfl, _, _⟩ := only q
      rw [ha] at e
      cases e
      have d2 : Data.seq us.toArray _ = Data.dict es ep := d
      cases d2
  have keepNs : ∀ {b : Addr} {m : Str → Option Value}, s1.heap.Ns b m → (hidT s1.heap H).Ns b m := fun {b m} z => by
    obtain ⟨o, es, ep, e, d, r⟩ := z
    exact ⟨o, es, ep, known e (dict_no e d), d, r⟩
  have inB : K.In (hidT s1.heap H) := fun b o e => known (inK b o e) (by
    cases q : H b with
    | none => rfl
    | some u =>
      obtain ⟨rfl, z, _⟩ := only q
      rw [z] at e
      cases e)
  have md : Mod K mg (hidT s1.heap H) := by
    obtain ⟨mc, l1, l2⟩ := noLim
    exact ⟨inB, keepNs nsG, ⟨mb, keepNs nsB, blt⟩, mc, keepNs l1, l2⟩
  have e0 : Env0 P w K mg (hidT s1.heap H) callerA [] s1 H := by
    refine ⟨rfl, md, fun b o e => of_hidT e, Nat.le_of_eq (hidT_size _ _), trivial, fun b z => ?_, hok, .of_eq hg⟩
    exact absurd (show b ∈ ([] : List Addr) from z) (by simp)
  refine codeAny_mono (call_top (Q := fun v _ => v = .bl true) F S e0 hr (hb s1 (.ref a)) fun cdv room => body _ cdv H sq room) fun r s2 out => ?_
  cases r with
  | error e => exact (show False from out).elim
  | ok fl =>
    cases fl with
    | next => exact (show False from out).elim
    | brk => exact (show False from out).elim
    | cont => exact (show False from out).elim
    | ret u =>
      obtain ⟨v, G, os, bare, un, okG, ru, q⟩ := out
      have q2 : v = .bl true := q
      subst q2
      obtain rfl : u = Value.bool true := ru
      refine ⟨rfl, OldK.of_keep fun b o e => ?_, os, bare⟩
      cases c : H b with
      | none => exact un.keep b o e c (fun z => absurd (show b ∈ ([] : List Addr) from z) (by simp)) (by simp)
      | some h =>
        obtain ⟨rfl, _, rfl⟩ := only c
        obtain ⟨g1, _⟩ := okG b _ (un.frzs b _ _ c)
        rw [ha] at e
        cases e
        exact g1
end
end Fw

set_option maxHeartbeats 0
/-! FwEnd: the head's facts are the text's; the law holds -/
namespace Fw
open PySem PySem.Spec PySem.W PyProof.Rows L2
section
variable {K : PySem.W.Frag} {h : Heap} {mg : Str → Option Value}
theorem fc (c : He.SaysD FwH.fa FwH.fn K) (i : Nat) {f : He.Fa} (e : FwH.fa[i]? = some f) : f.ok K = true := c.fact i e
theorem txt_of {w : World} (X : K.In h) (G : h.Ns mainGlobals mg) (s : He.SaysX FwH.fa FwH.fn [] [] FwH.ex w h K) : Txt K mg (He.ga K "Pairs") (He.ga K "Workshop") (He.ga K "NotApplicable") (He.ga K "SIDES") := by
  have c : He.SaysD FwH.fa FwH.fn K := s.t.d
  obtain ⟨m1, m2⟩ := He.ba s.more
  obtain ⟨x1, x2, x3, x4⟩ := FwH.oexB_ok m1
  obtain ⟨fd0, F0⟩ := c.def_ 0 rfl
  have b0 := FunD.bindsN (ps := ["self", "index", "why"]) F0 (fun _ _ _ _ _ _ us hl => match us, hl with | [_, _, _], _ => rfl)
  obtain ⟨fd1, F1⟩ := c.def_ 1 rfl
  have b1 := FunD.bindsN (ps := ["value"]) F1 (fun _ _ _ _ _ _ us hl => match us, hl with | [_], _ => rfl)
  obtain ⟨fd2, F2⟩ := c.def_ 2 rfl
  have b2 := FunD.bindsN (ps := ["value"]) F2 (fun _ _ _ _ _ _ us hl => match us, hl with | [_], _ => rfl)
  obtain ⟨fd3, F3⟩ := c.def_ 3 rfl
  have b3 := FunD.bindsN (ps := ["value"]) F3 (fun _ _ _ _ _ _ us hl => match us, hl with | [_], _ => rfl)
  obtain ⟨fd4, F4⟩ := c.def_ 4 rfl
  have b4 := FunD.bindsN (ps := ["value"]) F4 (fun _ _ _ _ _ _ us hl => match us, hl with | [_], _ => rfl)
  obtain ⟨fd5, F5⟩ := c.def_ 5 rfl
  have b5 := FunD.bindsN (ps := ["value"]) F5 (fun _ _ _ _ _ _ us hl => match us, hl with | [_], _ => rfl)
  obtain ⟨fd6, F6⟩ := c.def_ 6 rfl
  have b6 := FunD.bindsN (ps := ["order", "letter"]) F6 (fun _ _ _ _ _ _ us hl => match us, hl with | [_, _], _ => rfl)
  obtain ⟨fd7, F7⟩ := c.def_ 7 rfl
  have b7 := FunD.bindsN (ps := ["order"]) F7 (fun _ _ _ _ _ _ us hl => match us, hl with | [_], _ => rfl)
  obtain ⟨fd8, F8⟩ := c.def_ 8 rfl
  have b8 := FunD.bindsN (ps := ["order", "low", "high"]) F8 (fun _ _ _ _ _ _ us hl => match us, hl with | [_, _, _], _ => rfl)
  obtain ⟨fd9, F9⟩ := c.def_ 9 rfl
  have b9 := FunD.bindsN (ps := ["self", "first", "second"]) F9 (fun _ _ _ _ _ _ us hl => match us, hl with | [_, _, _], _ => rfl)
  obtain ⟨fd10, F10⟩ := c.def_ 10 rfl
  have b10 := FunD.bindsN (ps := ["self", "i", "j"]) F10 (fun _ _ _ _ _ _ us hl => match us, hl with | [_, _, _], _ => rfl)
  obtain ⟨fd11, F11⟩ := c.def_ 11 rfl
  have b11 := FunD.bindsN (ps := ["self"]) F11 (fun _ _ _ _ _ _ us hl => match us, hl with | [_], _ => rfl)
  obtain ⟨fd12, F12⟩ := c.def_ 12 rfl
  have b12 := FunD.bindsN (ps := ["self"]) F12 (fun _ _ _ _ _ _ us hl => match us, hl with | [_], _ => rfl)
  obtain ⟨fd13, F13⟩ := c.def_ 13 rfl
  have b13 := FunD.bindsN (ps := ["pairs"]) F13 (fun _ _ _ _ _ _ us hl => match us, hl with | [_], _ => rfl)
  obtain ⟨fd14, F14⟩ := c.def_ 14 rfl
  have b14 := FunD.bindsN (ps := ["first", "second"]) F14 (fun _ _ _ _ _ _ us hl => match us, hl with | [_, _], _ => rfl)
  obtain ⟨fd15, F15⟩ := c.def_ 15 rfl
  have b15 := FunD.bindsN (ps := ["first", "second"]) F15 (fun _ _ _ _ _ _ us hl => match us, hl with | [_, _], _ => rfl)
  obtain ⟨fd16, F16⟩ := c.def_ 16 rfl
  have b16 := FunD.bindsN (ps := ["value"]) F16 (fun _ _ _ _ _ _ us hl => match us, hl with | [_], _ => rfl)
  obtain ⟨fd17, F17⟩ := c.def_ 17 rfl
  have b17 := FunD.bindsN (ps := ["value"]) F17 (fun _ _ _ _ _ _ us hl => match us, hl with | [_], _ => rfl)
  obtain ⟨fd18, F18⟩ := c.def_ 18 rfl
  have b18 := FunD.bindsN (ps := ["value"]) F18 (fun _ _ _ _ _ _ us hl => match us, hl with | [_], _ => rfl)
  obtain ⟨fd19, F19⟩ := c.def_ 19 rfl
  have b19 := FunD.bindsN (ps := ["order", "name"]) F19 (fun _ _ _ _ _ _ us hl => match us, hl with | [_, _], _ => rfl)
  obtain ⟨fd20, F20⟩ := c.def_ 20 rfl
  have b20 := FunD.bindsN (ps := ["order", "rule"]) F20 (fun _ _ _ _ _ _ us hl => match us, hl with | [_, _], _ => rfl)
  obtain ⟨fd21, F21⟩ := c.def_ 21 rfl
  have b21 := FunD.bindsN (ps := ["order", "rule"]) F21 (fun _ _ _ _ _ _ us hl => match us, hl with | [_, _], _ => rfl)
  obtain ⟨fd22, F22⟩ := c.def_ 22 rfl
  have b22 := FunD.bindsN (ps := ["order"]) F22 (fun _ _ _ _ _ _ us hl => match us, hl with | [_], _ => rfl)
  obtain ⟨fd23, F23⟩ := c.def_ 23 rfl
  have b23 := FunD.bindsN (ps := ["order", "anchor", "strength", "letter"]) F23 (fun _ _ _ _ _ _ us hl => match us, hl with | [_, _, _, _], _ => rfl)
  obtain ⟨fd24, F24⟩ := c.def_ 24 rfl
  have b24 := FunD.bindsN (ps := ["order", "rule"]) F24 (fun _ _ _ _ _ _ us hl => match us, hl with | [_, _], _ => rfl)
  obtain ⟨fd25, F25⟩ := c.def_ 25 rfl
  have b25 := FunD.bindsN (ps := ["order", "rule"]) F25 (fun _ _ _ _ _ _ us hl => match us, hl with | [_, _], _ => rfl)
  obtain ⟨fd26, F26⟩ := c.def_ 26 rfl
  have b26 := FunD.bindsN (ps := ["order", "rules"]) F26 (fun _ _ _ _ _ _ us hl => match us, hl with | [_, _], _ => rfl)
  obtain ⟨fd27, F27⟩ := c.def_ 27 rfl
  have b27 := FunD.bindsN (ps := ["first", "second"]) F27 (fun _ _ _ _ _ _ us hl => match us, hl with | [_, _], _ => rfl)
  obtain ⟨fd28, F28⟩ := c.def_ 28 rfl
  have b28 := FunD.bindsN (ps := ["second", "low", "high"]) F28 (fun _ _ _ _ _ _ us hl => match us, hl with | [_, _, _], _ => rfl)
  obtain ⟨fd29, F29⟩ := c.def_ 29 rfl
  have b29 := FunD.bindsN (ps := ["second", "low", "high"]) F29 (fun _ _ _ _ _ _ us hl => match us, hl with | [_, _, _], _ => rfl)
  obtain ⟨fd30, F30⟩ := c.def_ 30 rfl
  have b30 := FunD.bindsN (ps := ["second", "low", "high"]) F30 (fun _ _ _ _ _ _ us hl => match us, hl with | [_, _, _], _ => rfl)
  obtain ⟨fd31, F31⟩ := c.def_ 31 rfl
  have b31 := FunD.bindsN (ps := ["second", "letters"]) F31 (fun _ _ _ _ _ _ us hl => match us, hl with | [_, _], _ => rfl)
  obtain ⟨fd32, F32⟩ := c.def_ 32 rfl
  have b32 := FunD.bindsN (ps := ["first", "second"]) F32 (fun _ _ _ _ _ _ us hl => match us, hl with | [_, _], _ => rfl)
  obtain ⟨fd33, F33⟩ := c.def_ 33 rfl
  have b33 := FunD.bindsN (ps := ["first", "second"]) F33 (fun _ _ _ _ _ _ us hl => match us, hl with | [_, _], _ => rfl)
  obtain ⟨fd34, F34⟩ := c.def_ 34 rfl
  have b34 := FunD.bindsN (ps := ["first", "second"]) F34 (fun _ _ _ _ _ _ us hl => match us, hl with | [_, _], _ => rfl)
  obtain ⟨fd35, F35⟩ := c.def_ 35 rfl
  have b35 := FunD.bindsN (ps := ["first", "second"]) F35 (fun _ _ _ _ _ _ us hl => match us, hl with | [_, _], _ => rfl)
  obtain ⟨fd36, F36⟩ := c.def_ 36 rfl
  have b36 := FunD.bindsN (ps := ["value"]) F36 (fun _ _ _ _ _ _ us hl => match us, hl with | [_], _ => rfl)
  obtain ⟨fd37, F37⟩ := c.def_ 37 rfl
  have b37 := FunD.bindsN (ps := ["initial", "current", "command"]) F37 (fun _ _ _ _ _ _ us hl => match us, hl with | [_, _, _], _ => rfl)
  obtain ⟨fd38, F38⟩ := c.def_ 38 rfl
  have b38 := FunD.bindsN (ps := ["self", "order"]) F38 (fun _ _ _ _ _ _ us hl => match us, hl with | [_, _], _ => rfl)
  obtain ⟨fd39, F39⟩ := c.def_ 39 rfl
  have b39 := FunD.bindsN (ps := ["self", "command"]) F39 (fun _ _ _ _ _ _ us hl => match us, hl with | [_, _], _ => rfl)
  obtain ⟨fd40, F40⟩ := c.def_ 40 rfl
  have b40 := FunD.bindsN (ps := ["self"]) F40 (fun _ _ _ _ _ _ us hl => match us, hl with | [_], _ => rfl)
  obtain ⟨fd41, F41⟩ := c.def_ 41 rfl
  have b41 := FunD.bindsN (ps := ["self"]) F41 (fun _ _ _ _ _ _ us hl => match us, hl with | [_], _ => rfl)
  obtain ⟨fd42, F42⟩ := c.def_ 42 rfl
  have b42 := FunD.bindsN (ps := ["self"]) F42 (fun _ _ _ _ _ _ us hl => match us, hl with | [_], _ => rfl)
  obtain ⟨fd43, F43⟩ := c.def_ 43 rfl
  have b43 := FunD.bindsN (ps := ["self"]) F43 (fun _ _ _ _ _ _ us hl => match us, hl with | [_], _ => rfl)
  obtain ⟨fd44, F44⟩ := c.def_ 44 rfl
  have b44 := FunD.bindsN (ps := ["self"]) F44 (fun _ _ _ _ _ _ us hl => match us, hl with | [_], _ => rfl)
  obtain ⟨fd45, F45⟩ := c.def_ 45 rfl
  have b45 := FunD.bindsN (ps := ["self"]) F45 (fun _ _ _ _ _ _ us hl => match us, hl with | [_], _ => rfl)
  obtain ⟨fd46, F46⟩ := c.def_ 46 rfl
  have b46 := FunD.bindsN (ps := ["self"]) F46 (fun _ _ _ _ _ _ us hl => match us, hl with | [_], _ => rfl)
  obtain ⟨fd47, F47⟩ := c.def_ 47 rfl
  have b47 := FunD.bindsN (ps := ["self"]) F47 (fun _ _ _ _ _ _ us hl => match us, hl with | [_], _ => rfl)
  obtain ⟨fd48, F48⟩ := c.def_ 48 rfl
  have b48 := FunD.bindsN (ps := ["order", "journal"]) F48 (fun _ _ _ _ _ _ us hl => match us, hl with | [_, _], _ => rfl)
  obtain ⟨fd49, F49⟩ := c.def_ 49 rfl
  have b49 := FunD.bindsN (ps := ["_law_script"]) F49 (fun _ _ _ _ _ _ us hl => match us, hl with | [_], _ => rfl)
  obtain ⟨fd50, F50⟩ := c.def_ 50 rfl
  have b50 := FunD.bindsN (ps := ["_law_stream_here", "_law_many"]) F50 (fun _ _ _ _ _ _ us hl => match us, hl with | [_, _], _ => rfl)
  obtain ⟨fd51, F51⟩ := c.def_ 51 rfl
  have b51 := FunD.bindsN (ps := ["_law_stream_here", "_law_items"]) F51 (fun _ _ _ _ _ _ us hl => match us, hl with | [_, _], _ => rfl)
  obtain ⟨fd52, F52⟩ := c.def_ 52 rfl
  have b52 := FunD.bindsN (ps := ["_law_stream_here", "_law_letters", "_law_most"]) F52 (fun _ _ _ _ _ _ us hl => match us, hl with | [_, _, _], _ => rfl)
  obtain ⟨fd53, F53⟩ := c.def_ 53 rfl
  have b53 := FunD.bindsN (ps := ["_law_stream_here", "_law_letters"]) F53 (fun _ _ _ _ _ _ us hl => match us, hl with | [_, _], _ => rfl)
  obtain ⟨fd54, F54⟩ := c.def_ 54 rfl
  have b54 := FunD.bindsN (ps := ["_law_order_here", "_law_letter"]) F54 (fun _ _ _ _ _ _ us hl => match us, hl with | [_, _], _ => rfl)
  obtain ⟨fd55, F55⟩ := c.def_ 55 rfl
  have b55 := FunD.bindsN (ps := ["_law_order_here", "_law_rule_here"]) F55 (fun _ _ _ _ _ _ us hl => match us, hl with | [_, _], _ => rfl)
  obtain ⟨fd56, F56⟩ := c.def_ 56 rfl
  have b56 := FunD.bindsN (ps := ["_law_order_here", "_law_rules"]) F56 (fun _ _ _ _ _ _ us hl => match us, hl with | [_, _], _ => rfl)
  obtain ⟨fd57, F57⟩ := c.def_ 57 rfl
  have b57 := FunD.bindsN (ps := ["_law_stream_here", "_law_order_here", "_law_letters"]) F57 (fun _ _ _ _ _ _ us hl => match us, hl with | [_, _, _], _ => rfl)
  obtain ⟨fd58, F58⟩ := c.def_ 58 rfl
  have b58 := FunD.bindsN (ps := ["_law_initial", "_law_current", "_law_command_here"]) F58 (fun _ _ _ _ _ _ us hl => match us, hl with | [_, _, _], _ => rfl)
  obtain ⟨fd59, F59⟩ := c.def_ 59 rfl
  have b59 := FunD.bindsN (ps := ["_law_order_here", "_law_journal"]) F59 (fun _ _ _ _ _ _ us hl => match us, hl with | [_, _], _ => rfl)
  obtain ⟨fd60, F60⟩ := c.def_ 60 rfl
  have b60 := FunD.bindsN (ps := ["_law_workshop"]) F60 (fun _ _ _ _ _ _ us hl => match us, hl with | [_], _ => rfl)
  obtain ⟨fd61, F61⟩ := c.def_ 61 rfl
  have b61 := FunD.bindsN (ps := ["_law_script"]) F61 (fun _ _ _ _ _ _ us hl => match us, hl with | [_], _ => rfl)
  exact {
    d_NotApplicable_init := ⟨_, fd0, x1, x2, x3, x4, F0, b0⟩
    d_is_whole := ⟨_, fd1, He.glo_ok X G (fc c 0 (f := .glo "is_whole") rfl), F1, b1⟩
    d_is_level := ⟨_, fd2, He.glo_ok X G (fc c 1 (f := .glo "is_level") rfl), F2, b2⟩
    d_is_letter := ⟨_, fd3, He.glo_ok X G (fc c 2 (f := .glo "is_letter") rfl), F3, b3⟩
    d_are_letters := ⟨_, fd4, He.glo_ok X G (fc c 3 (f := .glo "are_letters") rfl), F4, b4⟩
    d_is_order := ⟨_, fd5, He.glo_ok X G (fc c 4 (f := .glo "is_order") rfl), F5, b5⟩
    d_removed := ⟨_, fd6, He.glo_ok X G (fc c 5 (f := .glo "removed") rfl), F6, b6⟩
    d_places_of := ⟨_, fd7, He.glo_ok X G (fc c 6 (f := .glo "places_of") rfl), F7, b7⟩
    d_least_between := ⟨_, fd8, He.glo_ok X G (fc c 7 (f := .glo "least_between") rfl), F8, b8⟩
    d_Pairs_init := ⟨_, fd9, He.mkr_ok (fc c 74 (f := .mkr "Pairs") rfl), F9, b9⟩
    d_Pairs_can_follow := ⟨_, fd10, He.meth_ok (fc c 88 (f := .meth "Pairs" "can_follow") rfl), F10, b10⟩
    d_Pairs_lengths := ⟨_, fd11, He.meth_ok (fc c 89 (f := .meth "Pairs" "lengths") rfl), F11, b11⟩
    d_Pairs_levels := ⟨_, fd12, He.meth_ok (fc c 90 (f := .meth "Pairs" "levels") rfl), F12, b12⟩
    d_longest_in := ⟨_, fd13, He.glo_ok X G (fc c 8 (f := .glo "longest_in") rfl), F13, b13⟩
    d_longest_of := ⟨_, fd14, He.glo_ok X G (fc c 9 (f := .glo "longest_of") rfl), F14, b14⟩
    d_levels_of := ⟨_, fd15, He.glo_ok X G (fc c 10 (f := .glo "levels_of") rfl), F15, b15⟩
    d_is_integer := ⟨_, fd16, He.glo_ok X G (fc c 11 (f := .glo "is_integer") rfl), F16, b16⟩
    d_is_rule := ⟨_, fd17, He.glo_ok X G (fc c 12 (f := .glo "is_rule") rfl), F17, b17⟩
    d_is_rule_list := ⟨_, fd18, He.glo_ok X G (fc c 13 (f := .glo "is_rule_list") rfl), F18, b18⟩
    d_check_order := ⟨_, fd19, He.glo_ok X G (fc c 14 (f := .glo "check_order") rfl), F19, b19⟩
    d_check_rule := ⟨_, fd20, He.glo_ok X G (fc c 15 (f := .glo "check_rule") rfl), F20, b20⟩
    d_why_not := ⟨_, fd21, He.glo_ok X G (fc c 16 (f := .glo "why_not") rfl), F21, b21⟩
    d_turned_around := ⟨_, fd22, He.glo_ok X G (fc c 17 (f := .glo "turned_around") rfl), F22, b22⟩
    d_put_after := ⟨_, fd23, He.glo_ok X G (fc c 18 (f := .glo "put_after") rfl), F23, b23⟩
    d_put := ⟨_, fd24, He.glo_ok X G (fc c 19 (f := .glo "put") rfl), F24, b24⟩
    d_applied := ⟨_, fd25, He.glo_ok X G (fc c 20 (f := .glo "applied") rfl), F25, b25⟩
    d_led := ⟨_, fd26, He.glo_ok X G (fc c 21 (f := .glo "led") rfl), F26, b26⟩
    d_reaches := ⟨_, fd27, He.glo_ok X G (fc c 22 (f := .glo "reaches") rfl), F27, b27⟩
    d_from_left := ⟨_, fd28, He.glo_ok X G (fc c 23 (f := .glo "from_left") rfl), F28, b28⟩
    d_from_right := ⟨_, fd29, He.glo_ok X G (fc c 24 (f := .glo "from_right") rfl), F29, b29⟩
    d_gap_rules := ⟨_, fd30, He.glo_ok X G (fc c 25 (f := .glo "gap_rules") rfl), F30, b30⟩
    d_keep := ⟨_, fd31, He.glo_ok X G (fc c 26 (f := .glo "keep") rfl), F31, b31⟩
    d_check_orders := ⟨_, fd32, He.glo_ok X G (fc c 27 (f := .glo "check_orders") rfl), F32, b32⟩
    d_distance_of := ⟨_, fd33, He.glo_ok X G (fc c 28 (f := .glo "distance_of") rfl), F33, b33⟩
    d_rules_of := ⟨_, fd34, He.glo_ok X G (fc c 29 (f := .glo "rules_of") rfl), F34, b34⟩
    d_answer_for := ⟨_, fd35, He.glo_ok X G (fc c 30 (f := .glo "answer_for") rfl), F35, b35⟩
    d_is_command := ⟨_, fd36, He.glo_ok X G (fc c 31 (f := .glo "is_command") rfl), F36, b36⟩
    d_behind := ⟨_, fd37, He.glo_ok X G (fc c 32 (f := .glo "behind") rfl), F37, b37⟩
    d_Workshop_init := ⟨_, fd38, He.mkr_ok (fc c 76 (f := .mkr "Workshop") rfl), F38, b38⟩
    d_Workshop_do := ⟨_, fd39, He.meth_ok (fc c 91 (f := .meth "Workshop" "do") rfl), F39, b39⟩
    d_Workshop_undo := ⟨_, fd40, He.meth_ok (fc c 92 (f := .meth "Workshop" "undo") rfl), F40, b40⟩
    d_Workshop_initial := ⟨_, fd41, He.meth_ok (fc c 93 (f := .meth "Workshop" "initial") rfl), F41, b41⟩
    d_Workshop_current := ⟨_, fd42, He.meth_ok (fc c 94 (f := .meth "Workshop" "current") rfl), F42, b42⟩
    d_Workshop_distance := ⟨_, fd43, He.meth_ok (fc c 95 (f := .meth "Workshop" "distance") rfl), F43, b43⟩
    d_Workshop_shortest := ⟨_, fd44, He.meth_ok (fc c 96 (f := .meth "Workshop" "shortest") rfl), F44, b44⟩
    d_Workshop_kept := ⟨_, fd45, He.meth_ok (fc c 97 (f := .meth "Workshop" "kept") rfl), F45, b45⟩
    d_Workshop_journal := ⟨_, fd46, He.meth_ok (fc c 98 (f := .meth "Workshop" "journal") rfl), F46, b46⟩
    d_Workshop_records := ⟨_, fd47, He.meth_ok (fc c 99 (f := .meth "Workshop" "records") rfl), F47, b47⟩
    d_replayed := ⟨_, fd48, He.glo_ok X G (fc c 33 (f := .glo "replayed") rfl), F48, b48⟩
    d_Lstream := ⟨_, fd49, He.glo_ok X G (fc c 34 (f := .glo "_law_stream") rfl), F49, b49⟩
    d_Lnext := ⟨_, fd50, He.glo_ok X G (fc c 35 (f := .glo "_law_next") rfl), F50, b50⟩
    d_Lshuffled := ⟨_, fd51, He.glo_ok X G (fc c 36 (f := .glo "_law_shuffled") rfl), F51, b51⟩
    d_Lorder := ⟨_, fd52, He.glo_ok X G (fc c 37 (f := .glo "_law_order") rfl), F52, b52⟩
    d_Lrule := ⟨_, fd53, He.glo_ok X G (fc c 38 (f := .glo "_law_rule") rfl), F53, b53⟩
    d_Lwithout := ⟨_, fd54, He.glo_ok X G (fc c 39 (f := .glo "_law_without") rfl), F54, b54⟩
    d_Lput := ⟨_, fd55, He.glo_ok X G (fc c 40 (f := .glo "_law_put") rfl), F55, b55⟩
    d_Lled := ⟨_, fd56, He.glo_ok X G (fc c 41 (f := .glo "_law_led") rfl), F56, b56⟩
    d_Lcommand := ⟨_, fd57, He.glo_ok X G (fc c 42 (f := .glo "_law_command") rfl), F57, b57⟩
    d_Lbehind := ⟨_, fd58, He.glo_ok X G (fc c 43 (f := .glo "_law_behind") rfl), F58, b58⟩
    d_Lreplayed := ⟨_, fd59, He.glo_ok X G (fc c 44 (f := .glo "_law_replayed") rfl), F59, b59⟩
    d_Lstate := ⟨_, fd60, He.glo_ok X G (fc c 45 (f := .glo "_law_state") rfl), F60, b60⟩
    d_law := ⟨_, fd61, He.glo_ok X G (fc c 46 (f := .glo "law") rfl), F61, b61⟩
    g_Pairs := He.glo_ok X G (fc c 47 (f := .glo "Pairs") rfl)
    g_Workshop := He.glo_ok X G (fc c 48 (f := .glo "Workshop") rfl)
    g_NotApplicable := He.glo_ok X G (fc c 49 (f := .glo "NotApplicable") rfl)
    g_SIDES := He.glo_ok X G (fc c 50 (f := .glo "SIDES") rfl)
    sides := fun H => He.tupB_ok m2 H
    b_isinstance := He.free_ok X G (fc c 51 (f := .free "isinstance") rfl)
    b_len := He.free_ok X G (fc c 52 (f := .free "len") rfl)
    b_max := He.free_ok X G (fc c 53 (f := .free "max") rfl)
    b_min := He.free_ok X G (fc c 54 (f := .free "min") rfl)
    b_all := He.free_ok X G (fc c 55 (f := .free "all") rfl)
    b_int := He.free_ok X G (fc c 56 (f := .free "int") rfl)
    b_str := He.free_ok X G (fc c 57 (f := .free "str") rfl)
    b_tuple := He.free_ok X G (fc c 58 (f := .free "tuple") rfl)
    b_bool := He.free_ok X G (fc c 59 (f := .free "bool") rfl)
    b_enumerate := He.free_ok X G (fc c 60 (f := .free "enumerate") rfl)
    b_range := He.free_ok X G (fc c 61 (f := .free "range") rfl)
    b_zip := He.free_ok X G (fc c 62 (f := .free "zip") rfl)
    b_list := He.free_ok X G (fc c 63 (f := .free "list") rfl)
    b_abs := He.free_ok X G (fc c 64 (f := .free "abs") rfl)
    b_repr := He.free_ok X G (fc c 65 (f := .free "repr") rfl)
    c_LONGEST := He.int_ok X G (fc c 66 (f := .int "LONGEST" 12) rfl)
    c_MOST := He.int_ok X G (fc c 67 (f := .int "MOST" 12) rfl)
    c_MOST_LETTERS := He.int_ok X G (fc c 68 (f := .int "MOST_LETTERS" 12) rfl)
    c_MOST_RULES := He.int_ok X G (fc c 69 (f := .int "MOST_RULES" 20) rfl)
    c_MOST_COMMANDS := He.int_ok X G (fc c 70 (f := .int "MOST_COMMANDS" 20) rfl)
    c_CHARACTERS := He.str_ok X G (fc c 71 (f := .str "CHARACTERS" "abcdefghijklmnopqrstuvwxyz") rfl)
    c_DIGITS := He.str_ok X G (fc c 72 (f := .str "DIGITS" "0123456789") rfl)
    cl_Pairs := He.cls_ok (fc c 73 (f := .cls "Pairs") rfl)
    cl_Workshop := He.cls_ok (fc c 75 (f := .cls "Workshop") rfl)
    n_Pairs_places := He.noat_ok (fc c 77 (f := .noat "Pairs" "places") rfl)
    n_Pairs_first := He.noat_ok (fc c 78 (f := .noat "Pairs" "first") rfl)
    n_Pairs_second := He.noat_ok (fc c 79 (f := .noat "Pairs" "second") rfl)
    n_Pairs_own := He.noat_ok (fc c 80 (f := .noat "Pairs" "own") rfl)
    n_Pairs_letters := He.noat_ok (fc c 81 (f := .noat "Pairs" "letters") rfl)
    n_Pairs_many := He.noat_ok (fc c 82 (f := .noat "Pairs" "many") rfl)
    n_Pairs_links := He.noat_ok (fc c 83 (f := .noat "Pairs" "links") rfl)
    n_Workshop_orders := He.noat_ok (fc c 84 (f := .noat "Workshop" "orders") rfl)
    n_Workshop_commands := He.noat_ok (fc c 85 (f := .noat "Workshop" "commands") rfl)
    n_NotApplicable_index := He.noat_ok (fc c 86 (f := .noat "NotApplicable" "index") rfl)
    n_NotApplicable_why := He.noat_ok (fc c 87 (f := .noat "NotApplicable" "why") rfl)
    exm := He.exm_ok (fc c 100 (f := .exm "NotApplicable" "NotApplicable" true) rfl)
  }
end
end Fw

set_option maxHeartbeats 0
/-! FwFin: the law holds -/
namespace Fw
open PySem PySem.Spec PySem.W PyProof.Rows L2
theorem law_name : (HandSHeadRun.topDef FwH.R.prog 72).name = ("law" : Str) := by kernel_rfl
theorem law_walked : WalkO (PySem.W.view FwH.R.prog [72]) FwH.names (XL (PySem.W.view FwH.R.prog [72]) []) FwH.hk.says (PySem.W.OpenLaw.row PySem.Challenge.rw_fewestrules_k93_whole_undone_and_replaye).toRowW (HandSHeadRun.topDef FwH.R.prog 72) [] (fun f vs => PySem.call f vs) := by
  refine Att.attach_call (l := PySem.Challenge.rw_fewestrules_k93_whole_undone_and_replaye) (n := 63) rfl (by kernel_rfl) ?_
  intro w s0 s1 mg mb fa o pm cd doc a us ns G Y ho hd hcd hmg hobj hints hlen hg
  obtain ⟨K, inK, says⟩ := Y
  have T := txt_of inK G.T.g says
  obtain ⟨f, fd, e, F, b⟩ := T.d_law
  rw [law_name, e] at hmg
  cases hmg
  have hb : ∀ (s : Shared) (u : Value), BindsTo s fd ⟨[u], []⟩ [("_law_script", u)] := fun s u => FunD.bindsA (ps := ["_law_script"]) F (fun _ _ _ _ _ _ us hl => match us, hl with | [_], _ => rfl) s [u] rfl
  refine law_run (k := 10) inK G.T.g G.T.b G.T.builtins G.T.nolimit hg hobj hints (Nat.le_trans hlen (by decide)) ⟨rfl, by decide, by decide⟩ F sc_law hb fun base cdv H hS room => ?_
  obtain ⟨t, pt, rd⟩ := law_body (base := base) T (A := callerA) (outer := []) (s := s1) (H := H) rfl room a ns hS (Q := fun v _ => v = .bl true) fun _ => rfl
  exact ⟨t, pt.nox, rd⟩
end Fw
open PySem PySem.W PyProof.Rows PySem.Calls
theorem PySem.Challenge.cw_fewestrules_k93_whole_undone_and_replaye_holds : PySem.Challenge.rw_fewestrules_k93_whole_undone_and_replaye.Holds := by
  w_on
  o_law
  refine HandSHeadRun.head_any (r := PySem.W.OpenLaw.row PySem.Challenge.rw_fewestrules_k93_whole_undone_and_replaye) (q := PySem.W.view FwH.R.prog [72]) (H := FwH.hk) (ob := FwH.ob) (M := 6000) (loose := FwH.names) (d := HandSHeadRun.topDef FwH.R.prog 72) (kwd := []) FwH.ob_eq
    (by kernel_rfl) (fun s => by kernel_rfl) FwH.run (by kernel_rfl) (by kernel_rfl) (by kernel_rfl) (by rfl) (by decide +kernel) (by decide +kernel) ⟨rfl, rfl, rfl, rfl, rfl, by decide +kernel⟩ ?hw Fw.law_walked
  case hw => w_witness2
