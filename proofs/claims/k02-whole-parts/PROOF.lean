import PyProof.Rows.All
import Wide.All
import OpenK.AllK
import Wide.FinOn
import PyProof.ReprBulk
import HandS.ForMost
import HandS.ForExc
import HandS.Defaults
import HandS.Evl
import PySem.Challenge.RW_prefixgraft_k02_whole_parts_spoilt_anywh
import HandS.Walk
import HandS.IsInst
import HandS.TupAny
import HandS.Style
import KE.GoesEnum
import KE.GoesMore
import PyProof.NeKinds
import PyProof.EqAt
import HandS.ExcInit
import HandS.WordsExc
import HandS.Set
import HandS.Strs
import HandS.SetFor
import HandS.More
import HandS.Wide
import HandS.TupMul
import PyProof.StrOps2
import HandS.Nested
import KE.KDflt
import HandS.Deep
import HandS.ExcField
import HandS.ExcIs
import HandS.SlotsOwn
import HandS.ExcValue
import HandS.EndTab
import HandS.HeadWalk
import PyProof.ReprRoads
import PyProof.CallFns
import PyProof.FitsInt
import KE.KStateDown
import HandS.Head0
import HandS.Head1
import HandS.Head2
import HandS.HeadEnd
import HandS.HeadHook1
import HandS.HeadHook2
import HandS.HeadHook3
import HandS.HeadHook4
import HandS.NestedK
set_option Elab.async false
set_option linter.all false
set_option maxRecDepth 100000
set_option maxHeartbeats 4000000
/-! the mirror: what the program and the law compute, over data (PyData), without a heap -/
namespace G
open PySem
/-! ### texts -/
def LET : Str := Str.ofString "abcdefghijklmnopqrstuvwxyz"
def ADR : Str := Str.ofString "abcdefghijklmnopqrstuvwxyz0123456789./:-"
def PLN : Str := Str.ofString "abcdefghijklmnopqrstuvwxyz0123456789 ./-"
def BAR : Str := Str.ofString "xmlns"
def ELE : Str := Str.ofString "element"
def HOL : Str := Str.ofString "hole"
def isStr : PyData → Bool
  | .str _ => true
  | _ => false
def isTup : PyData → Bool
  | .tuple _ => true
  | _ => false
def strOf : PyData → Str
  | .str s => s
  | _ => Str.empty
/-- a tuple's items -/
def kids : PyData → List PyData
  | .tuple xs => xs
  | _ => []
def kid (d : PyData) (i : Nat) : PyData := (kids d).getD i .none
def allIn (s signs : Str) : Bool := s.cps.toList.all fun c => decide (c ∈ signs.cps.toList)
def isOf (d : PyData) (signs : Str) (lo hi : Nat) : Bool := match d with
  | .str s => decide (lo ≤ s.length) && (decide (s.length ≤ hi) && allIn s signs)
  | _ => false
def isPrefix (d : PyData) : Bool := isOf d LET 0 8 && !decide (strOf d = BAR)
def isLocal (d : PyData) : Bool := isOf d LET 1 8 && !decide (strOf d = BAR)
def isAddress (d : PyData) : Bool := isOf d ADR 1 20
def isPair (d : PyData) : Bool := isTup d && decide ((kids d).length = 2)
def isName (d : PyData) : Bool := isPair d && (isPrefix (kid d 0) && isLocal (kid d 1))
def isPlain (d : PyData) : Bool := isOf d PLN 0 20
def isWord (d : PyData) : Bool := isOf d LET 1 8
def begins (d : PyData) (w : Str) : Bool := match d with
  | .tuple (.str s :: _) => decide (s = w)
  | _ => false
/-- a declaration's value: an address or nothing -/
def isAddrOr (d : PyData) : Bool := isOf d ADR 0 20
def declOk (p : PyData) : Bool := isPair p && (isPrefix (kid p 0) && isAddrOr (kid p 1))
def keyS (p : PyData) : Str := strOf (kid p 0)
def keyN (p : PyData) : Str × Str := (strOf (kid (kid p 0) 0), strOf (kid (kid p 0) 1))
def areDecls (d : PyData) : Bool := isTup d && ((kids d).all declOk && decide (((kids d).map keyS).Nodup))
def attrOk (p : PyData) : Bool := isPair p && (isName (kid p 0) && (isPlain (kid p 1) || isName (kid p 1)))
def areAttrs (d : PyData) : Bool := isTup d && ((kids d).all attrOk && decide (((kids d).map keyN).Nodup))
/-- a child, behind a text or not -/
def childOk (behind : Bool) (c : PyData) : Bool :=
  if isStr c then !behind && (!decide (strOf c = Str.empty) && isPlain c)
  else if begins c HOL then decide ((kids c).length = 2) && isWord (kid c 1)
  else begins c ELE
def childrenGo : Bool → List PyData → Bool
  | _, [] => true
  | b, c :: r => childOk b c && childrenGo (isStr c) r
def areChildren (d : PyData) : Bool := isTup d && childrenGo false (kids d)
inductive Item where
  | form | name | declarations | attributes | children
  deriving DecidableEq
def Item.str : Item → Str
  | .form => Str.ofString "form"
  | .name => Str.ofString "name"
  | .declarations => Str.ofString "declarations"
  | .attributes => Str.ofString "attributes"
  | .children => Str.ofString "children"
/-- the first item that is not as told -/
def itemOf (d : PyData) : Option Item :=
  if !begins d ELE || !decide ((kids d).length = 5) then some .form
  else if !isName (kid d 1) then some .name
  else if !areDecls (kid d 2) then some .declarations
  else if !areAttrs (kid d 3) then some .attributes
  else if !areChildren (kid d 4) then some .children
  else none
/-! ### the walk over elements -/
/-- the numbers and elements among the children, counted from i -/
def inside : Nat → List PyData → List (Nat × PyData)
  | _, [] => []
  | i, c :: r => if begins c ELE then (i, c) :: inside (i + 1) r else inside (i + 1) r
def elems (d : PyData) : List (Nat × PyData) := inside 0 (kids (kid d 4))
def holesOf : List PyData → List Str
  | [] => []
  | c :: r => if begins c HOL then strOf (kid c 1) :: holesOf r else holesOf r
def holesIn (d : PyData) : List Str := holesOf (kids (kid d 4))
abbrev Ent := List Nat × PyData
def below (p : List Nat) (d : PyData) : List Ent := (elems d).map fun e => (p ++ [e.1], e.2)
/-- the holes' strings one by one: words so far, the path of the first one told twice -/
def addHoles (p : List Nat) : List Str → List Str → Option (List Nat) → List Str × Option (List Nat)
  | [], w, t => (w, t)
  | h :: r, w, t => addHoles p r (w ++ [h]) (if h ∈ w then t.orElse fun _ => some p else t)
inductive Res where
  | item (i : Item) | hole
  deriving DecidableEq
def Res.str : Res → Str
  | .item i => i.str
  | .hole => HOL
/-- k elements may still come; the stack's top first -/
def walkF : Nat → List Ent → List Str → Option (List Nat) → Option (List Nat × Res)
  | _, [], _, t => t.map fun p => (p, .hole)
  | 0, (p, _) :: _, _, _ => some (p, .item .form)
  | k + 1, (p, d) :: st, w, t => if 8 ≤ p.length then some (p, .item .form) else match itemOf d with
    | some i => some (p, .item i)
    | none => walkF k (below p d ++ st) (addHoles p (holesIn d) w t).1 (addHoles p (holesIn d) w t).2
def fault (d : PyData) : Option (List Nat × Res) := walkF 60 [([], d)] [] none
/-- the elements in their order -/
def walkL : Nat → List Ent → List Ent
  | 0, _ => []
  | _, [] => []
  | k + 1, (p, d) :: st => (p, d) :: walkL k (below p d ++ st)
def elsOf (d : PyData) : List Ent := walkL 60 [([], d)]
/-- the stack comes to its end without a fault -/
def Good (k : Nat) (st : List Ent) : Prop := ∃ w, walkF k st w none = none
theorem addHoles_some (p q : List Nat) : ∀ (hs w : List Str), (addHoles p hs w (some q)).2 = some q
  | [], _ => rfl
  | h :: r, w => by
    show (addHoles p r (w ++ [h]) (if h ∈ w then some q else some q)).2 = some q
    rw [ite_self]
    exact addHoles_some p q r _
theorem walkF_some (q : List Nat) : ∀ (k : Nat) (st : List Ent) (w : List Str), walkF k st w (some q) ≠ none
  | 0, [], _ => by unfold walkF; simp
  | k + 1, [], _ => by unfold walkF; simp
  | 0, (p, d) :: st, w => by unfold walkF; simp
  | k + 1, (p, d) :: st, w => by
    unfold walkF
    split
    · simp
    · split
      · simp
      · rw [addHoles_some]
        exact walkF_some q k _ _
theorem Good.step {k : Nat} {p : List Nat} {d : PyData} {st : List Ent} (g : Good k ((p, d) :: st)) : ∃ j, k = j + 1 ∧ p.length < 8 ∧ itemOf d = none ∧ Good j (below p d ++ st) := by
  obtain ⟨w, h⟩ := g
  cases k with
  | zero => unfold walkF at h; cases h
  | succ j =>
    unfold walkF at h
    split at h
    · cases h
    · rename_i hl
      split at h
      · cases h
      · rename_i hi
        refine ⟨j, rfl, by omega, hi, ?_⟩
        cases e : (addHoles p (holesIn d) w none).2 with
        | none => exact ⟨_, by rw [e] at h; exact h⟩
        | some q =>
          rw [e] at h
          exact absurd h (walkF_some q _ _ _)
theorem good_of {d : PyData} (h : fault d = none) : Good 60 [([], d)] := ⟨[], h⟩
/-! ### what an element without a fault looks like -/
theorem itemOf_none {d : PyData} (h : itemOf d = none) : begins d ELE = true ∧ (kids d).length = 5 ∧ isName (kid d 1) = true ∧ areDecls (kid d 2) = true ∧ areAttrs (kid d 3) = true ∧ areChildren (kid d 4) = true := by
  unfold itemOf at h
  split at h
  · cases h
  rename_i h1
  split at h
  · cases h
  rename_i h2
  split at h
  · cases h
  rename_i h3
  split at h
  · cases h
  rename_i h4
  split at h
  · cases h
  rename_i h5
  simp only [Bool.or_eq_true, Bool.not_eq_true', decide_eq_false_iff_not, not_or, Bool.not_eq_false, Decidable.not_not] at h1 h2 h3 h4 h5
  exact ⟨h1.1, h1.2, h2, h3, h4, h5⟩
theorem isTup_kids {d : PyData} (h : isTup d = true) : d = .tuple (kids d) := by
  cases d with
  | tuple xs => rfl
  | _ => cases h
theorem begins_tup {d : PyData} {w : Str} (h : begins d w = true) : ∃ r, d = .tuple (.str w :: r) := by
  unfold begins at h
  split at h
  · rename_i s r
    exact ⟨r, by rw [of_decide_eq_true h]⟩
  · cases h
theorem begins_other {d : PyData} {v w : Str} (h : begins d v = true) (hn : v ≠ w) : begins d w = false := by
  obtain ⟨r, rfl⟩ := begins_tup h
  show decide (v = w) = false
  exact decide_eq_false hn
theorem ele_hol : ELE ≠ HOL := by decide +kernel
theorem isStr_of {d : PyData} (h : isStr d = true) : d = .str (strOf d) := by
  cases d with
  | str s => rfl
  | _ => cases h
theorem isOf_str {d : PyData} {s : Str} {a b : Nat} (h : isOf d s a b = true) : isStr d = true := by
  cases d with
  | str s => rfl
  | _ => cases h
end G
set_option maxHeartbeats 4000000
/-! the text by places, the slots, what the top leaves -/
namespace G
open PySem PySem.Spec PyProof.Rows L2
def top (i : Nat) : Stmt := PySem.Challenge.pw_prefixgraft_k02_whole_parts_spoilt_anywh.main.body.getD i (.Pass ⟨0, 0, 0, 0⟩)
abbrev sBadPart : Stmt := inClass (top 2) 0
abbrev sis_of : Stmt := top 21
abbrev sis_prefix : Stmt := top 22
abbrev sis_local : Stmt := top 23
abbrev sis_address : Stmt := top 24
abbrev sis_name : Stmt := top 25
abbrev sis_plain : Stmt := top 26
abbrev sis_word : Stmt := top 27
abbrev sis_pair : Stmt := top 28
abbrev sare_declarations : Stmt := top 29
abbrev sare_attributes : Stmt := top 30
abbrev sbegins_with : Stmt := top 31
abbrev sare_children : Stmt := top 32
abbrev sfault_of : Stmt := top 33
abbrev sneed_part : Stmt := top 34
abbrev schild_elements : Stmt := top 35
abbrev sholes_in : Stmt := top 36
abbrev squoted_in : Stmt := top 37
abbrev swalked : Stmt := top 38
abbrev sholes : Stmt := top 39
abbrev sprefixes_in : Stmt := top 40
abbrev sprefixes : Stmt := top 41
abbrev spaths : Stmt := top 42
abbrev s_law_mixed : Stmt := top 44
abbrev s_law_begin : Stmt := top 45
abbrev s_law_draw : Stmt := top 46
abbrev s_law_of : Stmt := top 47
abbrev s_law_prefix : Stmt := top 48
abbrev s_law_name : Stmt := top 49
abbrev s_law_declarations : Stmt := top 50
abbrev s_law_attributes : Stmt := top 51
abbrev s_law_element : Stmt := top 52
abbrev s_law_grown : Stmt := top 53
abbrev s_law_is_of : Stmt := top 54
abbrev s_law_is_word : Stmt := top 55
abbrev s_law_is_name : Stmt := top 56
abbrev s_law_are_pairs : Stmt := top 57
abbrev s_law_are_declarations : Stmt := top 58
abbrev s_law_is_plain : Stmt := top 59
abbrev s_law_are_attributes : Stmt := top 60
abbrev s_law_begins : Stmt := top 61
abbrev s_law_are_children : Stmt := top 62
abbrev s_law_item : Stmt := top 63
abbrev s_law_fault : Stmt := top 64
abbrev s_law_said : Stmt := top 65
abbrev s_law_odd : Stmt := top 66
abbrev s_law_spoilt : Stmt := top 67
abbrev s_law_names_in : Stmt := top 68
abbrev s_law_right : Stmt := top 69
abbrev slaw : Stmt := top 70
abbrev nis_of : List Str := ["thing", "signs", "least", "most", "sign"]
abbrev pis_of : List Str := ["thing", "signs", "least", "most"]
theorem scis_of : FnScope nis_of pis_of (defScope sis_of) := ⟨rfl, rfl, rfl, by decide +kernel, rfl, by decide +kernel, by decide +kernel⟩
abbrev nis_prefix : List Str := ["thing"]
abbrev pis_prefix : List Str := ["thing"]
theorem scis_prefix : FnScope nis_prefix pis_prefix (defScope sis_prefix) := ⟨rfl, rfl, rfl, by decide +kernel, rfl, by decide +kernel, by decide +kernel⟩
abbrev nis_local : List Str := ["thing"]
abbrev pis_local : List Str := ["thing"]
theorem scis_local : FnScope nis_local pis_local (defScope sis_local) := ⟨rfl, rfl, rfl, by decide +kernel, rfl, by decide +kernel, by decide +kernel⟩
abbrev nis_address : List Str := ["thing"]
abbrev pis_address : List Str := ["thing"]
theorem scis_address : FnScope nis_address pis_address (defScope sis_address) := ⟨rfl, rfl, rfl, by decide +kernel, rfl, by decide +kernel, by decide +kernel⟩
abbrev nis_name : List Str := ["thing"]
abbrev pis_name : List Str := ["thing"]
theorem scis_name : FnScope nis_name pis_name (defScope sis_name) := ⟨rfl, rfl, rfl, by decide +kernel, rfl, by decide +kernel, by decide +kernel⟩
abbrev nis_plain : List Str := ["thing"]
abbrev pis_plain : List Str := ["thing"]
theorem scis_plain : FnScope nis_plain pis_plain (defScope sis_plain) := ⟨rfl, rfl, rfl, by decide +kernel, rfl, by decide +kernel, by decide +kernel⟩
abbrev nis_word : List Str := ["thing"]
abbrev pis_word : List Str := ["thing"]
theorem scis_word : FnScope nis_word pis_word (defScope sis_word) := ⟨rfl, rfl, rfl, by decide +kernel, rfl, by decide +kernel, by decide +kernel⟩
abbrev nis_pair : List Str := ["thing"]
abbrev pis_pair : List Str := ["thing"]
theorem scis_pair : FnScope nis_pair pis_pair (defScope sis_pair) := ⟨rfl, rfl, rfl, by decide +kernel, rfl, by decide +kernel, by decide +kernel⟩
abbrev nare_declarations : List Str := ["thing", "seen", "pair"]
abbrev pare_declarations : List Str := ["thing"]
theorem scare_declarations : FnScope nare_declarations pare_declarations (defScope sare_declarations) := ⟨rfl, rfl, rfl, by decide +kernel, rfl, by decide +kernel, by decide +kernel⟩
abbrev nare_attributes : List Str := ["thing", "seen", "pair"]
abbrev pare_attributes : List Str := ["thing"]
theorem scare_attributes : FnScope nare_attributes pare_attributes (defScope sare_attributes) := ⟨rfl, rfl, rfl, by decide +kernel, rfl, by decide +kernel, by decide +kernel⟩
abbrev nbegins_with : List Str := ["thing", "word"]
abbrev pbegins_with : List Str := ["thing", "word"]
theorem scbegins_with : FnScope nbegins_with pbegins_with (defScope sbegins_with) := ⟨rfl, rfl, rfl, by decide +kernel, rfl, by decide +kernel, by decide +kernel⟩
abbrev nare_children : List Str := ["thing", "is_behind", "child", "is_text"]
abbrev pare_children : List Str := ["thing"]
theorem scare_children : FnScope nare_children pare_children (defScope sare_children) := ⟨rfl, rfl, rfl, by decide +kernel, rfl, by decide +kernel, by decide +kernel⟩
abbrev nfault_of : List Str := ["thing"]
abbrev pfault_of : List Str := ["thing"]
theorem scfault_of : FnScope nfault_of pfault_of (defScope sfault_of) := ⟨rfl, rfl, rfl, by decide +kernel, rfl, by decide +kernel, by decide +kernel⟩
abbrev nneed_part : List Str := ["thing", "left", "many", "seen", "twice", "path", "own", "item", "hole", "number", "child"]
abbrev pneed_part : List Str := ["thing"]
theorem scneed_part : FnScope nneed_part pneed_part (defScope sneed_part) := ⟨rfl, rfl, rfl, by decide +kernel, rfl, by decide +kernel, by decide +kernel⟩
abbrev nchild_elements : List Str := ["element", "number", "child"]
abbrev pchild_elements : List Str := ["element"]
theorem scchild_elements : FnScope nchild_elements pchild_elements (defScope schild_elements) := ⟨rfl, rfl, rfl, by decide +kernel, rfl, by decide +kernel, by decide +kernel⟩
abbrev nholes_in : List Str := ["element", "child"]
abbrev pholes_in : List Str := ["element"]
theorem scholes_in : FnScope nholes_in pholes_in (defScope sholes_in) := ⟨rfl, rfl, rfl, by decide +kernel, rfl, by decide +kernel, by decide +kernel⟩
abbrev nquoted_in : List Str := ["element", "name", "value"]
abbrev pquoted_in : List Str := ["element"]
theorem scquoted_in : FnScope nquoted_in pquoted_in (defScope squoted_in) := ⟨rfl, rfl, rfl, by decide +kernel, rfl, by decide +kernel, by decide +kernel⟩
abbrev nwalked : List Str := ["part", "found", "left", "path", "own", "number", "child"]
abbrev pwalked : List Str := ["part"]
theorem scwalked : FnScope nwalked pwalked (defScope swalked) := ⟨rfl, rfl, rfl, by decide +kernel, rfl, by decide +kernel, by decide +kernel⟩
abbrev nholes : List Str := ["part", "path", "own", "hole"]
abbrev pholes : List Str := ["part"]
theorem scholes : FnScope nholes pholes (defScope sholes) := ⟨rfl, rfl, rfl, by decide +kernel, rfl, by decide +kernel, by decide +kernel⟩
abbrev nprefixes_in : List Str := ["part", "found", "path", "own", "prefix", "address", "name", "value"]
abbrev pprefixes_in : List Str := ["part"]
theorem scprefixes_in : FnScope nprefixes_in pprefixes_in (defScope sprefixes_in) := ⟨rfl, rfl, rfl, by decide +kernel, rfl, by decide +kernel, by decide +kernel⟩
abbrev nprefixes : List Str := ["part"]
abbrev pprefixes : List Str := ["part"]
theorem scprefixes : FnScope nprefixes pprefixes (defScope sprefixes) := ⟨rfl, rfl, rfl, by decide +kernel, rfl, by decide +kernel, by decide +kernel⟩
abbrev npaths : List Str := ["part", "path", "own"]
abbrev ppaths : List Str := ["part"]
theorem scpaths : FnScope npaths ppaths (defScope spaths) := ⟨rfl, rfl, rfl, by decide +kernel, rfl, by decide +kernel, by decide +kernel⟩
abbrev n_law_mixed : List Str := ["cell", "k"]
abbrev p_law_mixed : List Str := ["cell", "k"]
theorem sc_law_mixed : FnScope n_law_mixed p_law_mixed (defScope s_law_mixed) := ⟨rfl, rfl, rfl, by decide +kernel, rfl, by decide +kernel, by decide +kernel⟩
abbrev n_law_begin : List Str := ["script", "cells", "cell"]
abbrev p_law_begin : List Str := ["script"]
theorem sc_law_begin : FnScope n_law_begin p_law_begin (defScope s_law_begin) := ⟨rfl, rfl, rfl, by decide +kernel, rfl, by decide +kernel, by decide +kernel⟩
abbrev n_law_draw : List Str := ["state", "many", "at", "place", "left", "number"]
abbrev p_law_draw : List Str := ["state", "many"]
theorem sc_law_draw : FnScope n_law_draw p_law_draw (defScope s_law_draw) := ⟨rfl, rfl, rfl, by decide +kernel, rfl, by decide +kernel, by decide +kernel⟩
abbrev n_law_of : List Str := ["state", "some"]
abbrev p_law_of : List Str := ["state", "some"]
theorem sc_law_of : FnScope n_law_of p_law_of (defScope s_law_of) := ⟨rfl, rfl, rfl, by decide +kernel, rfl, by decide +kernel, by decide +kernel⟩
abbrev n_law_prefix : List Str := ["state"]
abbrev p_law_prefix : List Str := ["state"]
theorem sc_law_prefix : FnScope n_law_prefix p_law_prefix (defScope s_law_prefix) := ⟨rfl, rfl, rfl, by decide +kernel, rfl, by decide +kernel, by decide +kernel⟩
abbrev n_law_name : List Str := ["state"]
abbrev p_law_name : List Str := ["state"]
theorem sc_law_name : FnScope n_law_name p_law_name (defScope s_law_name) := ⟨rfl, rfl, rfl, by decide +kernel, rfl, by decide +kernel, by decide +kernel⟩
abbrev n_law_declarations : List Str := ["state", "most", "found", "k", "prefix"]
abbrev p_law_declarations : List Str := ["state", "most"]
theorem sc_law_declarations : FnScope n_law_declarations p_law_declarations (defScope s_law_declarations) := ⟨rfl, rfl, rfl, by decide +kernel, rfl, by decide +kernel, by decide +kernel⟩
abbrev n_law_attributes : List Str := ["state", "most", "found", "k", "quoted", "name"]
abbrev p_law_attributes : List Str := ["state", "most"]
theorem sc_law_attributes : FnScope n_law_attributes p_law_attributes (defScope s_law_attributes) := ⟨rfl, rfl, rfl, by decide +kernel, rfl, by decide +kernel, by decide +kernel⟩
abbrev n_law_element : List Str := ["state", "deep", "most", "spare", "inside", "k", "way", "declarations", "attributes"]
abbrev p_law_element : List Str := ["state", "deep", "most", "spare"]
theorem sc_law_element : FnScope n_law_element p_law_element (defScope s_law_element) := ⟨rfl, rfl, rfl, by decide +kernel, rfl, by decide +kernel, by decide +kernel⟩
abbrev n_law_grown : List Str := ["state", "spare", "deep", "most"]
abbrev p_law_grown : List Str := ["state"]
theorem sc_law_grown : FnScope n_law_grown p_law_grown (defScope s_law_grown) := ⟨rfl, rfl, rfl, by decide +kernel, rfl, by decide +kernel, by decide +kernel⟩
abbrev n_law_is_of : List Str := ["thing", "signs", "low", "high", "sign"]
abbrev p_law_is_of : List Str := ["thing", "signs", "low", "high"]
theorem sc_law_is_of : FnScope n_law_is_of p_law_is_of (defScope s_law_is_of) := ⟨rfl, rfl, rfl, by decide +kernel, rfl, by decide +kernel, by decide +kernel⟩
abbrev n_law_is_word : List Str := ["thing", "low"]
abbrev p_law_is_word : List Str := ["thing", "low"]
theorem sc_law_is_word : FnScope n_law_is_word p_law_is_word (defScope s_law_is_word) := ⟨rfl, rfl, rfl, by decide +kernel, rfl, by decide +kernel, by decide +kernel⟩
abbrev n_law_is_name : List Str := ["thing"]
abbrev p_law_is_name : List Str := ["thing"]
theorem sc_law_is_name : FnScope n_law_is_name p_law_is_name (defScope s_law_is_name) := ⟨rfl, rfl, rfl, by decide +kernel, rfl, by decide +kernel, by decide +kernel⟩
abbrev n_law_are_pairs : List Str := ["thing", "is_first", "is_second", "pair", "firsts", "k"]
abbrev p_law_are_pairs : List Str := ["thing", "is_first", "is_second"]
theorem sc_law_are_pairs : FnScope n_law_are_pairs p_law_are_pairs (defScope s_law_are_pairs) := ⟨rfl, rfl, rfl, by decide +kernel, rfl, by decide +kernel, by decide +kernel⟩
abbrev n_law_are_declarations : List Str := ["thing", "signs"]
abbrev p_law_are_declarations : List Str := ["thing"]
theorem sc_law_are_declarations : FnScope n_law_are_declarations p_law_are_declarations (defScope s_law_are_declarations) := ⟨rfl, rfl, rfl, by decide +kernel, rfl, by decide +kernel, by decide +kernel⟩
abbrev n_law_is_plain : List Str := ["thing"]
abbrev p_law_is_plain : List Str := ["thing"]
theorem sc_law_is_plain : FnScope n_law_is_plain p_law_is_plain (defScope s_law_is_plain) := ⟨rfl, rfl, rfl, by decide +kernel, rfl, by decide +kernel, by decide +kernel⟩
abbrev n_law_are_attributes : List Str := ["thing"]
abbrev p_law_are_attributes : List Str := ["thing"]
theorem sc_law_are_attributes : FnScope n_law_are_attributes p_law_are_attributes (defScope s_law_are_attributes) := ⟨rfl, rfl, rfl, by decide +kernel, rfl, by decide +kernel, by decide +kernel⟩
abbrev n_law_begins : List Str := ["thing", "word"]
abbrev p_law_begins : List Str := ["thing", "word"]
theorem sc_law_begins : FnScope n_law_begins p_law_begins (defScope s_law_begins) := ⟨rfl, rfl, rfl, by decide +kernel, rfl, by decide +kernel, by decide +kernel⟩
abbrev n_law_are_children : List Str := ["thing", "last", "child"]
abbrev p_law_are_children : List Str := ["thing"]
theorem sc_law_are_children : FnScope n_law_are_children p_law_are_children (defScope s_law_are_children) := ⟨rfl, rfl, rfl, by decide +kernel, rfl, by decide +kernel, by decide +kernel⟩
abbrev n_law_item : List Str := ["thing", "rows"]
abbrev p_law_item : List Str := ["thing"]
theorem sc_law_item : FnScope n_law_item p_law_item (defScope s_law_item) := ⟨rfl, rfl, rfl, by decide +kernel, rfl, by decide +kernel, by decide +kernel⟩
abbrev n_law_fault : List Str := ["thing", "left", "many", "words", "twice", "path", "one", "item", "child", "inside", "k"]
abbrev p_law_fault : List Str := ["thing"]
theorem sc_law_fault : FnScope n_law_fault p_law_fault (defScope s_law_fault) := ⟨rfl, rfl, rfl, by decide +kernel, rfl, by decide +kernel, by decide +kernel⟩
abbrev n_law_said : List Str := ["call", "found", "caught", "e", "kinds"]
abbrev p_law_said : List Str := ["call"]
theorem sc_law_said : FnScope n_law_said p_law_said (defScope s_law_said) := ⟨rfl, rfl, rfl, by decide +kernel, rfl, by decide +kernel, by decide +kernel⟩
abbrev n_law_odd : List Str := ["state", "some"]
abbrev p_law_odd : List Str := ["state"]
theorem sc_law_odd : FnScope n_law_odd p_law_odd (defScope s_law_odd) := ⟨rfl, rfl, rfl, by decide +kernel, rfl, by decide +kernel, by decide +kernel⟩
abbrev n_law_spoilt : List Str := ["state", "thing", "at", "way"]
abbrev p_law_spoilt : List Str := ["state", "thing"]
theorem sc_law_spoilt : FnScope n_law_spoilt p_law_spoilt (defScope s_law_spoilt) := ⟨rfl, rfl, rfl, by decide +kernel, rfl, by decide +kernel, by decide +kernel⟩
abbrev n_law_names_in : List Str := ["part", "found", "words", "ways", "left", "path", "one", "names", "name", "value", "child", "inside", "k"]
abbrev p_law_names_in : List Str := ["part"]
theorem sc_law_names_in : FnScope n_law_names_in p_law_names_in (defScope s_law_names_in) := ⟨rfl, rfl, rfl, by decide +kernel, rfl, by decide +kernel, by decide +kernel⟩
abbrev n_law_right : List Str := ["thing", "wrong", "kept", "due", "path", "item", "one", "turn", "heard"]
abbrev p_law_right : List Str := ["thing"]
theorem sc_law_right : FnScope n_law_right p_law_right (defScope s_law_right) := ⟨rfl, rfl, rfl, by decide +kernel, rfl, by decide +kernel, by decide +kernel⟩
abbrev nlaw : List Str := ["script", "state", "turn", "part", "k", "thing", "one"]
abbrev plaw : List Str := ["script"]
theorem sclaw : FnScope nlaw plaw (defScope slaw) := ⟨rfl, rfl, rfl, by decide +kernel, rfl, by decide +kernel, by decide +kernel⟩
theorem scBadPart : FnScope ["self", "path", "item"] ["self", "path", "item"] (defScope sBadPart) := ⟨rfl, rfl, rfl, by decide +kernel, rfl, by decide +kernel, by decide +kernel⟩
/-- a def of the module: where it stands, how it binds -/
structure FnT (K : PySem.W.Frag) (mg : Str → Option Value) (x : Str) (st : Stmt) (ps : List Str) : Prop where
  ex : ∃ (f : Addr) (fd : FuncData), Fun K x x st f fd ∧ mg x = some (.ref f) ∧ Binds K fd ps []
/-- what the top has left -/
structure Txt (K : PySem.W.Frag) (mg : Str → Option Value) : Prop where
  fis_of : FnT K mg "is_of" sis_of pis_of
  fis_prefix : FnT K mg "is_prefix" sis_prefix pis_prefix
  fis_local : FnT K mg "is_local" sis_local pis_local
  fis_address : FnT K mg "is_address" sis_address pis_address
  fis_name : FnT K mg "is_name" sis_name pis_name
  fis_plain : FnT K mg "is_plain" sis_plain pis_plain
  fis_word : FnT K mg "is_word" sis_word pis_word
  fis_pair : FnT K mg "is_pair" sis_pair pis_pair
  fare_declarations : FnT K mg "are_declarations" sare_declarations pare_declarations
  fare_attributes : FnT K mg "are_attributes" sare_attributes pare_attributes
  fbegins_with : FnT K mg "begins_with" sbegins_with pbegins_with
  fare_children : FnT K mg "are_children" sare_children pare_children
  ffault_of : FnT K mg "fault_of" sfault_of pfault_of
  fneed_part : FnT K mg "need_part" sneed_part pneed_part
  fchild_elements : FnT K mg "child_elements" schild_elements pchild_elements
  fholes_in : FnT K mg "holes_in" sholes_in pholes_in
  fquoted_in : FnT K mg "quoted_in" squoted_in pquoted_in
  fwalked : FnT K mg "walked" swalked pwalked
  fholes : FnT K mg "holes" sholes pholes
  fprefixes_in : FnT K mg "prefixes_in" sprefixes_in pprefixes_in
  fprefixes : FnT K mg "prefixes" sprefixes pprefixes
  fpaths : FnT K mg "paths" spaths ppaths
  f_law_mixed : FnT K mg "_law_mixed" s_law_mixed p_law_mixed
  f_law_begin : FnT K mg "_law_begin" s_law_begin p_law_begin
  f_law_draw : FnT K mg "_law_draw" s_law_draw p_law_draw
  f_law_of : FnT K mg "_law_of" s_law_of p_law_of
  f_law_prefix : FnT K mg "_law_prefix" s_law_prefix p_law_prefix
  f_law_name : FnT K mg "_law_name" s_law_name p_law_name
  f_law_declarations : FnT K mg "_law_declarations" s_law_declarations p_law_declarations
  f_law_attributes : FnT K mg "_law_attributes" s_law_attributes p_law_attributes
  f_law_element : FnT K mg "_law_element" s_law_element p_law_element
  f_law_grown : FnT K mg "_law_grown" s_law_grown p_law_grown
  f_law_is_of : FnT K mg "_law_is_of" s_law_is_of p_law_is_of
  f_law_is_word : FnT K mg "_law_is_word" s_law_is_word p_law_is_word
  f_law_is_name : FnT K mg "_law_is_name" s_law_is_name p_law_is_name
  f_law_are_pairs : FnT K mg "_law_are_pairs" s_law_are_pairs p_law_are_pairs
  f_law_are_declarations : FnT K mg "_law_are_declarations" s_law_are_declarations p_law_are_declarations
  f_law_is_plain : FnT K mg "_law_is_plain" s_law_is_plain p_law_is_plain
  f_law_are_attributes : FnT K mg "_law_are_attributes" s_law_are_attributes p_law_are_attributes
  f_law_begins : FnT K mg "_law_begins" s_law_begins p_law_begins
  f_law_are_children : FnT K mg "_law_are_children" s_law_are_children p_law_are_children
  f_law_item : FnT K mg "_law_item" s_law_item p_law_item
  f_law_fault : FnT K mg "_law_fault" s_law_fault p_law_fault
  f_law_said : FnT K mg "_law_said" s_law_said p_law_said
  f_law_odd : FnT K mg "_law_odd" s_law_odd p_law_odd
  f_law_spoilt : FnT K mg "_law_spoilt" s_law_spoilt p_law_spoilt
  f_law_names_in : FnT K mg "_law_names_in" s_law_names_in p_law_names_in
  f_law_right : FnT K mg "_law_right" s_law_right p_law_right
  flaw : FnT K mg "law" slaw plaw
  b_isinstance : mg "isinstance" = none
  b_str : mg "str" = none
  b_tuple : mg "tuple" = none
  b_len : mg "len" = none
  b_all : mg "all" = none
  b_enumerate : mg "enumerate" = none
  b_set : mg "set" = none
  b_sorted : mg "sorted" = none
  b_int : mg "int" = none
  b_list : mg "list" = none
  b_dict : mg "dict" = none
  b_range : mg "range" = none
  b_repr : mg "repr" = none
  b_min : mg "min" = none
  c_LETTERS : ∃ t, mg "LETTERS" = some (.str LET t)
  c_ADDRESS_SIGNS : ∃ t, mg "ADDRESS_SIGNS" = some (.str ADR t)
  c_PLAIN_SIGNS : ∃ t, mg "PLAIN_SIGNS" = some (.str PLN t)
  c_BARRED : ∃ t, mg "BARRED" = some (.str BAR t)
  c_ELEMENT : ∃ t, mg "ELEMENT" = some (.str ELE t)
  c_HOLE : ∃ t, mg "HOLE" = some (.str HOL t)
  i_MOST_ELEMENTS : ∃ t, mg "MOST_ELEMENTS" = some (.int 60 t)
  i_MOST_LEVELS : ∃ t, mg "MOST_LEVELS" = some (.int 8 t)
  i_MOST_LETTERS : ∃ t, mg "MOST_LETTERS" = some (.int 8 t)
  i_MOST_PLAIN : ∃ t, mg "MOST_PLAIN" = some (.int 20 t)
end G
set_option maxHeartbeats 4000000
/-! data on the abstract heap; what evaluates to which datum -/
namespace G
open PySem PySem.Spec PyProof.Rows L2 Evl
mutual
/-- the value v is the datum d; none of its objects is one of B -/
inductive Den (B : Addr → Prop) (H : Hp) : V → PyData → Prop
  | non : Den B H .non .none
  | bl (b : Bool) : Den B H (.bl b) (.bool b)
  | int (i : Int) (h : i.natAbs < 10 ^ 39) : Den B H (.int i) (.int i)
  | str (s : Str) (h : s.length ≤ 1000) : Den B H (.str s) (.str s)
  | tup {a : Addr} {xs : List V} {ds : List PyData} (n : xs.length ≤ 100000) : H a = some (.tup xs) → ¬ B a → Dens B H xs ds → Den B H (.ref a) (.tuple ds)
  | lst {a : Addr} {xs : List V} {ds : List PyData} (n : xs.length ≤ 100000) : H a = some (.lst xs) → ¬ B a → Dens B H xs ds → Den B H (.ref a) (.list ds)
  | dic {a : Addr} : H a = some (.dK []) → ¬ B a → Den B H (.ref a) (.dict [])
inductive Dens (B : Addr → Prop) (H : Hp) : List V → List PyData → Prop
  | nil : Dens B H [] []
  | cons {v : V} {vs : List V} {d : PyData} {ds : List PyData} : Den B H v d → Dens B H vs ds → Dens B H (v :: vs) (d :: ds)
end
section
variable {B B' : Addr → Prop} {H H' : Hp}
mutual
theorem Den.keep' {v : V} {d : PyData} (k : ∀ b o, H b = some o → ¬ B b → H' b = some o ∧ ¬ B' b) : Den B H v d → Den B' H' v d
  | .non => .non
  | .bl b => .bl b
  | .int i h => .int i h
  | .str s h => .str s h
  | .tup l h n r => .tup l (k _ _ h n).1 (k _ _ h n).2 (Dens.keep' k r)
  | .lst l h n r => .lst l (k _ _ h n).1 (k _ _ h n).2 (Dens.keep' k r)
  | .dic h n => .dic (k _ _ h n).1 (k _ _ h n).2
theorem Dens.keep' {vs : List V} {ds : List PyData} (k : ∀ b o, H b = some o → ¬ B b → H' b = some o ∧ ¬ B' b) : Dens B H vs ds → Dens B' H' vs ds
  | .nil => .nil
  | .cons a r => .cons (Den.keep' k a) (Dens.keep' k r)
end
/-- what stands but for B stays -/
structure Kp (B : Addr → Prop) (H H' : Hp) : Prop where
  keep : ∀ b o, H b = some o → ¬ B b → H' b = some o
  dom : ∀ b, H' b = none → H b = none
theorem Kp.refl (H : Hp) : Kp B H H := ⟨fun _ _ h _ => h, fun _ h => h⟩
theorem Kp.trans {H1 H2 : Hp} (a : Kp B H H1) (b : Kp B H1 H2) : Kp B H H2 := ⟨fun c o h n => b.keep c o (a.keep c o h n) n, fun c h => a.dom c (b.dom c h)⟩
theorem Kp.of (e : Ex H H') : Kp B H H' := ⟨fun b o h _ => e b o h, fun b h => by
  cases q : H b with
  | none => rfl
  | some o => rw [e b o q] at h; cases h⟩
theorem Kp.le (a : Kp B H H') (h : ∀ b, B b → B' b) : Kp B' H H' := ⟨fun b o q n => a.keep b o q fun z => n (h b z), a.dom⟩
theorem Kp.new {p : Addr} {o : HO} (a : Kp B H H') (h : H' p = none) : Kp B H (upd H' p o) := a.trans (.of (Ex.new h))
/-- a bad object is changed -/
theorem Kp.wr {p : Addr} {o : HO} (a : Kp B H H') (h : B p) : Kp B H (upd H' p o) := ⟨fun b u q n => by
    rw [upd_ne (fun z => n (by rw [z]; exact h))]; exact a.keep b u q n, fun b q => by
    by_cases hb : b = p
    · rw [hb, upd_same] at q; cases q
    · rw [upd_ne hb] at q; exact a.dom b q⟩
/-- an object that H does not know is changed -/
theorem Kp.mut {p : Addr} {o : HO} (a : Kp B H H') (h : H p = none) : Kp B H (upd H' p o) := ⟨fun b u q n => by
    rw [upd_ne (ne_of_none q h)]; exact a.keep b u q n, fun b q => by
    by_cases hb : b = p
    · rw [hb]; exact h
    · rw [upd_ne hb] at q; exact a.dom b q⟩
theorem Den.kp {v : V} {d : PyData} (k : Kp B H H') (h : Den B H v d) : Den B H' v d := h.keep' fun b o q n => ⟨k.keep b o q n, n⟩
theorem Dens.kp {vs : List V} {ds : List PyData} (k : Kp B H H') (h : Dens B H vs ds) : Dens B H' vs ds := h.keep' fun b o q n => ⟨k.keep b o q n, n⟩
theorem Den.ex {v : V} {d : PyData} (k : Ex H H') (h : Den B H v d) : Den B H' v d := h.kp (.of k)
theorem Dens.ex {vs : List V} {ds : List PyData} (k : Ex H H') (h : Dens B H vs ds) : Dens B H' vs ds := h.kp (.of k)
/-- the bad ones are tracked -/
def BOk (B : Addr → Prop) (H : Hp) : Prop := ∀ b, B b → H b ≠ none
theorem BOk.kp (k : Kp B' H H') (h : BOk B H) : BOk B H' := fun b q z => h b q (k.dom b z)
theorem BOk.ex (k : Ex H H') (h : BOk B H) : BOk B H' := BOk.kp (B' := B) (.of k) h
theorem BOk.new {p : Addr} (h : BOk B H) (n : H p = none) : ¬ B p := fun z => h p z n
theorem Dens.length {vs : List V} {ds : List PyData} : Dens B H vs ds → vs.length = ds.length
  | .nil => rfl
  | .cons _ r => congrArg Nat.succ (Dens.length r)
theorem Dens.get {vs : List V} {ds : List PyData} {i : Nat} {d : PyData} (h : Dens B H vs ds) (e : ds[i]? = some d) : ∃ v, vs[i]? = some v ∧ Den B H v d := by
  induction i generalizing vs ds with
  | zero => cases h with
    | nil => simp at e
    | cons a r => simp at e; subst e; exact ⟨_, rfl, a⟩
  | succ i ih => cases h with
    | nil => simp at e
    | cons a r => obtain ⟨v, h1, h2⟩ := ih r (by simpa using e); exact ⟨v, by simpa using h1, h2⟩
theorem Dens.get' {vs : List V} {ds : List PyData} {i : Nat} {v : V} (h : Dens B H vs ds) (e : vs[i]? = some v) : ∃ d, ds[i]? = some d ∧ Den B H v d := by
  have hl := h.length
  have hi : i < ds.length := by rw [← hl]; exact (List.getElem?_eq_some_iff.mp e).1
  obtain ⟨v', h1, h2⟩ := h.get (List.getElem?_eq_getElem hi)
  rw [e] at h1; cases h1
  exact ⟨_, List.getElem?_eq_getElem hi, h2⟩
theorem Dens.append {vs ws : List V} {ds es : List PyData} (a : Dens B H vs ds) (b : Dens B H ws es) : Dens B H (vs ++ ws) (ds ++ es) := by
  induction vs generalizing ds with
  | nil => cases a; exact b
  | cons x r ih => cases a with
    | cons h t => exact .cons h (ih t)
theorem Dens.take {vs : List V} {ds : List PyData} (n : Nat) (a : Dens B H vs ds) : Dens B H (vs.take n) (ds.take n) := by
  induction n generalizing vs ds with
  | zero => exact .nil
  | succ n ih => cases a with
    | nil => exact .nil
    | cons h t => exact .cons h (ih t)
theorem Dens.drop {vs : List V} {ds : List PyData} (n : Nat) (a : Dens B H vs ds) : Dens B H (vs.drop n) (ds.drop n) := by
  induction n generalizing vs ds with
  | zero => exact a
  | succ n ih => cases a with
    | nil => exact .nil
    | cons h t => exact ih t
theorem Dens.reverse {vs : List V} {ds : List PyData} (a : Dens B H vs ds) : Dens B H vs.reverse ds.reverse := by
  induction vs generalizing ds with
  | nil => cases a; exact .nil
  | cons x r ih => cases a with
    | cons h t => rw [List.reverse_cons, List.reverse_cons]; exact (ih t).append (.cons h .nil)
theorem Dens.one {v : V} {ds : List PyData} (h : Dens B H [v] ds) : ∃ d, ds = [d] ∧ Den B H v d := by
  cases h with
  | cons a r => cases r; exact ⟨_, rfl, a⟩
theorem Dens.two {v u : V} {ds : List PyData} (h : Dens B H [v, u] ds) : ∃ d e, ds = [d, e] ∧ Den B H v d ∧ Den B H u e := by
  cases h with
  | cons a r =>
    obtain ⟨e, rfl, q⟩ := r.one
    exact ⟨_, _, rfl, a, q⟩
theorem Dens.two' {vs : List V} {d e : PyData} (h : Dens B H vs [d, e]) : ∃ v u, vs = [v, u] ∧ Den B H v d ∧ Den B H u e := by
  cases h with
  | cons a r => cases r with
    | cons b t => cases t; exact ⟨_, _, rfl, a, b⟩
theorem Dens.cons' {vs : List V} {d : PyData} {ds : List PyData} (h : Dens B H vs (d :: ds)) : ∃ v r, vs = v :: r ∧ Den B H v d ∧ Dens B H r ds := by
  cases h with
  | cons a r => exact ⟨_, _, rfl, a, r⟩
theorem Dens.one' {vs : List V} {d : PyData} (h : Dens B H vs [d]) : ∃ v, vs = [v] ∧ Den B H v d := by
  cases h with
  | cons a r => cases r; exact ⟨_, rfl, a⟩
theorem dens_strs : ∀ ss : List Str, (∀ s ∈ ss, s.length ≤ 1000) → Dens B H (ss.map V.str) (ss.map PyData.str)
  | [], _ => .nil
  | s :: r, h => .cons (.str s (h s (List.mem_cons_self ..))) (dens_strs r fun z hz => h z (List.mem_cons_of_mem _ hz))
theorem dens_ints : ∀ ss : List Int, (∀ i ∈ ss, i.natAbs < 10 ^ 39) → Dens B H (ss.map V.int) (ss.map PyData.int)
  | [], _ => .nil
  | s :: r, h => .cons (.int s (h s (List.mem_cons_self ..))) (dens_ints r fun z hz => h z (List.mem_cons_of_mem _ hz))
theorem Den.len {v : V} {s : Str} (h : Den B H v (.str s)) : s.length ≤ 1000 := by cases h; assumption
theorem Den.lenI {v : V} {i : Int} (h : Den B H v (.int i)) : i.natAbs < 10 ^ 39 := by cases h; assumption
theorem Den.lenT {v : V} {ds : List PyData} (h : Den B H v (.tuple ds)) : ds.length ≤ 100000 := by
  cases h with
  | tup l _ _ r => rw [← r.length]; exact l
theorem Den.lenL {v : V} {ds : List PyData} (h : Den B H v (.list ds)) : ds.length ≤ 100000 := by
  cases h with
  | lst l _ _ r => rw [← r.length]; exact l
theorem Den.str' {v : V} {s : Str} (h : Den B H v (.str s)) : v = .str s := by cases h; rfl
theorem Den.int' {v : V} {i : Int} (h : Den B H v (.int i)) : v = .int i := by cases h; rfl
theorem Den.bl' {v : V} {b : Bool} (h : Den B H v (.bool b)) : v = .bl b := by cases h; rfl
theorem Den.non' {v : V} (h : Den B H v .none) : v = .non := by cases h; rfl
theorem Den.tup' {v : V} {ds : List PyData} (h : Den B H v (.tuple ds)) : ∃ a xs, v = .ref a ∧ H a = some (.tup xs) ∧ ¬ B a ∧ Dens B H xs ds := by
  cases h with
  | tup _ a n r => exact ⟨_, _, rfl, a, n, r⟩
theorem Den.lst' {v : V} {ds : List PyData} (h : Den B H v (.list ds)) : ∃ a xs, v = .ref a ∧ H a = some (.lst xs) ∧ ¬ B a ∧ Dens B H xs ds := by
  cases h with
  | lst _ a n r => exact ⟨_, _, rfl, a, n, r⟩
theorem dens_str' {vs : List V} {ss : List Str} (h : Dens B H vs (ss.map PyData.str)) : vs = ss.map V.str := by
  induction ss generalizing vs with
  | nil => cases h; rfl
  | cons s r ih => cases h with
    | cons a t => rw [a.str', ih t]; rfl
theorem dens_bl' {vs : List V} {ss : List Bool} (h : Dens B H vs (ss.map PyData.bool)) : vs = ss.map V.bl := by
  induction ss generalizing vs with
  | nil => cases h; rfl
  | cons s r ih => cases h with
    | cons a t => rw [a.bl', ih t]; rfl
end
/-! ### the type of a datum, for isinstance -/
def tyName : PyData → String
  | .none => "NoneType"
  | .bool _ => "bool"
  | .int _ => "int"
  | .str _ => "str"
  | .list _ => "list"
  | .tuple _ => "tuple"
  | .dict _ => "dict"
theorem Den.ty {K : PySem.W.Frag} {B : Addr → Prop} {H : Hp} {v : V} {d : PyData} (h : Den B H v d) : TyX K H v (.type (tyName d)) := by
  cases h with
  | non => exact .base .non
  | bl b => exact .base (.bl b)
  | int i _ => exact .base (.int i)
  | str s _ => exact .base (.str s)
  | tup _ h _ _ => exact .base (.tup h)
  | lst _ h _ _ => exact .base (.lst h)
  | dic h _ => exact .base (.dK h)
theorem kitStr : ∀ d : PyData, kitB (tyName d) "str" = some (isStr d)
  | .none => by show kitB "NoneType" "str" = some false; decide +kernel
  | .bool _ => by show kitB "bool" "str" = some false; decide +kernel
  | .int _ => by show kitB "int" "str" = some false; decide +kernel
  | .str _ => by show kitB "str" "str" = some true; decide +kernel
  | .list _ => by show kitB "list" "str" = some false; decide +kernel
  | .tuple _ => by show kitB "tuple" "str" = some false; decide +kernel
  | .dict _ => by show kitB "dict" "str" = some false; decide +kernel
theorem kitTup : ∀ d : PyData, kitB (tyName d) "tuple" = some (isTup d)
  | .none => by show kitB "NoneType" "tuple" = some false; decide +kernel
  | .bool _ => by show kitB "bool" "tuple" = some false; decide +kernel
  | .int _ => by show kitB "int" "tuple" = some false; decide +kernel
  | .str _ => by show kitB "str" "tuple" = some false; decide +kernel
  | .list _ => by show kitB "list" "tuple" = some false; decide +kernel
  | .tuple _ => by show kitB "tuple" "tuple" = some true; decide +kernel
  | .dict _ => by show kitB "dict" "tuple" = some false; decide +kernel
def isNon : PyData → Bool
  | .none => true
  | _ => false
theorem Den.isNon {B : Addr → Prop} {H : Hp} {v : V} {d : PyData} (h : Den B H v d) : decide (v = .non) = isNon d := by
  cases h <;> rfl
/-! ### what evaluates to which datum -/
section
variable {K : PySem.W.Frag} {B : Addr → Prop} {σ : L2.St} {H H' : Hp} {ta tb te tc : TE} {t u : TT} {d e f : PyData}
def EvD (B : Addr → Prop) (te : TE) (σ : L2.St) (H : Hp) (d : PyData) : Prop := ∀ H1, Ex H H1 → ∀ Q : VK, (∀ v H2, Ex H1 H2 → Den B H2 v d → Q v H2) → te σ H1 Q
def EvAD (B : Addr → Prop) (ta : TA) (σ : L2.St) (H : Hp) (ds : List PyData) : Prop := ∀ H1, Ex H H1 → ∀ Q : List V → Hp → Prop, (∀ vs H2, Ex H1 H2 → Dens B H2 vs ds → Q vs H2) → ta σ H1 Q
/-- an operation on data -/
def RD (B : Addr → Prop) (r : R2) (d e f : PyData) (H : Hp) : Prop := ∀ H1, Ex H H1 → ∀ v u, Den B H1 v d → Den B H1 u e → ∀ Q : VK, (∀ z H2, Ex H1 H2 → Den B H2 z f → Q z H2) → r v u H1 Q
def RCD (B : Addr → Prop) (r : List V → Hp → VK → Prop) (ds : List PyData) (f : PyData) (H : Hp) : Prop := ∀ H1, Ex H H1 → ∀ vs, Dens B H1 vs ds → ∀ Q : VK, (∀ z H2, Ex H1 H2 → Den B H2 z f → Q z H2) → r vs H1 Q
theorem EvD.mono (x : Ex H H') (h : EvD B te σ H d) : EvD B te σ H' d := fun H1 a Q q => h H1 (x.trans a) Q q
theorem EvAD.mono {ta : TA} {ds : List PyData} (x : Ex H H') (h : EvAD B ta σ H ds) : EvAD B ta σ H' ds := fun H1 a Q q => h H1 (x.trans a) Q q
theorem vd_var {i : Nat} {v : V} (h : σ[i]? = some (some v)) (hd : Den B H v d) : EvD B (tVar i) σ H d := fun H1 x Q q => ⟨v, h, q v H1 (Ex.refl H1) (hd.ex x)⟩
theorem vd_c {v : V} (hd : ∀ H, Den B H v d) : EvD B (tC v) σ H d := fun H1 x Q q => q v H1 (Ex.refl H1) (hd H1)
theorem vd_str {s : Str} (h : s.length ≤ 1000 := by decide +kernel) : EvD B (tC (.str s)) σ H (.str s) := vd_c fun _ => .str s h
theorem vd_int {i : Int} (h : i.natAbs < 10 ^ 39 := by decide +kernel) : EvD B (tC (.int i)) σ H (.int i) := vd_c fun _ => .int i h
theorem vd_bl {b : Bool} : EvD B (tC (.bl b)) σ H (.bool b) := vd_c fun _ => .bl b
theorem vd_non : EvD B (tC .non) σ H .none := vd_c fun _ => .non
theorem vd_op {r : R2} (ha : EvD B ta σ H d) (hb : EvD B tb σ H e) (hr : RD B r d e f H) : EvD B (tOp r ta tb) σ H f := fun H1 x Q q =>
  ha H1 x _ fun v H2 x2 dv => hb H2 (x.trans x2) _ fun u H3 x3 du => hr H3 ((x.trans x2).trans x3) v u (dv.ex x3) du Q fun z H4 x4 dz => q z H4 ((x2.trans x3).trans x4) dz
theorem vd_cb {r : List V → Hp → VK → Prop} {ta : TA} {ds : List PyData} (ha : EvAD B ta σ H ds) (hr : RCD B r ds f H) : EvD B (tCB r ta) σ H f := fun H1 x Q q =>
  ha H1 x _ fun vs H2 x2 dv => hr H2 (x.trans x2) vs dv Q fun z H3 x3 dz => q z H3 (x2.trans x3) dz
theorem va_nil : EvAD B tNil σ H [] := fun H1 x Q q => q [] H1 (Ex.refl H1) .nil
theorem va_cons {tr : TA} {ds : List PyData} (h : EvD B te σ H d) (hr : EvAD B tr σ H ds) : EvAD B (tCons te tr) σ H (d :: ds) := fun H1 x Q q =>
  h H1 x _ fun v H2 x2 dv => hr H2 (x.trans x2) _ fun vs H3 x3 dvs => q (v :: vs) H3 (x2.trans x3) (.cons (dv.ex x3) dvs)
theorem vt_test {b : Bool} (h : EvD B te σ H (.bool b)) : EvT (tTest te) σ H b := fun H1 x Q q => h H1 x _ fun v H2 x2 dv => ⟨b, dv.bl', q H2 x2⟩
theorem vt_B {b : Bool} (h : EvD B te σ H (.bool b)) : EvT (tB te) σ H b := fun H1 x Q q => h H1 x _ fun v H2 x2 dv => ⟨b, dv.bl', q H2 x2⟩
theorem vd_andV {a b : Bool} (h1 : EvD B ta σ H (.bool a)) (h2 : a = true → EvD B tb σ H (.bool b)) : EvD B (tAndV ta tb) σ H (.bool (a && b)) := fun H1 x Q q => h1 H1 x _ fun v H2 x2 dv => ⟨a, dv.bl', by
  cases a with
  | true => exact iteT (h2 rfl H2 (x.trans x2) _ fun u H3 x3 du => q u H3 (x2.trans x3) du)
  | false => exact iteF (q _ H2 x2 (.bl false))⟩
theorem vd_orV {a b : Bool} (h1 : EvD B ta σ H (.bool a)) (h2 : a = false → EvD B tb σ H (.bool b)) : EvD B (tOrV ta tb) σ H (.bool (a || b)) := fun H1 x Q q => h1 H1 x _ fun v H2 x2 dv => ⟨a, dv.bl', by
  cases a with
  | false => exact iteF (h2 rfl H2 (x.trans x2) _ fun u H3 x3 du => q u H3 (x2.trans x3) du)
  | true => exact iteT (q _ H2 x2 (.bl true))⟩
theorem vd_notV {a : Bool} (h1 : EvD B ta σ H (.bool a)) : EvD B (tNotV ta) σ H (.bool (!a)) := fun H1 x Q q => h1 H1 x _ fun v H2 x2 dv => ⟨a, dv.bl', q _ H2 x2 (.bl (!a))⟩
theorem vd_if {b : Bool} (h : EvT t σ H b) (h1 : b = true → EvD B ta σ H d) (h2 : b = false → EvD B tb σ H d) : EvD B (tIf t ta tb) σ H d := fun H1 x Q q => h H1 x _ fun H2 x2 => by
  cases b with
  | true => exact iteT (h1 rfl H2 (x.trans x2) _ fun u H3 x3 du => q u H3 (x2.trans x3) du)
  | false => exact iteF (h2 rfl H2 (x.trans x2) _ fun u H3 x3 du => q u H3 (x2.trans x3) du)
theorem vd_is {d' : PyData} (h : EvD B te σ H d) (x : d = d') : EvD B te σ H d' := by rw [← x]; exact h
theorem vd_tup {ta : TA} {ds : List PyData} (hB : BOk B H) (h : EvAD B ta σ H ds) (hl : ds.length ≤ 100000) : EvD B (tTup ta) σ H (.tuple ds) := fun H1 x Q q => h H1 x _ fun vs H2 x2 dv =>
  ⟨by rw [dv.length]; exact sz_of hl, fun p hp => q _ _ (x2.trans (Ex.new hp)) (.tup (by rw [dv.length]; exact hl) upd_same ((hB.ex (x.trans x2)).new hp) (dv.ex (Ex.new hp)))⟩
theorem vd_lst {ta : TA} {ds : List PyData} (hB : BOk B H) (h : EvAD B ta σ H ds) (hl : ds.length ≤ 100000) : EvD B (tLst ta) σ H (.list ds) := fun H1 x Q q => h H1 x _ fun vs H2 x2 dv =>
  ⟨by rw [dv.length]; exact sz_of hl, fun p hp => q _ _ (x2.trans (Ex.new hp)) (.lst (by rw [dv.length]; exact hl) upd_same ((hB.ex (x.trans x2)).new hp) (dv.ex (Ex.new hp)))⟩
/-! operations -/
theorem rd_isStr : RCD B (fun xs H Q => rIsi K (xs ++ [.ty "str"]) H Q) [d] (.bool (isStr d)) H := fun H1 x vs dv Q q => by
  obtain ⟨v, rfl, h⟩ := dv.one'
  exact ⟨v, .ty "str", _, _, _, rfl, .ty "str", h.ty, kit_ty (kitStr d), q _ H1 (Ex.refl H1) (.bl _)⟩
theorem vd_isStr (h : EvD B te σ H d) : EvD B (tCB (rIsi K) (tCons te (tCons (tC (.ty "str")) tNil))) σ H (.bool (isStr d)) := fun H1 x Q q => h H1 x _ fun v H2 x2 dv =>
  ⟨v, .ty "str", _, _, _, rfl, .ty "str", dv.ty, kit_ty (kitStr d), q _ H2 x2 (.bl _)⟩
theorem vd_isTup (h : EvD B te σ H d) : EvD B (tCB (rIsi K) (tCons te (tCons (tC (.ty "tuple")) tNil))) σ H (.bool (isTup d)) := fun H1 x Q q => h H1 x _ fun v H2 x2 dv =>
  ⟨v, .ty "tuple", _, _, _, rfl, .ty "tuple", dv.ty, kit_ty (kitTup d), q _ H2 x2 (.bl _)⟩
theorem rd_eqS {s z : Str} : RD B rEq (.str s) (.str z) (.bool (decide (s = z))) H := fun H1 x v u dv du Q q => by
  rw [dv.str', du.str']
  refine ⟨rfl, ?_⟩
  have e : decide (V.str s = V.str z) = decide (s = z) := by
    by_cases h : s = z
    · subst h; simp
    · rw [decide_eq_false h]; exact decide_eq_false fun q => h (V.str.inj q)
  rw [e]
  exact q _ H1 (Ex.refl H1) (.bl _)
theorem rd_neS {s z : Str} : RD B rNe (.str s) (.str z) (.bool (!decide (s = z))) H := fun H1 x v u dv du Q q => by
  rw [dv.str', du.str']
  refine ⟨rfl, ?_⟩
  have e : decide (V.str s = V.str z) = decide (s = z) := by
    by_cases h : s = z
    · subst h; simp
    · rw [decide_eq_false h]; exact decide_eq_false fun q => h (V.str.inj q)
  rw [e]
  exact q _ H1 (Ex.refl H1) (.bl _)
theorem rd_I0B {g : Int → Int → Bool} {i j : Int} : RD B (rI0 fun i j => .bl (g i j)) (.int i) (.int j) (.bool (g i j)) H := fun H1 x v u dv du Q q => by
  rw [dv.int', du.int']
  exact ⟨i, j, rfl, rfl, q _ H1 (Ex.refl H1) (.bl _)⟩
theorem rd_I0 {g : Int → Int → Int} {i j : Int} (hb : (g i j).natAbs < 10 ^ 39) : RD B (rI0 fun i j => .int (g i j)) (.int i) (.int j) (.int (g i j)) H := fun H1 x v u dv du Q q => by
  rw [dv.int', du.int']
  exact ⟨i, j, rfl, rfl, q _ H1 (Ex.refl H1) (.int _ hb)⟩
theorem rd_eqI {i j : Int} : RD B rEq (.int i) (.int j) (.bool (decide (i = j))) H := fun H1 x v u dv du Q q => by
  rw [dv.int', du.int']
  refine ⟨rfl, ?_⟩
  rw [dec_int, Bool.beq_eq_decide_eq]
  exact q _ H1 (Ex.refl H1) (.bl _)
theorem rd_neI {i j : Int} : RD B rNe (.int i) (.int j) (.bool (!decide (i = j))) H := fun H1 x v u dv du Q q => by
  rw [dv.int', du.int']
  refine ⟨rfl, ?_⟩
  rw [dec_int, Bool.beq_eq_decide_eq]
  exact q _ H1 (Ex.refl H1) (.bl _)
theorem rd_isN : RD B (fun x y H Q => y = .non ∧ Q (.bl (decide (x = .non))) H) d .none (.bool (isNon d)) H := fun H1 x v u dv du Q q => by
  refine ⟨du.non', ?_⟩
  rw [dv.isNon]
  exact q _ H1 (Ex.refl H1) (.bl _)
theorem rd_notN : RD B (fun x y H Q => y = .non ∧ Q (.bl (!decide (x = .non))) H) d .none (.bool (!isNon d)) H := fun H1 x v u dv du Q q => by
  refine ⟨du.non', ?_⟩
  rw [dv.isNon]
  exact q _ H1 (Ex.refl H1) (.bl _)
/-- t[i], i written -/
theorem rd_ixT {ds : List PyData} {i : Nat} {j : Int} (hj : j = (i : Int)) (h : ds[i]? = some d) : RD B (rIxT K) (.tuple ds) (.int j) d H := fun H1 x v u dv du Q q => by
  obtain ⟨a, xs, rfl, ha, _, r⟩ := dv.tup'
  rw [du.int']
  obtain ⟨z, hz, dz⟩ := r.get h
  exact ⟨a, xs, j, z, rfl, rfl, SqT.of ha, at_of hj hz, q z H1 (Ex.refl H1) dz⟩
theorem fit_nat {n : Nat} (h : n ≤ 100000) : ((n : Nat) : Int).natAbs < 10 ^ 39 := by
  rw [Int.natAbs_natCast]
  exact Nat.lt_of_le_of_lt h (by decide)
theorem rd_lenT {ds : List PyData} : RCD B (rLenS K) [.tuple ds] (.int ds.length) H := fun H1 x vs dv Q q => by
  obtain ⟨v, rfl, h⟩ := dv.one'
  have hl := h.lenT
  obtain ⟨a, xs, rfl, ha, _, r⟩ := h.tup'
  refine ⟨a, xs, rfl, .inr (SqT.of ha), ?_⟩
  rw [r.length]
  exact q _ H1 (Ex.refl H1) (.int _ (fit_nat hl))
theorem rd_lenL {ds : List PyData} : RCD B (rLenS K) [.list ds] (.int ds.length) H := fun H1 x vs dv Q q => by
  obtain ⟨v, rfl, h⟩ := dv.one'
  have hl := h.lenL
  obtain ⟨a, xs, rfl, ha, _, r⟩ := h.lst'
  refine ⟨a, xs, rfl, .inl (SqL.of ha), ?_⟩
  rw [r.length]
  exact q _ H1 (Ex.refl H1) (.int _ (fit_nat hl))
/-- len of a sequence or of a text -/
def rLenX (K : PySem.W.Frag) : List V → Hp → VK → Prop := fun xs H Q => rLenS K xs H Q ∨ ∃ z, xs = [V.str z] ∧ z.length ≤ sizeLine ∧ Q (.int z.length) H
theorem call_lenX {X : Cx} : CallR X (.builtin "len") (rLenX X.K) := call_len_seq.or call_len_str
theorem rd_lenS {s : Str} : RCD B (rLenX K) [.str s] (.int s.length) H := fun H1 x vs dv Q q => by
  obtain ⟨v, rfl, h⟩ := dv.one'
  have hl := h.len
  rw [h.str']
  exact .inr ⟨s, rfl, sz_of (by omega), q _ H1 (Ex.refl H1) (.int _ (fit_nat (by omega)))⟩
/-- the length of a datum that has one -/
def dlen : PyData → Nat
  | .str s => s.length
  | .tuple ds => ds.length
  | .list ds => ds.length
  | _ => 0
def hasLen : PyData → Bool
  | .str _ => true
  | .tuple _ => true
  | .list _ => true
  | _ => false
theorem rd_len (h : hasLen d = true) : RCD B (rLenX K) [d] (.int (dlen d)) H := fun H1 x vs dv Q q => by
  cases d with
  | str s => exact rd_lenS H1 x vs dv Q q
  | tuple ds => exact .inl (rd_lenT H1 x vs dv Q q)
  | list ds => exact .inl (rd_lenL H1 x vs dv Q q)
  | _ => cases h
/-- a < b < c and its kind -/
theorem vd_chain {r r' : R2} {a b : Bool} {d1 d2 d3 : PyData} (ha : EvD B ta σ H d1) (hb : EvD B tb σ H d2) (hc : a = true → EvD B tc σ H d3) (h1 : RD B r d1 d2 (.bool a) H) (h2 : RD B r' d2 d3 (.bool b) H) : EvD B (tChain r r' ta tb tc) σ H (.bool (a && b)) := fun H1 x Q q =>
  ha H1 x _ fun v H2 x2 dv => hb H2 (x.trans x2) _ fun u H3 x3 du => h1 H3 ((x.trans x2).trans x3) v u (dv.ex x3) du _ fun z H4 x4 dz => ⟨a, dz.bl', by
    cases a with
    | true => exact iteT (hc rfl H4 (((x.trans x2).trans x3).trans x4) _ fun w H5 x5 dw => h2 H5 ((((x.trans x2).trans x3).trans x4).trans x5) u w (du.ex (x4.trans x5)) dw Q fun y H6 x6 dy => q y H6 ((((x2.trans x3).trans x4).trans x5).trans x6) dy)
    | false => exact iteF (q _ H4 ((x2.trans x3).trans x4) (.bl false))⟩
end
end G
set_option maxHeartbeats 4000000
/-! promises about data, calls, comprehensions, loops over data -/
namespace G
open PySem PySem.Spec PyProof.Rows L2 Evl
/-! ### growing the bad set -/
structure Up (B : Addr → Prop) (H : Hp) (B' : Addr → Prop) (H' : Hp) : Prop where
  keep : ∀ b o, H b = some o → ¬ B b → H' b = some o ∧ ¬ B' b
  ok : BOk B' H'
  dom : ∀ b, H' b = none → H b = none
section
variable {B B' B2 : Addr → Prop} {H H' H2 : Hp}
theorem Up.refl (h : BOk B H) : Up B H B H := ⟨fun _ _ a b => ⟨a, b⟩, h, fun _ h => h⟩
theorem Up.trans (a : Up B H B' H') (b : Up B' H' B2 H2) : Up B H B2 H2 := ⟨fun c o h n => by
  have q := a.keep c o h n
  exact b.keep c o q.1 q.2, b.ok, fun c h => a.dom c (b.dom c h)⟩
theorem Up.ex (a : Up B H B' H') (e : Ex H' H2) : Up B H B' H2 := ⟨fun c o h n => ⟨e c o (a.keep c o h n).1, (a.keep c o h n).2⟩, a.ok.ex e, fun c h => a.dom c ((Kp.of (B := B) e).dom c h)⟩
theorem Up.kp (a : Up B H B' H') (k : Kp B' H' H2) : Up B H B' H2 := ⟨fun c o h n => ⟨k.keep c o (a.keep c o h n).1 (a.keep c o h n).2, (a.keep c o h n).2⟩, fun c h z => a.ok c h (k.dom c z), fun c h => a.dom c (k.dom c h)⟩
theorem Up.of (h : BOk B H) (e : Ex H H') : Up B H B H' := (Up.refl h).ex e
theorem Den.up {v : V} {d : PyData} (u : Up B H B' H') (h : Den B H v d) : Den B' H' v d := h.keep' u.keep
theorem Dens.up {vs : List V} {ds : List PyData} (u : Up B H B' H') (h : Dens B H vs ds) : Dens B' H' vs ds := h.keep' u.keep
theorem Den.le {v : V} {d : PyData} (l : ∀ b, B b → B' b) (h : Den B' H v d) : Den B H v d := h.keep' fun b o q n => ⟨q, fun z => n (l b z)⟩
theorem Dens.le {vs : List V} {ds : List PyData} (l : ∀ b, B b → B' b) (h : Dens B' H vs ds) : Dens B H vs ds := h.keep' fun b o q n => ⟨q, fun z => n (l b z)⟩
/-- a new object is bad from now on -/
theorem Up.add {p : Addr} {o : HO} (u : Up B H B' H') (n : H' p = none) : Up B H (fun b => B' b ∨ b = p) (upd H' p o) := ⟨fun c o' h nb => by
    have q := u.keep c o' h nb
    have hc : c ≠ p := ne_of_none q.1 n
    exact ⟨by rw [upd_ne hc]; exact q.1, fun z => z.elim q.2 hc⟩, fun c hc => by
    by_cases e : c = p
    · rw [e, upd_same]; simp
    · rw [upd_ne e]; exact u.ok c (hc.resolve_right e), fun c h => by
    by_cases e : c = p
    · rw [e, upd_same] at h; cases h
    · rw [upd_ne e] at h; exact u.dom c h⟩
/-- one bad object -/
abbrev Add (B : Addr → Prop) (p : Addr) : Addr → Prop := fun b => B b ∨ b = p
end
/-! ### promises -/
def spD {α : Type} (arg : α → List PyData) (Pre : α → Prop) (F : α → PyData) : Sp := fun vs H Q _ => ∃ (B : Addr → Prop) (a : α), BOk B H ∧ Dens B H vs (arg a) ∧ Pre a ∧ ∀ v H', Ex H H' → Den B H' v (F a) → Q v H'
abbrev sp1 (F : PyData → PyData) : Sp := spD (fun d => [d]) (fun _ => True) F
/-- a def that is known by its promise -/
def Cal (P : Program) (w : World) (K : PySem.W.Frag) (mg : Str → Option Value) (base : Heap) (CX : CXT) (k : Nat) (x : Str) (sp : Sp) : Prop :=
  ∃ (f : Addr) (fd : FuncData) (ps : List Str), FnOk P w K mg base CX k f fd ps sp ∧ mg x = some (.ref f) ∧ PySem.W.keepIn K (.ref f) = true ∧ Binds K fd ps []
theorem pe_cal {X : Cx} {k : Nat} {x : Str} {sp : Sp} {p pos : Pos} {e : Expr} {es : List Expr} {t : TA} (c : Cal X.prog X.w X.K X.mg X.base CX0 k x sp) (hr : Room k X.A) (ha : PA X (e :: es) t) (hg : Gl X x := by rfl) (hdb : (x == ("__debug__" : Str)) = false := by decide)
    (he : starEach (e :: es) X.env = (false, eval e X.env) :: starEach es X.env := by rfl) (hpl : (backTo pos (starEach es X.env)).any (·.1) = false := by rfl) : PE X (.Call (.Name x p) (e :: es) [] pos) (tCall sp [] E0 t) := by
  obtain ⟨f, fd, ps, F, hm, kp, b⟩ := c
  exact pe_call F hr hg hm kp b .nil pass0 ha hdb he hpl
theorem cal_of {P : Program} {w : World} {K : PySem.W.Frag} {mg : Str → Option Value} {base : Heap} {x : Str} {st : Stmt} {N ps : List Str} {k : Nat} {sp : Sp} (T : FnT K mg x st ps) (S : FnScope N ps (defScope st)) (len : ∀ vs H Q E, sp vs H Q E → vs.length = ps.length)
    (hbody : ∀ (f : Addr) (cdv : Value) (A : Around) (outer : List Env) (s : Shared) (H : Hp) (vs : List V) (Q : VK) (E : XK), Room k (A.deeper (envOfC x (defScope st) s.heap.objs.size f cdv)) → sp vs H Q E →
      ∃ t, PSs (cxOf CX0 P w K mg base N x (defScope st) f cdv A outer s H E).nox (defBody st) t ∧ t { nx := fun _ H' => Q .non H', rt := Q } (start N vs) H) : Cal P w K mg base CX0 (k + 1) x sp := by
  obtain ⟨f, fd, F, hm, b⟩ := T.ex
  exact ⟨f, fd, ps, F.ok S len (hbody f), hm, F.kp, b⟩
theorem calD {P : Program} {w : World} {K : PySem.W.Frag} {mg : Str → Option Value} {base : Heap} {x : Str} {st : Stmt} {N ps : List Str} {k : Nat} {α : Type} {arg : α → List PyData} {Pre : α → Prop} {F : α → PyData} (T : FnT K mg x st ps) (S : FnScope N ps (defScope st)) (len : ∀ a, (arg a).length = ps.length)
    (hbody : ∀ (f : Addr) (cdv : Value) (A : Around) (outer : List Env) (s : Shared) (H : Hp) (vs : List V) (E : XK) (B : Addr → Prop) (a : α), Room k (A.deeper (envOfC x (defScope st) s.heap.objs.size f cdv)) → BOk B H → Dens B H vs (arg a) → Pre a → ∀ D : Ends, (∀ v H', Ex H H' → Den B H' v (F a) → D.rt v H') →
      ∃ t, PSs (cxOf CX0 P w K mg base N x (defScope st) f cdv A outer s H E).nox (defBody st) t ∧ t D (start N vs) H) : Cal P w K mg base CX0 (k + 1) x (spD arg Pre F) := by
  refine cal_of T S (fun vs H Q E h => by obtain ⟨B, a, _, dv, _⟩ := h; rw [dv.length]; exact len a) ?_
  rintro f cdv A outer s H vs Q E hr ⟨B, a, hB, dv, hp, q⟩
  exact hbody f cdv A outer s H vs E B a hr hB dv hp _ q
theorem Cal.le {P : Program} {w : World} {K : PySem.W.Frag} {mg : Str → Option Value} {base : Heap} {x : Str} {j k : Nat} {CX : CXT} {sp : Sp} (c : Cal P w K mg base CX j x sp) (h : j ≤ k) : Cal P w K mg base CX k x sp := by
  obtain ⟨f, fd, ps, F, r⟩ := c
  exact ⟨f, fd, ps, F.mono h, r⟩
section
variable {K : PySem.W.Frag} {B : Addr → Prop} {σ : L2.St} {H H' : Hp} {ta tb te tc tl : TE} {t u : TT} {d e f : PyData} {D : Ends} {tu tw : TS} {g : TG}
theorem sd_rt (k : ∀ v H', Ex H H' → Den B H' v f → D.rt v H') (x : Ex H H') (h : EvD B te σ H' d) (e : d = f) : tRet te D σ H' := h H' (Ex.refl H') _ fun v H2 x2 dv => k v H2 (x.trans x2) (by rw [← e]; exact dv)
theorem vd_call {α : Type} {arg : α → List PyData} {Pre : α → Prop} {F : α → PyData} {tx : TA} {E : XK} (a : α) (hB : BOk B H) (h : EvAD B tx σ H (arg a)) (hp : Pre a) : EvD B (tCall (spD arg Pre F) [] E tx) σ H (F a) := fun H1 x Q q =>
  h H1 x _ fun vs H2 x2 dv => ⟨B, a, hB.ex (x.trans x2), by rw [List.append_nil]; exact dv, hp, fun v H3 x3 dz => q v H3 (x2.trans x3) dz⟩
theorem vd_call1 {F : PyData → PyData} {E : XK} (hB : BOk B H) (h : EvD B te σ H d) : EvD B (tCall (sp1 F) [] E (tCons te tNil)) σ H (F d) := vd_call d hB (va_cons h va_nil) trivial
/-! statements -/
theorem sq (h : tu { D with nx := tw D } σ H) : tSeq tu tw D σ H := h
theorem sd_ret (h : EvD B te σ H d) (k : ∀ v H1, Ex H H1 → Den B H1 v d → D.rt v H1) : tRet te D σ H := h H (Ex.refl H) _ k
theorem sd_asg {i : Nat} (h : EvD B te σ H d) (k : ∀ v H1, Ex H H1 → Den B H1 v d → D.nx (σ.set i (some v)) H1) : tAsg te (gName i) D σ H := h H (Ex.refl H) _ k
theorem sd_drop (h : EvD B te σ H d) (k : ∀ v H1, Ex H H1 → Den B H1 v d → D.nx σ H1) : tDrop te D σ H := h H (Ex.refl H) _ k
/-- if t: (a return of what is told); the rest -/
theorem sd_when {b : Bool} (h : EvT t σ H b) (h1 : b = true → ∀ H1, Ex H H1 → tu D σ H1) (h2 : b = false → ∀ H1, Ex H H1 → D.nx σ H1) : tIfS t tu tNext D σ H := s_if h h1 h2
/-! ### what is walked: items that are data -/
def SrcD (B : Addr → Prop) (wi : TI) (σ : L2.St) (H : Hp) (ds : List PyData) : Prop := ∀ H1, Ex H H1 → ∀ R : L2.It → Hp → Prop,
  (∀ (J : L2.It) (G : Hp → Prop) (Z : Nat → Hp → V → Hp → Prop) H2, Ex H1 H2 → Walk J ds.length G Z → (∀ B' H3, Up B H2 B' H3 → G H3 ∧ ∀ i x H4, Z i H3 x H4 → Ex H3 H4 ∧ (i < ds.length → ∃ d, ds[i]? = some d ∧ Den B' H4 x d)) → R J H2) → wi σ H1 R
theorem src_tup {ds : List PyData} (h : EvD B tl σ H (.tuple ds)) : SrcD B (iTup K tl) σ H ds := fun H1 x R q => h H1 x _ fun v H2 x2 dv => by
  obtain ⟨a, xs, rfl, ha, nb, r⟩ := dv.tup'
  refine ⟨a, rfl, ⟨xs, SqT.of ha⟩, q (Itt K a) (fun H => SqT K H a xs) (YAt xs) H2 x2 (by rw [← r.length]; exact walk_tup) fun B' H3 up => ⟨SqT.of (up.keep a _ ha nb).1, fun i y H4 z => ⟨by rw [z.1]; exact Ex.refl _, fun hi => ?_⟩⟩⟩
  obtain ⟨d, hd, dd⟩ := (r.up up).get' z.2
  exact ⟨d, hd, by rw [z.1]; exact dd⟩
theorem src_lst {ds : List PyData} (h : EvD B tl σ H (.list ds)) : SrcD B (iList K tl) σ H ds := fun H1 x R q => h H1 x _ fun v H2 x2 dv => by
  obtain ⟨a, xs, rfl, ha, nb, r⟩ := dv.lst'
  refine ⟨a, rfl, ⟨xs, SqL.of ha⟩, q (Itl K a) (fun H => SqL K H a xs) (YAt xs) H2 x2 (by rw [← r.length]; exact walk_list) fun B' H3 up => ⟨SqL.of (up.keep a _ ha nb).1, fun i y H4 z => ⟨by rw [z.1]; exact Ex.refl _, fun hi => ?_⟩⟩⟩
  obtain ⟨d, hd, dd⟩ := (r.up up).get' z.2
  exact ⟨d, hd, by rw [z.1]; exact dd⟩
/-- a text's signs -/
def signs (s : Str) : List PyData := s.cps.toList.map fun c => .str ⟨#[c]⟩
theorem src_str {s : Str} (h : EvD B tl σ H (.str s)) : SrcD B (iStr tl) σ H (signs s) := fun H1 x R q => h H1 x _ fun v H2 x2 dv => by
  rw [dv.str']
  refine ⟨s, rfl, q (Its s) (fun _ => True) (fun i H v H' => H' = H ∧ ∃ c, s.cps[i]? = some c ∧ v = .str ⟨#[c]⟩) H2 x2 (by unfold signs; rw [List.length_map, Array.length_toList]; exact walk_str) fun B' H3 up => ⟨trivial, fun i y H4 z => ⟨by rw [z.1]; exact Ex.refl _, fun hi => ?_⟩⟩⟩
  obtain ⟨e, c, hc, rfl⟩ := z
  subst e
  refine ⟨.str ⟨#[c]⟩, ?_, .str _ (by show 1 ≤ 1000; decide)⟩
  unfold signs
  rw [List.getElem?_map, Array.getElem?_toList, hc]
  rfl
/-- range(n) -/
def rng (n : Nat) : List PyData := (List.range n).map fun i => .int (i : Nat)
theorem src_rng1 {n : Nat} {ta : TA} (h : EvAD B ta σ H [.int (n : Nat)]) (hn : n ≤ 100000) : SrcD B (iRng1 ta) σ H (rng n) := fun H1 x R q => h H1 x _ fun vs H2 x2 dv => by
  obtain ⟨v, rfl, hv⟩ := dv.one'
  rw [hv.int']
  refine ⟨n, rfl, by omega, by omega, q (Itr 0 _) (fun _ => True) (YFn fun i => .int ((0 : Int) + i)) H2 x2 (by unfold rng; rw [List.length_map, List.length_range]; exact walk_range) fun B' H3 up => ⟨trivial, fun i y H4 z => ⟨by rw [z.1]; exact Ex.refl _, fun hi => ?_⟩⟩⟩
  have hi' : i < n := by unfold rng at hi; simpa using hi
  refine ⟨.int (i : Nat), ?_, ?_⟩
  · unfold rng
    rw [List.getElem?_map, List.getElem?_range hi']
    rfl
  · rw [z.2]
    show Den B' H4 (.int ((0 : Int) + (i : Nat))) (.int (i : Nat))
    rw [Int.zero_add]
    exact .int _ (fit_nat (by omega))
theorem upAdd {p : Addr} (hB : BOk B H) (e : Ex H H') (n : H p = none) {o : HO} (hp : H' p = some o) : Up B H (Add B p) H' := ⟨fun c o' h nb => ⟨e c o' h, fun z => z.elim nb (ne_of_none h n)⟩, fun c hc => by
  rcases hc with h | h
  · exact hB.ex e c h
  · rw [h, hp]; simp, fun c h => (Kp.of (B := B) e).dom c h⟩
theorem take_succ_of {α : Type} {xs : List α} {i : Nat} {d : α} (h : xs[i]? = some d) : xs.take (i + 1) = xs.take i ++ [d] := by
  rw [List.take_succ, h]; rfl
/-- a comprehension over data: the items kept, each told by F -/
theorem vd_lc {wi : TI} {tt : TT} {vs : List Nat} {ds : List PyData} (hB : BOk B H) (hs : SrcD B wi σ H ds) (keep : PyData → Bool) (F : PyData → PyData) (hn : ds.length ≤ 100000)
    (he : ∀ B' H1, Up B H B' H1 → ∀ d ∈ ds, ∀ x, Den B' H1 x d → ∀ Q : L2.St → Hp → Prop, (∀ σ2 H2, Ex H1 H2 → wipe σ2 vs = wipe σ vs → EvT tt σ2 H2 (keep d) → (keep d = true → EvD B' te σ2 H2 (F d)) → Q σ2 H2) → g x (wipe σ vs) H1 Q) :
    EvD B (tLc wi g tt te vs) σ H (.list ((ds.filter keep).map F)) := fun H1 x Q q =>
  hs H1 x _ fun J G Z H2 x2 w hY D hD => by
    have hB2 : BOk B H2 := hB.ex (x.trans x2)
    refine lc_it w (fun i H3 => Ex H2 H3 ∧ ∃ acc, H3 D = some (.lst acc) ∧ Dens (Add B D) H3 acc (((ds.take i).filter keep).map F)) ⟨Ex.new hD, [], upd_same, .nil⟩ (fun i H3 _ p => by
      obtain ⟨x3, acc, hacc, _⟩ := p
      exact (hY _ _ (upAdd hB2 x3 hD hacc)).1) ?_ ?_
    · rintro i y H3 H4 hi ⟨x3, acc, hacc, dacc⟩ hz
      obtain ⟨x4, hy⟩ := (hY _ _ (upAdd hB2 x3 hD hacc)).2 i y H4 hz
      obtain ⟨d, hd, dy⟩ := hy hi
      have upH : Up B H (Add B D) H4 := (Up.of hB (x.trans x2)).trans (upAdd hB2 (x3.trans x4) hD (x4 D _ hacc))
      refine he _ _ upH d (List.mem_of_getElem? hd) y dy _ ?_
      intro σ2 H5 x5 hw ht hv
      refine ⟨hw, ht H5 (Ex.refl H5) _ fun H6 x6 => ?_⟩
      have e6 : Ex H3 H6 := (x4.trans x5).trans x6
      have hsz : acc.length ≤ i := by
        rw [dacc.length, List.length_map]
        exact Nat.le_trans (List.length_filter_le _ _) (by rw [List.length_take]; omega)
      cases hk : keep d with
      | false =>
        refine iteF ⟨x3.trans e6, acc, e6 D _ hacc, ?_⟩
        rw [take_succ_of hd, List.filter_append]
        simp only [List.filter_cons, hk, List.filter_nil]
        simpa using dacc.ex e6
      | true =>
        refine iteT (hv hk H6 x6 _ fun v H7 x7 dv => ⟨acc, x7 D _ (e6 D _ hacc), Nat.lt_of_le_of_lt (Nat.le_trans hsz (Nat.le_of_lt (Nat.lt_of_lt_of_le hi hn))) (by decide), ?_⟩)
        have e7 := e6.trans x7
        have kw : Kp (Add B D) H7 (upd H7 D (.lst (acc ++ [v]))) := (Kp.refl H7).wr (.inr rfl)
        refine ⟨(x3.trans e7).mut hD, _, upd_same, ?_⟩
        rw [take_succ_of hd, List.filter_append]
        simp only [List.filter_cons, hk, List.filter_nil]
        rw [List.map_append]
        exact ((dacc.ex e7).kp kw).append (.cons (dv.kp kw) .nil)
    · rintro H3 ⟨x3, acc, hacc, dacc⟩
      rw [List.take_length] at dacc
      exact q _ H3 (x2.trans x3) (.lst (by
        rw [dacc.length, List.length_map]
        exact Nat.le_trans (List.length_filter_le _ _) hn) hacc (hB2.new hD) (dacc.le fun b h => .inl h))
/-- its target a name -/
theorem vd_lcN {wi : TI} {tt : TT} {vs : List Nat} {ds : List PyData} {j : Nat} (hB : BOk B H) (hs : SrcD B wi σ H ds) (keep : PyData → Bool) (F : PyData → PyData) (hn : ds.length ≤ 100000) (hw : ∀ v, wipe ((wipe σ vs).set j (some v)) vs = wipe σ vs)
    (ht : ∀ B' H1, Up B H B' H1 → ∀ d ∈ ds, ∀ x, Den B' H1 x d → EvT tt ((wipe σ vs).set j (some x)) H1 (keep d))
    (he : ∀ B' H1, Up B H B' H1 → ∀ d ∈ ds, keep d = true → ∀ x, Den B' H1 x d → EvD B' te ((wipe σ vs).set j (some x)) H1 (F d)) : EvD B (tLc wi (gName j) tt te vs) σ H (.list ((ds.filter keep).map F)) :=
  vd_lc hB hs keep F hn fun B' H1 up d hd x dx Q q => q _ H1 (Ex.refl H1) (hw x) (ht B' H1 up d hd x dx) fun hk => he B' H1 up d hd hk x dx
/-- without a test -/
theorem vd_lcA {wi : TI} {vs : List Nat} {ds : List PyData} {j : Nat} (hB : BOk B H) (hs : SrcD B wi σ H ds) (F : PyData → PyData) (hn : ds.length ≤ 100000) (hw : ∀ v, wipe ((wipe σ vs).set j (some v)) vs = wipe σ vs)
    (he : ∀ B' H1, Up B H B' H1 → ∀ d ∈ ds, ∀ x, Den B' H1 x d → EvD B' te ((wipe σ vs).set j (some x)) H1 (F d)) : EvD B (tLc wi (gName j) tYes te vs) σ H (.list (ds.map F)) := by
  have h := vd_lcN (tt := tYes) hB hs (fun _ => true) F hn hw (fun _ H1 _ _ _ x _ H2 e Q q => q H2 (Ex.refl H2)) fun B' H1 up d hd _ x dx => he B' H1 up d hd x dx
  rw [List.filter_eq_self.mpr (fun _ _ => rfl)] at h
  exact h
/-- a target a, b of a pair -/
theorem g_pair {j k : Nat} {v : V} {Q : L2.St → Hp → Prop} (h : Den B H v (.tuple [d, e])) (q : ∀ a b, Den B H a d → Den B H b e → Q ((σ.set j (some a)).set k (some b)) H) : gTup K 2 (gCons (gName j) (gCons (gName k) gNil)) v σ H Q := by
  obtain ⟨p, xs, rfl, ha, _, r⟩ := h.tup'
  obtain ⟨a, b, rfl, da, db⟩ := r.two'
  exact ⟨p, _, rfl, SqT.of ha, rfl, a, _, rfl, b, _, rfl, rfl, q a b da db⟩
/-- its target a pair -/
theorem vd_lcP {wi : TI} {tt : TT} {vs : List Nat} {ds : List PyData} {j k : Nat} (hB : BOk B H) (hs : SrcD B wi σ H ds) (keep : PyData → Bool) (F : PyData → PyData) (hn : ds.length ≤ 100000) (hp : ∀ d ∈ ds, ∃ a b, d = .tuple [a, b]) (hw : ∀ v u, wipe (((wipe σ vs).set j (some v)).set k (some u)) vs = wipe σ vs)
    (ht : ∀ B' H1, Up B H B' H1 → ∀ a b, PyData.tuple [a, b] ∈ ds → ∀ x y, Den B' H1 x a → Den B' H1 y b → EvT tt (((wipe σ vs).set j (some x)).set k (some y)) H1 (keep (.tuple [a, b])))
    (he : ∀ B' H1, Up B H B' H1 → ∀ a b, PyData.tuple [a, b] ∈ ds → keep (.tuple [a, b]) = true → ∀ x y, Den B' H1 x a → Den B' H1 y b → EvD B' te (((wipe σ vs).set j (some x)).set k (some y)) H1 (F (.tuple [a, b]))) :
    EvD B (tLc wi (gTup K 2 (gCons (gName j) (gCons (gName k) gNil))) tt te vs) σ H (.list ((ds.filter keep).map F)) :=
  vd_lc hB hs keep F hn fun B' H1 up d hd x dx Q q => by
    obtain ⟨a, b, rfl⟩ := hp d hd
    exact g_pair dx fun u w da db => q _ H1 (Ex.refl H1) (hw u w) (ht B' H1 up a b hd u w da db) fun hk => he B' H1 up a b hd hk u w da db
/-! ### loops over data -/
theorem sd_for {wi : TI} {ds : List PyData} (hs : SrcD B wi σ H ds) (k : ∀ H2, Ex H H2 → ∃ Pv : Nat → L2.St → Hp → Prop, Pv 0 σ H2 ∧ (∀ i σ' H', Pv i σ' H' → ∃ B', Up B H2 B' H') ∧
      (∀ i d σ' H' H3 x, ds[i]? = some d → Pv i σ' H' → Ex H' H3 → (∀ B', Up B H2 B' H' → Den B' H3 x d) → g x σ' H3 fun σ2 H4 => tu { D with nx := Pv (i + 1), ct := Pv (i + 1), bk := D.nx } σ2 H4) ∧ (∀ σ' H', Pv ds.length σ' H' → D.nx σ' H')) : tFor wi g tu D σ H :=
  hs H (Ex.refl H) _ fun J G Z H2 x2 w hY => by
    obtain ⟨Pv, p0, pu, pt, pd⟩ := k H2 x2
    refine for_it w Pv p0 (fun i σ' H' _ p => by
      obtain ⟨B', u⟩ := pu i σ' H' p
      exact (hY _ _ u).1) ?_ pd
    intro i x σ' H3 H4 hi p z
    obtain ⟨B', u⟩ := pu i σ' H3 p
    obtain ⟨x4, hd⟩ := (hY _ _ u).2 i x H4 z
    obtain ⟨d, h1, h2⟩ := hd hi
    refine pt i d σ' H3 H4 x h1 p x4 fun B2 u2 => ?_
    obtain ⟨_, hd2⟩ := (hY _ _ u2).2 i x H4 z
    obtain ⟨d2, h3, h4⟩ := hd2 hi
    rw [h1] at h3
    cases h3
    exact h4
end
/-! ### the built-ins by their names -/
section
variable {X : Cx} {e : Expr} {te : TE} {p q r : Pos}
theorem e_isStr (T : Txt X.K X.mg) (h : PE X e te) (g1 : Gl X "isinstance" := by rfl) (g2 : Gl X "str" := by rfl) (he : starEach (e :: [.Name "str" q]) X.env = (false, eval e X.env) :: starEach [.Name "str" q] X.env := by rfl) (hpl : (backTo r (starEach [.Name "str" q] X.env)).any (·.1) = false := by rfl)
    (h2 : starEach (.Name "str" q :: []) X.env = (false, eval (.Name "str" q) X.env) :: starEach [] X.env := by rfl) : PE X (.Call (.Name "isinstance" p) [e, .Name "str" q] [] r) (tCB (rIsi X.K) (tCons te (tCons (tC (.ty "str")) tNil))) :=
  pe_callB call_isi g1 T.b_isinstance (by decide +kernel) (pa_cons h (pa_cons (pe_bltn g2 T.b_str (by decide +kernel) rfl) pa_nil h2) he) (he := he) (hpl := hpl)
theorem e_isTup (T : Txt X.K X.mg) (h : PE X e te) (g1 : Gl X "isinstance" := by rfl) (g2 : Gl X "tuple" := by rfl) (he : starEach (e :: [.Name "tuple" q]) X.env = (false, eval e X.env) :: starEach [.Name "tuple" q] X.env := by rfl) (hpl : (backTo r (starEach [.Name "tuple" q] X.env)).any (·.1) = false := by rfl)
    (h2 : starEach (.Name "tuple" q :: []) X.env = (false, eval (.Name "tuple" q) X.env) :: starEach [] X.env := by rfl) : PE X (.Call (.Name "isinstance" p) [e, .Name "tuple" q] [] r) (tCB (rIsi X.K) (tCons te (tCons (tC (.ty "tuple")) tNil))) :=
  pe_callB call_isi g1 T.b_isinstance (by decide +kernel) (pa_cons h (pa_cons (pe_bltn g2 T.b_tuple (by decide +kernel) rfl) pa_nil h2) he) (he := he) (hpl := hpl)
theorem e_len (T : Txt X.K X.mg) (h : PE X e te) (g1 : Gl X "len" := by rfl) (he : starEach [e] X.env = (false, eval e X.env) :: starEach [] X.env := by rfl) (hpl : (backTo r (starEach [] X.env)).any (·.1) = false := by rfl) : PE X (.Call (.Name "len" p) [e] [] r) (tCB (rLenX X.K) (tCons te tNil)) :=
  pe_callB call_lenX g1 T.b_len (by decide +kernel) (pa_cons h pa_nil he) (he := he) (hpl := hpl)
theorem e_all (T : Txt X.K X.mg) (h : PE X e te) (hc : X.calm = true := by rfl) (g1 : Gl X "all" := by rfl) (he : starEach [e] X.env = (false, eval e X.env) :: starEach [] X.env := by rfl) (hpl : (backTo r (starEach [] X.env)).any (·.1) = false := by rfl) : PE X (.Call (.Name "all" p) [e] [] r) (tCB (rAll X.K) (tCons te tNil)) :=
  pe_callB (cr_all hc) g1 T.b_all (by decide +kernel) (pa_cons h pa_nil he) (he := he) (hpl := hpl)
theorem e_S {x : Str} {s : Str} (h : ∃ t, X.mg x = some (.str s t)) (g1 : Gl X x := by rfl) (hd : (x == ("__debug__" : Str)) = false := by decide) : PE X (.Name x p) (tC (.str s)) := by
  obtain ⟨t, ht⟩ := h
  exact pe_glob g1 ht ⟨t, rfl⟩ hd
theorem e_I {x : Str} {i : Int} (h : ∃ t, X.mg x = some (.int i t)) (g1 : Gl X x := by rfl) (hd : (x == ("__debug__" : Str)) = false := by decide) : PE X (.Name x p) (tC (.int i)) := by
  obtain ⟨t, ht⟩ := h
  exact pe_glob g1 ht ⟨t, rfl⟩ hd
end
section
variable {K : PySem.W.Frag} {B : Addr → Prop} {σ : L2.St} {H H' : Hp} {te : TE} {d : PyData}
theorem vd_len {n : Nat} (h : EvD B te σ H d) (hl : hasLen d = true) (e : dlen d = n) : EvD B (tCB (rLenX K) (tCons te tNil)) σ H (.int (n : Nat)) := by
  rw [← e]
  exact vd_cb (va_cons h va_nil) (rd_len hl)
theorem rd_leN {i j : Nat} : RD B (rI0 fun i j => .bl (decide (i ≤ j))) (.int (i : Nat)) (.int (j : Nat)) (.bool (decide (i ≤ j))) H := by
  have h := rd_I0B (B := B) (H := H) (g := fun i j => decide (i ≤ j)) (i := (i : Nat)) (j := (j : Nat))
  have e : decide ((i : Int) ≤ (j : Int)) = decide (i ≤ j) := by simp
  rw [e] at h
  exact h
theorem vd_leN {ta tb : TE} {i j : Nat} (h1 : EvD B ta σ H (.int (i : Nat))) (h2 : EvD B tb σ H (.int (j : Nat))) : EvD B (tOp (rI0 fun i j => .bl (decide (i ≤ j))) ta tb) σ H (.bool (decide (i ≤ j))) := vd_op h1 h2 rd_leN
theorem vd_gtN {ta tb : TE} {i j : Nat} (h1 : EvD B ta σ H (.int (i : Nat))) (h2 : EvD B tb σ H (.int (j : Nat))) : EvD B (tOp (rI0 fun i j => .bl (decide (j < i))) ta tb) σ H (.bool (decide (j < i))) := vd_op h1 h2 (by
  have h := rd_I0B (B := B) (H := H) (g := fun i j => decide (j < i)) (i := (i : Nat)) (j := (j : Nat))
  have e : decide ((j : Int) < (i : Int)) = decide (j < i) := by simp
  rw [e] at h
  exact h)
theorem vd_geN {ta tb : TE} {i j : Nat} (h1 : EvD B ta σ H (.int (i : Nat))) (h2 : EvD B tb σ H (.int (j : Nat))) : EvD B (tOp (rI0 fun i j => .bl (decide (j ≤ i))) ta tb) σ H (.bool (decide (j ≤ i))) := vd_op h1 h2 (by
  have h := rd_I0B (B := B) (H := H) (g := fun i j => decide (j ≤ i)) (i := (i : Nat)) (j := (j : Nat))
  have e : decide ((j : Int) ≤ (i : Int)) = decide (j ≤ i) := by simp
  rw [e] at h
  exact h)
theorem vd_eqN {ta tb : TE} {i j : Nat} (h1 : EvD B ta σ H (.int (i : Nat))) (h2 : EvD B tb σ H (.int (j : Nat))) : EvD B (tOp rEq ta tb) σ H (.bool (decide (i = j))) := vd_op h1 h2 (by
  have h := rd_eqI (B := B) (H := H) (i := (i : Nat)) (j := (j : Nat))
  have e : decide ((i : Int) = (j : Int)) = decide (i = j) := decide_eq_decide.mpr Int.ofNat_inj
  rw [e] at h
  exact h)
theorem vd_neN {ta tb : TE} {i j : Nat} (h1 : EvD B ta σ H (.int (i : Nat))) (h2 : EvD B tb σ H (.int (j : Nat))) : EvD B (tOp rNe ta tb) σ H (.bool (!decide (i = j))) := vd_op h1 h2 (by
  have h := rd_neI (B := B) (H := H) (i := (i : Nat)) (j := (j : Nat))
  have e : decide ((i : Int) = (j : Int)) = decide (i = j) := decide_eq_decide.mpr Int.ofNat_inj
  rw [e] at h
  exact h)
theorem vd_eqS {ta tb : TE} {s z : Str} (h1 : EvD B ta σ H (.str s)) (h2 : EvD B tb σ H (.str z)) : EvD B (tOp rEq ta tb) σ H (.bool (decide (s = z))) := vd_op h1 h2 rd_eqS
theorem vd_neS {ta tb : TE} {s z : Str} (h1 : EvD B ta σ H (.str s)) (h2 : EvD B tb σ H (.str z)) : EvD B (tOp rNe ta tb) σ H (.bool (!decide (s = z))) := vd_op h1 h2 rd_neS
theorem vd_nat {n : Nat} (h : n ≤ 100000 := by decide) {i : Int} (e : i = (n : Nat) := by rfl) : EvD B (tC (.int i)) σ H (.int (n : Nat)) := by
  rw [e]
  exact vd_int (fit_nat h)
/-- t[i], i written -/
theorem vd_ix {ds : List PyData} {i : Nat} {j : Int} (h : EvD B te σ H (.tuple ds)) (hj : j = (i : Nat) := by rfl) (h0 : ds[i]? = some d := by rfl) (hi : i ≤ 1000 := by decide) : EvD B (tOp (rIxT K) te (tC (.int j))) σ H d := vd_op h (vd_c (d := .int (i : Nat)) fun _ => by
  rw [hj]
  exact .int _ (fit_nat (by omega))) (rd_ixT rfl h0)
theorem kid_at {i : Nat} (h : i < (kids d).length) : (kids d)[i]? = some (kid d i) := by
  unfold kid
  rw [List.getD_eq_getElem?_getD, List.getElem?_eq_getElem h]
  rfl
theorem vd_kid {i : Nat} {j : Int} (h : EvD B te σ H d) (ht : isTup d = true) (hi : i < (kids d).length) (hj : j = (i : Nat) := by rfl) (h1 : i ≤ 1000 := by decide) : EvD B (tOp (rIxT K) te (tC (.int j))) σ H (kid d i) := by
  have e := isTup_kids ht
  have h' : EvD B te σ H (.tuple (kids d)) := by rw [← e]; exact h
  exact vd_ix h' hj (kid_at hi) h1
theorem tup_len (h : isTup d = true) : hasLen d = true ∧ dlen d = (kids d).length := by
  cases d with
  | tuple xs => exact ⟨rfl, rfl⟩
  | _ => cases h
theorem vd_lenK (h : EvD B te σ H d) (ht : isTup d = true) : EvD B (tCB (rLenX K) (tCons te tNil)) σ H (.int ((kids d).length : Nat)) := vd_len h (tup_len ht).1 (tup_len ht).2
theorem str_of_isOf {s : Str} {a b : Nat} (h : isOf d s a b = true) : d = .str (strOf d) := isStr_of (isOf_str h)
end
/-! ### dicts of the def's own -/
section
variable {K : PySem.W.Frag} {B : Addr → Prop} {σ : L2.St} {H H' : Hp} {td ty tv : TE} {d : PyData} {a : Addr} {D : Ends}
theorem vd_dinK {kvs : List (Key × V)} {s : Str} (hk : EvD B ty σ H (.str s)) (hd : Ev td σ H (.ref a)) (h : H a = some (.dK kvs)) : EvD B (tDIn ty td) σ H (.bool (valV kvs (.inr s)).isSome) := fun H1 x Q q =>
  hk H1 x _ fun v H2 x2 dv => hd H2 (x.trans x2) _ fun H3 x3 => by
    rw [dv.str']
    exact ⟨a, _, rfl, DGet.k (k := .inr s) (((x.trans x2).trans x3) a _ h), q _ H3 (x2.trans x3) (.bl _)⟩
theorem sd_dputK {kvs : List (Key × V)} {s : Str} (hv : EvD B tv σ H d) (hd : Ev td σ H (.ref a)) (hk : EvD B ty σ H (.str s)) (h : H a = some (.dK kvs)) (hl : kvs.length ≤ 10000000)
    (k : ∀ v H1, Ex H H1 → Den B H1 v d → D.nx σ (upd H1 a (.dK (putK kvs (.inr s) v)))) : sDPut td ty tv D σ H :=
  hv H (Ex.refl H) _ fun v H1 x1 dv => hd H1 x1 _ fun H2 x2 => hk H2 (x1.trans x2) _ fun u H3 x3 du => by
    rw [du.str']
    exact ⟨a, _, rfl, DPut.k (k := .inr s) (((x1.trans x2).trans x3) a _ h) (Nat.lt_of_le_of_lt hl (by decide)), k v H3 ((x1.trans x2).trans x3) (dv.ex (x2.trans x3))⟩
/-- keys that are pairs of texts -/
def kT (s z : Str) : List Key := [.inr s, .inr z]
theorem tupKey {v : V} {s z : Str} (h : Den B H v (.tuple [.str s, .str z])) : ∃ b, v = .ref b ∧ H b = some (.tup ((kT s z).map kV)) := by
  obtain ⟨b, xs, rfl, hb, _, r⟩ := h.tup'
  obtain ⟨x, y, rfl, dx, dy⟩ := r.two'
  rw [dx.str', dy.str'] at hb
  exact ⟨b, rfl, hb⟩
theorem vd_dinT {kvs : List (List Key × V)} {s z : Str} (hk : EvD B ty σ H (.tuple [.str s, .str z])) (hd : Ev td σ H (.ref a)) (h : H a = some (.dT kvs)) : EvD B (tDIn ty td) σ H (.bool (valV kvs (kT s z)).isSome) := fun H1 x Q q =>
  hk H1 x _ fun v H2 x2 dv => hd H2 (x.trans x2) _ fun H3 x3 => by
    obtain ⟨b, rfl, hb⟩ := tupKey (dv.ex x3)
    exact ⟨a, _, rfl, DGet.t (k := kT s z) (((x.trans x2).trans x3) a _ h) hb, q _ H3 (x2.trans x3) (.bl _)⟩
theorem sd_dputT {kvs : List (List Key × V)} {s z : Str} (hv : EvD B tv σ H d) (hd : Ev td σ H (.ref a)) (hk : EvD B ty σ H (.tuple [.str s, .str z])) (h : H a = some (.dT kvs)) (hl : kvs.length ≤ 10000000)
    (k : ∀ v H1, Ex H H1 → Den B H1 v d → D.nx σ (upd H1 a (.dT (putK kvs (kT s z) v)))) : sDPut td ty tv D σ H :=
  hv H (Ex.refl H) _ fun v H1 x1 dv => hd H1 x1 _ fun H2 x2 => hk H2 (x1.trans x2) _ fun u H3 x3 du => by
    obtain ⟨b, rfl, hb⟩ := tupKey du
    exact ⟨a, _, rfl, DPut.t (k := kT s z) (((x1.trans x2).trans x3) a _ h) hb (Nat.lt_of_le_of_lt hl (by decide)), k v H3 ((x1.trans x2).trans x3) (dv.ex (x2.trans x3))⟩
end
/-- the keys of a dict are these -/
def Keyed {κ α : Type} [DecidableEq κ] [DecidableEq α] (kvs : List (κ × V)) (f : α → κ) (seen : List α) : Prop := ∀ a, (valV kvs (f a)).isSome = decide (a ∈ seen)
theorem Keyed.nil {κ α : Type} [DecidableEq κ] [DecidableEq α] {f : α → κ} : Keyed ([] : List (κ × V)) f ([] : List α) := fun a => rfl
theorem Keyed.put {κ α : Type} [DecidableEq κ] [DecidableEq α] {kvs : List (κ × V)} {f : α → κ} {seen : List α} (h : Keyed kvs f seen) (hf : ∀ a b, f a = f b → a = b) (b : α) (v : V) : Keyed (putK kvs (f b) v) f (seen ++ [b]) := fun a => by
  rw [valV_put]
  by_cases e : f a = f b
  · rw [if_pos e, hf _ _ e]
    simp
  · rw [if_neg e, h a]
    have : a ≠ b := fun z => e (by rw [z])
    simp [this]
theorem nodup_take_succ {α : Type} {f : PyData → α} {ds : List PyData} {i : Nat} {d : PyData} (h : ds[i]? = some d) : ((ds.take (i + 1)).map f).Nodup ↔ ((ds.take i).map f).Nodup ∧ f d ∉ (ds.take i).map f := by
  rw [take_succ_of h, List.map_append, List.nodup_append]
  constructor
  · rintro ⟨h1, h2, h3⟩
    exact ⟨h1, fun z => h3 _ z _ (by simp) rfl⟩
  · rintro ⟨h1, h2⟩
    refine ⟨h1, by simp, ?_⟩
    intro a ha b hb e
    simp at hb
    subst e
    rw [hb] at ha
    exact h2 ha
theorem nodup_of_take {α : Type} {f : PyData → α} {ds : List PyData} {i : Nat} (h : (ds.map f).Nodup) : ((ds.take i).map f).Nodup := by
  have e : (ds.take i).map f = (ds.map f).take i := by rw [List.map_take]
  rw [e]
  exact List.Nodup.sublist (List.take_sublist _ _) h
theorem all_of_get {ds : List PyData} {f : PyData → Bool} {i : Nat} {d : PyData} (h : ds[i]? = some d) (hf : f d = false) : ds.all f = false := by
  rw [List.all_eq_false]
  exact ⟨d, List.mem_of_getElem? h, by rw [hf]; simp⟩
theorem all_take_succ {ds : List PyData} {f : PyData → Bool} {i : Nat} {d : PyData} (h : ds[i]? = some d) : (ds.take (i + 1)).all f = ((ds.take i).all f && f d) := by
  rw [take_succ_of h, List.all_append]
  simp
/-! ### objects of the def's own -/
theorem Ex.kp {H0 H2 H' : Hp} {M : Addr → Prop} (e : Ex H0 H2) (k : Kp M H2 H') (h : ∀ b, M b → H0 b = none) : Ex H0 H' := fun b o hb => k.keep b o (e b o hb) fun z => by rw [h b z] at hb; cases hb
/-! ### a statement and what stands behind it -/
section
variable {K : PySem.W.Frag} {B : Addr → Prop} {σ : L2.St} {H H' : Hp} {te td ty tv : TE} {t : TT} {d : PyData} {a : Addr} {D : Ends} {tu tw tz : TS} {g : TG}
theorem z_when {b : Bool} (h : EvT t σ H b) (h1 : b = true → ∀ H1, Ex H H1 → ∀ D' : Ends, D'.rt = D.rt → tu D' σ H1) (h2 : b = false → ∀ H1, Ex H H1 → tw D σ H1) : tSeq (tIfS t tu tNext) tw D σ H :=
  s_if (D := { D with nx := tw D }) h (fun hb H1 x => h1 hb H1 x _ rfl) h2
/-- if: both ways go on -/
theorem z_if {b : Bool} (h : EvT t σ H b) (h1 : b = true → ∀ H1, Ex H H1 → tSeq tu tw D σ H1) (h2 : b = false → ∀ H1, Ex H H1 → tSeq tz tw D σ H1) : tSeq (tIfS t tu tz) tw D σ H :=
  s_if (D := { D with nx := tw D }) h h1 h2
theorem z_asg {i : Nat} (h : EvD B te σ H d) (k : ∀ v H1, Ex H H1 → Den B H1 v d → tw D (σ.set i (some v)) H1) : tSeq (tAsg te (gName i)) tw D σ H := h H (Ex.refl H) _ k
theorem z_drop (h : EvD B te σ H d) (k : ∀ v H1, Ex H H1 → Den B H1 v d → tw D σ H1) : tSeq (tDrop te) tw D σ H := h H (Ex.refl H) _ k
theorem z_dputK {kvs : List (Key × V)} {s : Str} (hv : EvD B tv σ H d) (hd : Ev td σ H (.ref a)) (hk : EvD B ty σ H (.str s)) (h : H a = some (.dK kvs)) (hl : kvs.length ≤ 10000000)
    (k : ∀ v H1, Ex H H1 → Den B H1 v d → tw D σ (upd H1 a (.dK (putK kvs (.inr s) v)))) : tSeq (sDPut td ty tv) tw D σ H := sd_dputK (D := { D with nx := tw D }) hv hd hk h hl k
theorem s_for {wi : TI} {ds : List PyData} (hs : SrcD B wi σ H ds) (k : ∀ H2, Ex H H2 → ∃ Pv : Nat → L2.St → Hp → Prop, Pv 0 σ H2 ∧ (∀ i σ' H', Pv i σ' H' → ∃ B', Up B H2 B' H') ∧
      (∀ i d σ' H' H3 x, ds[i]? = some d → Pv i σ' H' → Ex H' H3 → (∀ B', Up B H2 B' H' → Den B' H3 x d) → ∀ D' : Ends, D'.rt = D.rt → D'.nx = Pv (i + 1) → D'.ct = Pv (i + 1) → D'.bk = D.nx → g x σ' H3 fun σ2 H4 => tu D' σ2 H4) ∧ (∀ σ' H', Pv ds.length σ' H' → D.nx σ' H')) : tFor wi g tu D σ H :=
  sd_for hs fun H2 x2 => by
    obtain ⟨Pv, a, b, c, e⟩ := k H2 x2
    exact ⟨Pv, a, b, fun i d σ' H' H3 x h1 h2 h3 h4 => c i d σ' H' H3 x h1 h2 h3 h4 _ rfl rfl rfl rfl, e⟩
theorem z_for {wi : TI} {ds : List PyData} (hs : SrcD B wi σ H ds) (k : ∀ H2, Ex H H2 → ∃ Pv : Nat → L2.St → Hp → Prop, Pv 0 σ H2 ∧ (∀ i σ' H', Pv i σ' H' → ∃ B', Up B H2 B' H') ∧
      (∀ i d σ' H' H3 x, ds[i]? = some d → Pv i σ' H' → Ex H' H3 → (∀ B', Up B H2 B' H' → Den B' H3 x d) → ∀ D' : Ends, D'.rt = D.rt → D'.nx = Pv (i + 1) → D'.ct = Pv (i + 1) → D'.bk = tw D → g x σ' H3 fun σ2 H4 => tu D' σ2 H4) ∧ (∀ σ' H', Pv ds.length σ' H' → tw D σ' H')) : tSeq (tFor wi g tu) tw D σ H :=
  s_for (D := { D with nx := tw D }) hs k
end
end G
set_option maxHeartbeats 4000000
/-! enumerate(t), t a tuple -/
namespace G
open PySem PySem.Spec PyProof.Rows L2 Evl
theorem enum_newT (tp : Addr) (zs : Array Value) :
    Meets (Builtin.«enumerate.__new__» ⟨[.type "enumerate", .ref tp], []⟩) (fun _ R s => s.heap.IsTuple tp zs ∧
      R (.ok (.ret (.ref (s.heap.push { cls := .type "tuple_iterator", data := .fields #[.ref tp, .int 0 0] }).objs.size)))
        { s with heap := (s.heap.push { cls := .type "tuple_iterator", data := .fields #[.ref tp, .int 0 0] }).push { cls := .type "enumerate", data := .fields #[.none, .bool false, .ref s.heap.objs.size, rawInt 0, .none, .none] } }) :=
  .of_wp fun pr wo Ar Rr sh hh => by
    obtain ⟨h0, g0, d0, t0, o0⟩ := sh
    obtain ⟨hT, hR⟩ := hh
    have sb := sub_enumerate
    have q1 : ∀ {A' : Around} {E' : Value → Shared → Prop} {Q' : Value → Shared → Prop}, Q' (.ref h0.objs.size) ⟨h0.push { cls := .type "tuple_iterator", data := .fields #[.ref tp, .int 0 0] }, g0, d0, t0, o0⟩ → wpAny (model pr wo) A' (pyIter (.ref tp)) Q' E' ⟨h0, g0, d0, t0, o0⟩ :=
      fun q => (begins_tuple tp zs).iter pr wo _ _ ⟨h0, g0, d0, t0, o0⟩ _ hT q
    obtain ⟨ot, hot, hcls, nn, hdat⟩ := hT
    wp_walk using AutoSeq1.wpAny_loadPart' hot, q1
    refine wpAny_stack_any fun st => wpAny_pure ?_
    split
    · rename_i c _ _ _ _ _
      cases (c == Value.type "enumerate")
      · wp_walk using AutoSeq1.wpAny_loadPart' hot, q1
        exact ⟨_, rfl, hR⟩
      · wp_walk using AutoSeq1.wpAny_loadPart' hot, q1
        exact ⟨_, rfl, hR⟩
    · wp_walk using AutoSeq1.wpAny_loadPart' hot, q1
      exact ⟨_, rfl, hR⟩
section
variable {prog : Program} {w : World} {A : Around} {E : Value → Shared → Prop} {s : Shared}
theorem call_enumT {tp : Addr} {zs : Array Value} {Q : Value → Shared → Prop} (hT : s.heap.IsTuple tp zs)
    (h : ∀ h', IsEnum h' (s.heap.objs.size + 1) s.heap.objs.size 0 .none → h'.IsTupleIter s.heap.objs.size tp 0 → (∀ b o, s.heap.get? b = some o → h'.get? b = some o) → Q (.ref (s.heap.objs.size + 1)) { s with heap := h' }) :
    wpAny (model prog w) A (call (.type "enumerate") [.ref tp]) Q E s := by
  refine callType_new F.called_enumerate (by decide) (F.typeCall_enumerate_1 _) (F.newCall_enumerate_1 _) (fun obj => F.args_object_init_2 obj _) F.entry_enumerate_new (enum_newT tp zs) ⟨hT, ?_⟩
  have sz1 : (s.heap.push { cls := .type "tuple_iterator", data := .fields #[.ref tp, .int 0 0] }).objs.size = s.heap.objs.size + 1 := Heap.size_push ..
  refine ⟨?_, ?_⟩
  · exact ⟨_, Heap.get?_push_size _ rfl, rfl⟩
  · rw [sz1]
    refine h _ ?_ ⟨_, Heap.get?_push_of_some _ (Heap.get?_push_size _ rfl), rfl, rfl⟩ fun b o x => Heap.get?_push_of_some _ (Heap.get?_push_of_some _ x)
    have g2 := Heap.get?_push_size (s.heap.push { cls := .type "tuple_iterator", data := .fields #[.ref tp, .int 0 0] }) (o := { cls := .type "enumerate", data := .fields #[.none, .bool false, .ref s.heap.objs.size, rawInt 0, .none, .none] }) rfl
    rw [sz1] at g2
    exact g2
end
/-- the tuple at a, each item in a new pair -/
def ItU (K : PySem.W.Frag) (a : Addr) : It :=
  ⟨fun i H => ∃ (xs : List V) (x : V), SqT K H a xs ∧ xs[i]? = some x, fun i H v H' => ∃ T x, v = .ref T ∧ H T = none ∧ H' = upd H T (.tup [.int (i : Nat), x]) ∧ ∀ xs, SqT K H a xs → xs[i]? = some x, fun i H => ∃ xs : List V, SqT K H a xs ∧ xs.length = i⟩
theorem turn_enumT {P : Program} {w : World} {K : PySem.W.Frag} {elts : List Expr} {kk : Nat} {tpos : Pos} (a e it : Addr) :
    Turn P w K (.Tuple elts kk tpos) (ItU K a) [e, it] e (fun i h => (∃ old, IsEnum h e it ((i : Nat) : Int) old) ∧ h.IsTupleIter it a i ∧ e ≠ it) where
  mem := by simp
  obj := fun i h st b hb => by
    obtain ⟨⟨old, hE⟩, ⟨o, h1, h2, h3⟩, _⟩ := st
    rcases (show b = e ∨ b = it by simpa using hb) with z | z
    · subst z
      exact ⟨_, hE, fun v q => nomatch q⟩
    · subst z
      exact ⟨o, h1, fun v q => by rw [h3] at q; cases q⟩
  keep := fun i h h' st k => ⟨⟨st.1.choose, k e (by simp) _ st.1.choose_spec⟩, st.2.1.at fun o q => k it (by simp) o q, st.2.2⟩
  item := by
    intro X e1 e2 e3 hc i pins s σ H EE I hf st hg
    subst e1 e2 e3
    obtain ⟨⟨old, hE⟩, hit, hne⟩ := st
    obtain ⟨xs, x, hq, hx⟩ := hg
    obtain ⟨its, rv, p, hz⟩ := I.tuple hq
    obtain ⟨u, hu, ru⟩ := rv.get hx
    have pT : s.heap.IsTuple a its.toArray := p
    have nae : a ≠ e := fun z => by
      obtain ⟨o, g1, g2, _⟩ := pT
      rw [z, show s.heap.get? e = _ from hE] at g1
      cases g1
      exact absurd (Value.type.inj g2) (by decide)
    have nai : a ≠ it := fun z => by
      obtain ⟨o, g1, g2, _⟩ := pT
      obtain ⟨o', g1', g2', _⟩ := hit
      rw [z, g1'] at g1
      cases g1
      rw [g2'] at g2
      exact absurd (Value.type.inj g2) (by decide)
    have hi : i < its.toArray.size := by
      have := (List.getElem?_eq_some_iff.mp hu).1
      simpa using this
    have hd : X.A.in1.handled = none := I.ok.hd hc
    refine wpAny_pyNext_enum_itemD (Draws.tuple hd it a nai its.toArray) hE ⟨hit, pT⟩ hi hne (by simp [hne, Ne.symm nae]) fun y h' tk hy ho hs' hT hsz hk => ?_
    have hyu : y = u := by
      have q : its.toArray[i]? = some u := by simpa using hu
      rw [q] at hy
      exact (Option.some.inj hy).symm
    subst hyu
    have hel : e < s.heap.objs.size := Heap.lt_size hE
    have hil : it < s.heap.objs.size := by
      obtain ⟨_, q, _⟩ := hit
      exact Heap.lt_size q
    refine ⟨_, rfl, wpAny_letOwnedTupleGo_enum (s := { s with heap := h', toks := tk + 1 }) ho fun h2 hE2 sb => ?_⟩
    have hT2 : h2.get? s.heap.objs.size = some { cls := .type "tuple", data := .seq #[.int i tk, y] } := (sb.2 _ (Nat.ne_of_gt hel)).trans hT
    have new : ObjOk X.prog X.w (upd H s.heap.objs.size (.tup [.int (i : Nat), x])) h2 s.heap.objs.size (.tup [.int (i : Nat), x]) := ⟨(by decide : 2 ≤ sizeLine), [.int i tk, y], .cons ⟨_, rfl⟩ (.cons ru .nil), ⟨_, hT2, rfl, _, rfl⟩⟩
    have I1 : Inv X pins σ (upd H s.heap.objs.size (.tup [.int (i : Nat), x])) { s with heap := h2, toks := tk + 1 } :=
      I.turnedNew (ch := [e, it]) (fun b ob hb q => (sb.2 b fun z => hb (z ▸ by simp)).trans (hk b ob (fun z => hb (z ▸ by simp)) (fun z => hb (z ▸ by simp)) q)) hf (Nat.le_refl _) new
    refine ⟨.ref s.heap.objs.size, _, I1, rfl, ⟨_, x, rfl, I.hok.fresh (Nat.le_refl _), rfl, fun ys hy => by rw [I.tuple_inj hy hq]; exact hx⟩, ⟨⟨y, ?_⟩, hs'.1.at fun o q => (sb.2 it (Ne.symm hne)).trans q, hne⟩, fun b hb => ?_⟩
    · rw [show ((i + 1 : Nat) : Int) = (i : Int) + 1 by omega]
      exact hE2
    · have hlt : b < s.heap.objs.size := by
        rcases (show b = e ∨ b = it by simpa using hb) with z | z
        · exact z ▸ hel
        · exact z ▸ hil
      rw [upd_ne (Nat.ne_of_lt hlt)]
      exact (hf b hb).1
  done := by
    intro X e1 e2 e3 hc i pins s σ H EE I hf st hg
    subst e1 e2 e3
    obtain ⟨⟨old, hE⟩, hit, hne⟩ := st
    obtain ⟨xs, hq, hx⟩ := hg
    obtain ⟨its, rv, p, hz⟩ := I.tuple hq
    have pT : s.heap.IsTuple a its.toArray := p
    have nai : a ≠ it := fun z => by
      obtain ⟨o, g1, g2, _⟩ := pT
      obtain ⟨o', g1', g2', _⟩ := hit
      rw [z, g1'] at g1
      cases g1
      rw [g2'] at g2
      exact absurd (Value.type.inj g2) (by decide)
    obtain ⟨f0, f1, f2, f3, f4, f5⟩ := hf it (by simp)
    have hl := rv.length
    have hd : X.A.in1.handled = none := I.ok.hd hc
    have ei : i = its.toArray.size := by simp; omega
    subst ei
    exact wpAny_pyNext_enum_endD (Draws.tuple hd it a nai its.toArray) hE ⟨hit, pT⟩ fun h' eb => ⟨rfl, I.turned (t' := s.toks) (fun b o hb q => eb b o hb q) f0 f1 f3 f4 f5⟩
  self := fun AA i s Q EE st h => wpAny_pyIter_enum st.1.choose_spec h
def iEnumT (K : PySem.W.Frag) (ta : TA) : TI := fun σ H R => ta σ H fun vs H1 => ∃ a xs, vs = [.ref a] ∧ SqT K H1 a xs ∧ R (ItU K a) H1
theorem pi_enumT {X : Cx} {e : Expr} {ta : TA} {p pos tpos : Pos} {elts : List Expr} {kk : Nat} (hg : Gl X "enumerate") (hm : X.mg "enumerate" = none) (ha : PA X [e] ta) (hs : starEach [e] X.env = [(false, eval e X.env)] := by rfl) :
    PI X (.Tuple elts kk tpos) (.Call (.Name "enumerate" p) [e] [] pos) (iEnumT X.K ta) := ⟨fun pins s σ H R I h => by
  refine Call_ (ld_blt I hg hm boot_enumerate (PyProof.Rows.callWith_type1 (thn (ha.run pos pins s σ H _ I h) fun us s1 ⟨vs, H1, I1, r1, q1⟩ => ?_) hs rfl))
  obtain ⟨a, xs, ex, hq, q⟩ := q1
  subst ex
  obtain ⟨u, rfl, rx⟩ := vals1 r1
  cases rx
  obtain ⟨its, rv, p', hz⟩ := I1.tuple hq
  refine call_enumT (show s1.heap.IsTuple a its.toArray from p') fun h' hE hit hk => wpAny_pyIter_enum hE ?_
  refine ⟨s1.heap.objs.size + 1, [s1.heap.objs.size + 1, s1.heap.objs.size], _, _, H1, rfl, I1.kept (t' := s1.toks) hk, turn_enumT a (s1.heap.objs.size + 1) s1.heap.objs.size, ⟨⟨.none, hE⟩, hit, Nat.succ_ne_self _⟩, fun b hb => ?_, q⟩
  have hle : s1.heap.objs.size ≤ b := by
    rcases (show b = s1.heap.objs.size + 1 ∨ b = s1.heap.objs.size by simpa using hb) with z | z
    · rw [z]
      exact Nat.le_succ _
    · rw [z]
      exact Nat.le_refl _
  exact I1.fpOk hle (I1.hok.fresh hle)⟩
theorem walk_enumT {K : PySem.W.Frag} {a : Addr} {xs : List V} : Walk (ItU K a) xs.length (fun H => H a = some (.tup xs)) (fun i H v H' => ∃ T, v = .ref T ∧ H T = none ∧ ∃ x, H' = upd H T (.tup [.int (i : Nat), x]) ∧ xs[i]? = some x) :=
  ⟨fun i _ hi q => ⟨xs, xs[i], SqT.of q, by simp [hi]⟩, fun _ q => ⟨xs, SqT.of q, rfl⟩, fun i H v H' _ q y => by
    obtain ⟨T, x, h1, h2, h3, h4⟩ := y
    exact ⟨T, h1, h2, x, h3, h4 xs (SqT.of q)⟩⟩
/-- the pairs of an enumeration -/
def enumD (ds : List PyData) : List PyData := (List.range ds.length).map fun i => .tuple [.int (i : Nat), ds.getD i .none]
theorem enumD_get {ds : List PyData} {i : Nat} {d : PyData} (h : ds[i]? = some d) : (enumD ds)[i]? = some (.tuple [.int (i : Nat), d]) := by
  have hi := (List.getElem?_eq_some_iff.mp h).1
  unfold enumD
  rw [List.getElem?_map, List.getElem?_range hi]
  show some (PyData.tuple [.int (i : Nat), ds.getD i .none]) = _
  rw [List.getD_eq_getElem?_getD, h]
  rfl
theorem src_enumT {K : PySem.W.Frag} {B : Addr → Prop} {σ : L2.St} {H : Hp} {ta : TA} {ds : List PyData} (h : EvAD B ta σ H [.tuple ds]) (hn : ds.length ≤ 100000) : SrcD B (iEnumT K ta) σ H (enumD ds) := fun H1 x R q => h H1 x _ fun vs H2 x2 dv => by
  obtain ⟨v, rfl, hv⟩ := dv.one'
  obtain ⟨a, xs, rfl, ha, nb, r⟩ := hv.tup'
  have hlen : (enumD ds).length = xs.length := by unfold enumD; rw [List.length_map, List.length_range, r.length]
  refine ⟨a, xs, rfl, SqT.of ha, q (ItU K a) (fun H => H a = some (.tup xs)) _ H2 x2 (by rw [hlen]; exact walk_enumT) fun B' H3 up => ⟨(up.keep a _ ha nb).1, fun i y H4 z => ?_⟩⟩
  obtain ⟨T, rfl, hT, u, rfl, hu⟩ := z
  refine ⟨Ex.new hT, fun hi => ?_⟩
  obtain ⟨d, hd, dd⟩ := (r.up up).get' hu
  exact ⟨_, enumD_get hd, .tup (by show 2 ≤ 100000; decide) upd_same (up.ok.new hT) (.cons (.int _ (fit_nat (by have := (List.getElem?_eq_some_iff.mp hu).1; have := r.length; omega))) (.cons (dd.ex (Ex.new hT)) .nil))⟩
end G
set_option maxHeartbeats 4000000
/-! == and != of a list (a tuple) and an empty one, whatever the items are -/
namespace G
open PySem PySem.Spec PyProof.Rows L2 Evl
def rCmpE (K : PySem.W.Frag) (neg : Bool) : R2 := fun x y H Q => ∃ a b xs, x = .ref a ∧ y = .ref b ∧ (SqL K H a xs ∧ SqL K H b [] ∨ SqT K H a xs ∧ SqT K H b []) ∧ Q (.bl (if neg = true then !xs.isEmpty else xs.isEmpty)) H
section
variable {X : Cx}
theorem op_eqE (hu : X.A.units < cLine) : OpR X (compareOp .Eq) (rCmpE X.K false) := fun pins s σ H x y v u Q I rx ry h => by
  obtain ⟨a, b, xs, rfl, rfl, hs, q⟩ := h
  cases rx
  cases ry
  rcases hs with ⟨ha, hb⟩ | ⟨ha, hb⟩
  · obtain ⟨its, r1, p1, _⟩ := I.list ha
    obtain ⟨iu, r2, p2, _⟩ := I.list hb
    cases r2
    cases r1 with
    | nil => exact SeqAt.RcAt.lists (e := fun _ => true) p1.isList p2.isList rfl hu (fun j h1 _ => absurd h1 (Nat.not_lt_zero _)) _ _ _ _ ⟨.bl _, H, I, rfl, q⟩
    | cons r rr => exact SeqAt.RcAt.lists_lengths p1.isList p2.isList (by simp) hu _ _ _ _ ⟨.bl _, H, I, rfl, q⟩
  · obtain ⟨its, r1, p1, _⟩ := I.tuple ha
    obtain ⟨iu, r2, p2, _⟩ := I.tuple hb
    cases r2
    cases r1 with
    | nil => exact SeqAt.RcAt.tuples (e := fun _ => true) (show s.heap.IsTuple a _ from p1) (show s.heap.IsTuple b _ from p2) hu (fun j h1 _ => absurd h1 (Nat.not_lt_zero _)) _ _ _ _ ⟨.bl _, H, I, rfl, q⟩
    | cons r rr => exact SeqAt.RcAt.tuples (e := fun _ => true) (show s.heap.IsTuple a _ from p1) (show s.heap.IsTuple b _ from p2) hu (fun j _ h2 => absurd h2 (Nat.not_lt_zero _)) _ _ _ _ ⟨.bl _, H, I, rfl, q⟩
theorem op_neE (hu : X.A.units < cLine) : OpR X (compareOp .NotEq) (rCmpE X.K true) := fun pins s σ H x y v u Q I rx ry h => by
  obtain ⟨a, b, xs, rfl, rfl, hs, q⟩ := h
  cases rx
  cases ry
  rcases hs with ⟨ha, hb⟩ | ⟨ha, hb⟩
  · obtain ⟨its, r1, p1, _⟩ := I.list ha
    obtain ⟨iu, r2, p2, _⟩ := I.list hb
    cases r2
    cases r1 with
    | nil => exact SeqAt.RcNeAt.lists (e := fun _ => true) p1.isList p2.isList rfl hu (fun j h1 _ => absurd h1 (Nat.not_lt_zero _)) _ _ _ _ ⟨.bl _, H, I, rfl, q⟩
    | cons r rr => exact SeqAt.RcNeAt.lists_lengths p1.isList p2.isList (by simp) hu _ _ _ _ ⟨.bl _, H, I, rfl, q⟩
  · obtain ⟨its, r1, p1, _⟩ := I.tuple ha
    obtain ⟨iu, r2, p2, _⟩ := I.tuple hb
    cases r2
    cases r1 with
    | nil => exact SeqAt.RcNeAt.tuples (e := fun _ => true) (show s.heap.IsTuple a _ from p1) (show s.heap.IsTuple b _ from p2) hu (fun j h1 _ => absurd h1 (Nat.not_lt_zero _)) _ _ _ _ ⟨.bl _, H, I, rfl, q⟩
    | cons r rr => exact SeqAt.RcNeAt.tuples (e := fun _ => true) (show s.heap.IsTuple a _ from p1) (show s.heap.IsTuple b _ from p2) hu (fun j _ h2 => absurd h2 (Nat.not_lt_zero _)) _ _ _ _ ⟨.bl _, H, I, rfl, q⟩
end
theorem hu0 {A : Around} {k : Nat} (hr : Room k A) : A.units < cLine := Nat.lt_of_succ_lt (hu_of hr)
section
variable {K : PySem.W.Frag} {B : Addr → Prop} {σ : L2.St} {H : Hp} {tl : TE} {ds : List PyData} {neg : Bool}
theorem isEmpty_len {α β : Type} {xs : List α} {ys : List β} (h : xs.length = ys.length) : xs.isEmpty = ys.isEmpty := by
  cases xs <;> cases ys <;> simp at h <;> rfl
theorem vd_cmpE (h : EvD B tl σ H (.list ds)) : EvD B (tOp (rCmpE K neg) tl (tLst tNil)) σ H (.bool (if neg = true then !ds.isEmpty else ds.isEmpty)) := fun H1 x Q q => h H1 x _ fun v H2 x2 dv => by
  obtain ⟨a, xs, rfl, ha, _, r⟩ := dv.lst'
  refine ⟨(by decide : 0 ≤ sizeLine), fun p hp => ⟨a, p, xs, rfl, rfl, .inl ⟨SqL.of (Ex.new hp a _ ha), SqL.of upd_same⟩, ?_⟩⟩
  rw [isEmpty_len r.length]
  exact q _ _ (x2.trans (Ex.new hp)) (.bl _)
theorem vd_cmpET (h : EvD B tl σ H (.tuple ds)) : EvD B (tOp (rCmpE K neg) tl (tTup tNil)) σ H (.bool (if neg = true then !ds.isEmpty else ds.isEmpty)) := fun H1 x Q q => h H1 x _ fun v H2 x2 dv => by
  obtain ⟨a, xs, rfl, ha, _, r⟩ := dv.tup'
  refine ⟨(by decide : 0 ≤ sizeLine), fun p hp => ⟨a, p, xs, rfl, rfl, .inr ⟨SqT.of (Ex.new hp a _ ha), SqT.of upd_same⟩, ?_⟩⟩
  rw [isEmpty_len r.length]
  exact q _ _ (x2.trans (Ex.new hp)) (.bl _)
/-- a list that is the def's own, or locked -/
theorem vd_cmpL {a : Addr} {xs : List V} (h : Ev tl σ H (.ref a)) (ha : SqL K H a xs) : EvD B (tOp (rCmpE K neg) tl (tLst tNil)) σ H (.bool (if neg = true then !xs.isEmpty else xs.isEmpty)) := fun H1 x Q q => h H1 x _ fun H2 x2 =>
  ⟨(by decide : 0 ≤ sizeLine), fun p hp => ⟨a, p, xs, rfl, rfl, .inl ⟨ex_l ((x.trans x2).trans (Ex.new hp)) ha, SqL.of upd_same⟩, q _ _ (x2.trans (Ex.new hp)) (.bl _)⟩⟩
end
end G
set_option maxHeartbeats 4000000
/-! lists of the def's own, slices, sums of tuples, while -/
namespace G
open PySem PySem.Spec PyProof.Rows L2 Evl
section
variable {K : PySem.W.Frag} {B : Addr → Prop} {σ : L2.St} {H H' : Hp} {te ta tb td ty tv : TE} {t : TT} {d e : PyData} {l : Addr} {D : Ends} {tu tw tz : TS} {xs : List V} {ds es : List PyData}
theorem szP {n : Nat} (h : n ≤ 10000000) : n ≤ sizeLine := Nat.le_trans h (by decide)
theorem vd_catT (ha : EvD B ta σ H (.tuple ds)) (hb : EvD B tb σ H (.tuple es)) (hB : BOk B H) (hl : ds.length + es.length ≤ 100000) : EvD B (tOp (rCatA K) ta tb) σ H (.tuple (ds ++ es)) := fun H1 x Q q =>
  ha H1 x _ fun v H2 x2 dv => hb H2 (x.trans x2) _ fun u H3 x3 du => by
    have dv3 := dv.ex x3
    obtain ⟨a, xs, rfl, hxa, na, ra⟩ := dv3.tup'
    have du0 := du
    obtain ⟨b, ys, rfl, hyb, nb, rb⟩ := du.tup'
    have la := ra.length
    have lb := rb.length
    refine ⟨a, b, xs, ys, rfl, rfl, SqT.of hxa, SqT.of hyb, szP (by omega), ?_, ?_, ?_⟩
    · rintro rfl
      cases ra
      exact q _ H3 (x2.trans x3) du0
    · rintro _ rfl
      cases rb
      rw [List.append_nil] at q
      exact q _ H3 (x2.trans x3) dv3
    · intro _ _ p hp
      exact q _ _ ((x2.trans x3).trans (Ex.new hp)) (.tup (by rw [List.length_append]; omega) upd_same ((hB.ex ((x.trans x2).trans x3)).new hp) ((ra.ex (Ex.new hp)).append (rb.ex (Ex.new hp))))
theorem vd_catL (ha : EvD B ta σ H (.list ds)) (hb : EvD B tb σ H (.list es)) (hB : BOk B H) (hl : ds.length + es.length ≤ 100000) : EvD B (tOp rCat ta tb) σ H (.list (ds ++ es)) := fun H1 x Q q =>
  ha H1 x _ fun v H2 x2 dv => hb H2 (x.trans x2) _ fun u H3 x3 du => by
    have dv3 := dv.ex x3
    obtain ⟨a, xs, rfl, hxa, na, ra⟩ := dv3.lst'
    obtain ⟨b, ys, rfl, hyb, nb, rb⟩ := du.lst'
    have la := ra.length
    have lb := rb.length
    refine ⟨a, b, xs, ys, rfl, rfl, hxa, hyb, szP (by omega), fun p hp => ?_⟩
    exact q _ _ ((x2.trans x3).trans (Ex.new hp)) (.lst (by rw [List.length_append]; omega) upd_same ((hB.ex ((x.trans x2).trans x3)).new hp) ((ra.ex (Ex.new hp)).append (rb.ex (Ex.new hp))))
theorem vd_rev (h : EvD B te σ H (.list ds)) (hB : BOk B H) : EvD B (tRevL K te) σ H (.list ds.reverse) := fun H1 x Q q => h H1 x _ fun v H2 x2 dv => by
  have hl := dv.lenL
  obtain ⟨a, xs, rfl, ha, na, ra⟩ := dv.lst'
  refine ⟨a, xs, rfl, SqL.of ha, fun p hp => q _ _ (x2.trans (Ex.new hp)) (.lst ?_ upd_same ((hB.ex (x.trans x2)).new hp) (ra.reverse.ex (Ex.new hp)))⟩
  rw [List.length_reverse, ra.length]
  exact hl
/-- xs.append(e), xs.extend(ys), of a list that is the def's own -/
theorem z_app (hl : H l = some (.lst xs)) (ha : Ev ta σ H (.ref l)) (h : EvD B te σ H d) (hz : xs.length ≤ 10000000) (k : ∀ v H1, Ex H H1 → Den B H1 v d → tw D σ (upd H1 l (.lst (xs ++ [v])))) :
    tSeq (tDrop (tBM K "list" rAppend ta (tCons te tNil))) tw D σ H := ha H (Ex.refl H) _ fun H1 e1 =>
  ⟨Or.inl ⟨rfl, xs, sq_of (e1 l _ hl)⟩, h H1 e1 _ fun v H2 e2 dv => ⟨l, xs, v, rfl, rfl, e2 l _ (e1 l _ hl), Nat.lt_of_le_of_lt hz (by decide), k v H2 (e1.trans e2) dv⟩⟩
theorem z_ext (hl : H l = some (.lst xs)) (ha : Ev ta σ H (.ref l)) (h : EvD B te σ H (.list ds)) (hz : xs.length + ds.length ≤ 10000000) (k : ∀ vs H1, Ex H H1 → Dens B H1 vs ds → tw D σ (upd H1 l (.lst (xs ++ vs)))) :
    tSeq (tDrop (tBM K "list" rExtend ta (tCons te tNil))) tw D σ H := ha H (Ex.refl H) _ fun H1 e1 =>
  ⟨Or.inl ⟨rfl, xs, sq_of (e1 l _ hl)⟩, h H1 e1 _ fun v H2 e2 dv => by
    obtain ⟨b, zs, rfl, hb, nb, rb⟩ := dv.lst'
    exact ⟨l, b, xs, zs, rfl, rfl, e2 l _ (e1 l _ hl), hb, szP (by rw [rb.length]; exact hz), k zs H2 (e1.trans e2) rb⟩⟩
/-- a, b = xs.pop() -/
theorem z_pop2 {j i : Nat} {v : V} (hl : H l = some (.lst (xs ++ [v]))) (ha : Ev ta σ H (.ref l)) (hd : Den B H v (.tuple [d, e])) (hb : B l) (k : ∀ a b H1, Kp B H H1 → (∀ c o, c ≠ l → H c = some o → H1 c = some o) → H1 l = some (.lst xs) → Den B H1 a d → Den B H1 b e → tw D ((σ.set j (some a)).set i (some b)) H1) :
    tSeq (tAsg (tBM0 K "list" rPop ta) (gTup K 2 (gCons (gName j) (gCons (gName i) gNil)))) tw D σ H := ha H (Ex.refl H) _ fun H1 e1 => by
  have hl1 := e1 l _ hl
  have kw : Kp B H1 (upd H1 l (.lst xs)) := (Kp.refl H1).wr hb
  have kh : Kp B H (upd H1 l (.lst xs)) := (Kp.of e1).trans kw
  refine ⟨Or.inl ⟨rfl, _, sq_of hl1⟩, l, _, v, rfl, rfl, hl1, by simp, ?_⟩
  rw [List.dropLast_concat]
  exact g_pair (hd.kp kh) fun a b da db => k a b _ kh (fun c o n h => by rw [upd_ne n]; exact e1 c o h) upd_same da db
theorem z_while (W : Nat → L2.St → Hp → Prop) (m0 : Nat) (h0 : W m0 σ H)
    (hs : ∀ m σ' H', W m σ' H' → ∃ b, EvT t σ' H' b ∧ (b = true → ∀ H1, Ex H' H1 → ∀ D' : Ends, D'.rt = D.rt → (∀ m' σ2 H2, m' < m → W m' σ2 H2 → D'.nx σ2 H2) → tu D' σ' H1) ∧ (b = false → ∀ H1, Ex H' H1 → tw D σ' H1)) : tSeq (tWhile t tu) tw D σ H :=
  q_while W m0 h0 fun m σ' H' w => by
    obtain ⟨b, h1, h2, h3⟩ := hs m σ' H' w
    exact ⟨b, h1, fun hb H1 x => ⟨fun σ2 H2 => ∃ m', m' < m ∧ W m' σ2 H2, fun _ _ z => z, h2 hb H1 x _ rfl fun m' σ2 H2 a c => ⟨m', a, c⟩⟩, h3⟩
/-- a, b = e, f -/
theorem z_par {i j : Nat} (h1 : EvD B ta σ H d) (h2 : EvD B tb σ H e) (k : ∀ v u H1, Ex H H1 → Den B H1 v d → Den B H1 u e → tw D ((σ.set i (some v)).set j (some u)) H1) : tSeq (tPar i j (tCons ta (tCons tb tNil))) tw D σ H :=
  h1 H (Ex.refl H) _ fun v H1 x1 dv => h2 H1 x1 _ fun u H2 x2 du => ⟨v, u, rfl, k v u H2 (x1.trans x2) (dv.ex x2) du⟩
end
/-! ### further statements -/
section
variable {K : PySem.W.Frag} {B : Addr → Prop} {σ : L2.St} {H H' : Hp} {te ta tb : TE} {t : TT} {d e : PyData} {D : Ends} {tu tw tz : TS}
theorem set_same {i : Nat} {v : V} (h : σ[i]? = some (some v)) : σ.set i (some v) = σ := by
  obtain ⟨hi, e⟩ := List.getElem?_eq_some_iff.mp h
  rw [← e]
  exact List.set_getElem_self hi
/-- if t: x = e -/
theorem z_ifAsg {b : Bool} {i : Nat} (h : EvT t σ H b) (h1 : b = true → EvD B te σ H d) (h0 : b = false → ∃ v, σ[i]? = some (some v) ∧ Den B H v d) (k : ∀ v H1, Ex H H1 → Den B H1 v d → tw D (σ.set i (some v)) H1) :
    tSeq (tIfS t (tAsg te (gName i)) tNext) tw D σ H := h H (Ex.refl H) _ fun H1 x1 => by
  cases b with
  | true => exact iteT (h1 rfl H1 x1 _ fun v H2 x2 dv => k v H2 (x1.trans x2) dv)
  | false =>
    obtain ⟨v, hv, dv⟩ := h0 rfl
    have q := k v H1 x1 (dv.ex x1)
    rw [set_same hv] at q
    exact iteF q
theorem z_aug {i : Nat} {f : Int → Int → Int} {a b : Int} (hx : σ[i]? = some (some (.int a))) (h : EvD B te σ H (.int b)) (k : ∀ H1, Ex H H1 → tw D (σ.set i (some (.int (f a b)))) H1) : tSeq (tAug i te (ipI f)) tw D σ H :=
  ⟨.int a, hx, h H (Ex.refl H) _ fun v H1 e dv => ⟨a, b, rfl, dv.int', k H1 e⟩⟩
end
/-! ### [e for .. in .. for x in ..] -/
section
variable {K : PySem.W.Frag} {B : Addr → Prop} {σ : L2.St} {H H' : Hp} {te ta tb : TE} {g g1 : TG} {wi wi1 : TI}
theorem in_it {J : It} {n : Nat} {G : Hp → Prop} {Z : Nat → Hp → V → Hp → Prop} (w : Walk J n G Z) {vs : List Nat} {D : Addr} {Qd : Hp → Prop} (Pv : Nat → Hp → Prop) (h0 : Pv 0 H) (hG : ∀ i H, i ≤ n → Pv i H → G H)
    (hs : ∀ i x H H', i < n → Pv i H → Z i H x H' → g x (wipe σ vs) H' fun σ2 H2 => wipe σ2 vs = wipe σ vs ∧ te σ2 H2 fun y H4 => ∃ acc, H4 D = some (.lst acc) ∧ acc.length < sizeLine ∧ Pv (i + 1) (upd H4 D (.lst (acc ++ [y])))) (hd : ∀ H, Pv n H → Qd H) :
    ∃ W : Nat → Nat → Hp → Prop, (∃ m, W 0 m H) ∧ ∀ i m H, W i m H →
      (J.stop i H ∧ Qd H) ∨ (J.go i H ∧ ∃ Nx : Hp → Prop, (∀ H', Nx H' → ∃ m', m' < m ∧ W (i + 1) m' H') ∧ ∀ x H', J.yld i H x H' → g x (wipe σ vs) H' fun σ2 H2 => wipe σ2 vs = wipe σ vs ∧ tYes σ2 H2 fun b H3 =>
        if b = true then te σ2 H3 fun y H4 => ∃ acc, H4 D = some (.lst acc) ∧ acc.length < sizeLine ∧ Nx (upd H4 D (.lst (acc ++ [y]))) else Nx H3) := by
  refine ⟨fun i m H => m + i = n ∧ Pv i H, ⟨n, rfl, h0⟩, ?_⟩
  rintro i m H ⟨e, p⟩
  have q := hG i H (by omega) p
  by_cases hlt : i < n
  · exact .inr ⟨w.goes i H hlt q, Pv (i + 1), fun H' p' => ⟨m - 1, by omega, by omega, p'⟩, fun x H' y => hs i x H H' hlt p (w.yields i H x H' hlt q y)⟩
  · have e2 : i = n := by omega
    subst e2
    exact .inl ⟨w.stops H q, hd H p⟩
theorem vd_lc2 {vs vs1 : List Nat} {ds : List PyData} (hB : BOk B H) (hs : SrcD B wi σ H ds) (inner : PyData → List PyData) (F : PyData → PyData) (hn : (ds.flatMap inner).length ≤ 100000)
    (he : ∀ B' H1, Up B H B' H1 → ∀ d ∈ ds, ∀ x, Den B' H1 x d → ∀ Q : L2.St → Hp → Prop, (∀ σ2 H2, Ex H1 H2 → wipe σ2 vs = wipe σ vs → SrcD B' wi1 σ2 H2 (inner d) → (∀ B2 H3, Up B' H2 B2 H3 → ∀ e ∈ inner d, ∀ y, Den B2 H3 y e → ∀ Q' : L2.St → Hp → Prop, (∀ σ3 H4, Ex H3 H4 → wipe σ3 vs1 = wipe σ2 vs1 → EvD B2 te σ3 H4 (F e) → Q' σ3 H4) → g1 y (wipe σ2 vs1) H3 Q') → Q σ2 H2) → g x (wipe σ vs) H1 Q) :
    EvD B (tLc2 wi g tYes wi1 g1 tYes te vs vs1) σ H (.list ((ds.flatMap inner).map F)) := fun H1 x Q q =>
  hs H1 x _ fun J G Z H2 x2 w hY D hD => by
    have hB2 : BOk B H2 := hB.ex (x.trans x2)
    refine ⟨fun i m H3 => m + i = ds.length ∧ (Ex H2 H3 ∧ ∃ acc, H3 D = some (.lst acc) ∧ Dens (Add B D) H3 acc (((ds.take i).flatMap inner).map F)), ⟨ds.length, rfl, Ex.new hD, [], upd_same, .nil⟩, ?_⟩
    rintro i m H3 ⟨em, x3, acc, hacc, dacc⟩
    have hG := (hY _ _ (upAdd hB2 x3 hD hacc)).1
    by_cases hi : i < ds.length
    · refine .inr ⟨w.goes i H3 hi hG, fun H4 => Ex H2 H4 ∧ ∃ acc, H4 D = some (.lst acc) ∧ Dens (Add B D) H4 acc (((ds.take (i + 1)).flatMap inner).map F), fun H' p => ⟨m - 1, by omega, by omega, p⟩, ?_⟩
      intro y H4 hyl
      obtain ⟨x4, hy⟩ := (hY _ _ (upAdd hB2 x3 hD hacc)).2 i y H4 (w.yields i H3 y H4 hi hG hyl)
      obtain ⟨d, hd, dy⟩ := hy hi
      have up4 := upAdd hB2 (x3.trans x4) hD (x4 D _ hacc)
      have upH : Up B H (Add B D) H4 := (Up.of hB (x.trans x2)).trans up4
      refine he _ _ upH d (List.mem_of_getElem? hd) y dy _ ?_
      intro σ2 H5 x5 hw hsrc hin
      refine ⟨hw, ?_⟩
      unfold tYes
      simp only [if_true]
      refine hsrc H5 (Ex.refl H5) _ fun J1 G1 Z1 H6 x6 w1 hY1 => ?_
      have e6 : Ex H3 H6 := (x4.trans x5).trans x6
      have up6 : Up B H2 (Add B D) H6 := (up4.ex x5).ex x6
      have hflat : (ds.take (i + 1)).flatMap inner = (ds.take i).flatMap inner ++ inner d := by
        rw [take_succ_of hd, List.flatMap_append]
        simp
      have hle : ((ds.take i).flatMap inner ++ inner d).length ≤ 100000 := by
        rw [← hflat]
        have e := List.take_append_drop (i + 1) ds
        have e2 : ds.flatMap inner = (ds.take (i + 1)).flatMap inner ++ (ds.drop (i + 1)).flatMap inner := by rw [← List.flatMap_append, e]
        rw [e2, List.length_append] at hn
        omega
      refine in_it w1 (fun j H7 => Kp (Add B D) H6 H7 ∧ Ex H2 H7 ∧ ∃ acc, H7 D = some (.lst acc) ∧ Dens (Add B D) H7 acc (((ds.take i).flatMap inner ++ (inner d).take j).map F)) ⟨Kp.refl _, x3.trans e6, acc, e6 D _ hacc, by rw [List.take_zero, List.append_nil]; exact dacc.ex e6⟩ (fun j H7 _ p => (hY1 _ _ ((Up.refl up6.ok).kp p.1)).1) ?_ ?_
      · rintro j z H7 H8 hj ⟨k7, x7, acc7, hacc7, dacc7⟩ hz
        have up7 : Up (Add B D) H6 (Add B D) H7 := (Up.refl up6.ok).kp k7
        obtain ⟨x8, hz2⟩ := (hY1 _ _ up7).2 j z H8 hz
        obtain ⟨e, hje, de⟩ := hz2 hj
        have up8 : Up (Add B D) H5 (Add B D) H8 := ((Up.of (up4.ex x5).ok x6).trans up7).ex x8
        refine hin _ _ up8 e (List.mem_of_getElem? hje) z de _ ?_
        intro σ3 H9 x9 hw3 hv
        refine ⟨hw3, hv H9 (Ex.refl H9) _ fun v H10 x10 dv => ⟨acc7, x10 D _ (x9 D _ (x8 D _ hacc7)), ?_, ?_⟩⟩
        · rw [dacc7.length, List.length_map, List.length_append, List.length_take]
          rw [List.length_append] at hle
          exact Nat.lt_of_le_of_lt (show _ ≤ 100000 by omega) (by decide)
        · have ee := (x8.trans x9).trans x10
          have kw : Kp (Add B D) H10 (upd H10 D (.lst (acc7 ++ [v]))) := (Kp.refl H10).wr (.inr rfl)
          refine ⟨(k7.trans (.of ee)).trans kw, (x7.trans ee).mut hD, _, upd_same, ?_⟩
          rw [take_succ_of hje, ← List.append_assoc, List.map_append]
          exact ((dacc7.ex ee).kp kw).append (.cons (dv.kp kw) .nil)
      · rintro H7 ⟨k7, x7, acc7, hacc7, dacc7⟩
        rw [List.take_length] at dacc7
        exact ⟨x7, acc7, hacc7, by rw [hflat]; exact dacc7⟩
    · have ei : i = ds.length := by omega
      subst ei
      rw [List.take_length] at dacc
      exact .inl ⟨w.stops H3 hG, q _ H3 (x2.trans x3) (.lst (by rw [dacc.length, List.length_map]; exact hn) hacc (hB2.new hD) (dacc.le fun b h => .inl h))⟩
end
/-! ### paths and entries -/
def pathD (p : List Nat) : PyData := .tuple (p.map fun n => .int (n : Nat))
def entD (e : Ent) : PyData := .tuple [pathD e.1, e.2]
/-! a list's method with one argument -/
section
variable {X : Cx} {o e : Expr} {to te : TE} {ap cp : Pos}
theorem e_app (ho : PE X o to) (ha : PE X e te) (hbase : attributeBase o "append" X.env (eval o X.env) = eval o X.env := by rfl)
    (hfew : ((backTo cp (starEach [e] X.env)).all (fun x => !x.1) && (backToKw cp (keywordEach [] X.env)).all (fun x => x.1.isSome) && decide ([e].length + ([] : List Keyword).length + (if ([] : List Keyword).isEmpty then 0 else 1) < 30)) = true := by rfl)
    (hline : (ap.endLine == cp.line) = true := by rfl) (hs : starEach [e] X.env = (false, eval e X.env) :: starEach [] X.env := by rfl) (hplain : (backTo cp (starEach [] X.env)).any (·.1) = false := by rfl) :
    PE X (.Call (.Attribute o "append" ap) [e] [] cp) (tBM X.K "list" rAppend to (tCons te tNil)) := pe_bm PySem.F.plainAttrs_list PySem.F.slot_list_append PySem.F.type_list_append mt_append ho (pa_cons ha pa_nil hs) hbase hfew hline hs hplain
theorem e_ext (ho : PE X o to) (ha : PE X e te) (hbase : attributeBase o "extend" X.env (eval o X.env) = eval o X.env := by rfl)
    (hfew : ((backTo cp (starEach [e] X.env)).all (fun x => !x.1) && (backToKw cp (keywordEach [] X.env)).all (fun x => x.1.isSome) && decide ([e].length + ([] : List Keyword).length + (if ([] : List Keyword).isEmpty then 0 else 1) < 30)) = true := by rfl)
    (hline : (ap.endLine == cp.line) = true := by rfl) (hs : starEach [e] X.env = (false, eval e X.env) :: starEach [] X.env := by rfl) (hplain : (backTo cp (starEach [] X.env)).any (·.1) = false := by rfl) :
    PE X (.Call (.Attribute o "extend" ap) [e] [] cp) (tBM X.K "list" rExtend to (tCons te tNil)) := pe_bm PySem.F.plainAttrs_list PySem.F.slot_list_extend PySem.F.type_list_extend mt_extend ho (pa_cons ha pa_nil hs) hbase hfew hline hs hplain
theorem e_pop (ho : PE X o to) (hbase : attributeBase o "pop" X.env (eval o X.env) = eval o X.env := by rfl) (hline : (ap.endLine == cp.line) = true := by rfl) :
    PE X (.Call (.Attribute o "pop" ap) [] [] cp) (tBM0 X.K "list" rPop to) := pe_bm0 PySem.F.plainAttrs_list PySem.F.slot_list_pop PySem.F.type_list_pop mt_pop ho hbase hline
end
/-! ### a new list of the def's own -/
def EvN (B : Addr → Prop) (te : TE) (σ : L2.St) (H : Hp) (ds : List PyData) : Prop := ∀ H1, Ex H H1 → ∀ Q : VK, (∀ p xs H2, H1 p = none → Ex H1 H2 → H2 p = some (.lst xs) → Dens (Add B p) H2 xs ds → Q (.ref p) H2) → te σ H1 Q
section
variable {K : PySem.W.Frag} {B : Addr → Prop} {σ : L2.St} {H H' : Hp} {te ta tb : TE} {d e : PyData} {D : Ends} {tu tw tz : TS} {ds es : List PyData}
theorem Up.ex2 {B' : Addr → Prop} (u : Up B H B' H') (h : ∀ b o, H b = some o → B b → H' b = some o) : Ex H H' := fun b o q => by
  by_cases n : B b
  · exact h b o q n
  · exact (u.keep b o q n).1
theorem vn_lst {ta : TA} (hB : BOk B H) (h : EvAD B ta σ H ds) (hl : ds.length ≤ 100000) : EvN B (tLst ta) σ H ds := fun H1 x Q q => h H1 x _ fun vs H2 x2 dv =>
  ⟨by rw [dv.length]; exact sz_of hl, fun p hp => q p vs _ ((Kp.of (B := B) x2).dom p hp) (x2.trans (Ex.new hp)) upd_same (dv.up ((Up.refl (hB.ex (x.trans x2))).add hp))⟩
theorem z_asgN {i : Nat} (hB : BOk B H) (h : EvN B te σ H ds) (k : ∀ p xs H1, H p = none → Ex H H1 → H1 p = some (.lst xs) → Up B H (Add B p) H1 → Dens (Add B p) H1 xs ds → tw D (σ.set i (some (.ref p))) H1) : tSeq (tAsg te (gName i)) tw D σ H :=
  h H (Ex.refl H) _ fun p xs H1 hp x hl dx => k p xs H1 hp x hl (upAdd hB x hp hl) dx
theorem z_parN {i j : Nat} (hB : BOk B H) (h1 : EvN B ta σ H ds) (h2 : ∀ p H1, Up B H (Add B p) H1 → Ex H H1 → EvN (Add B p) tb σ H1 es)
    (k : ∀ p q xs ys H1, H p = none → H q = none → p ≠ q → Ex H H1 → H1 p = some (.lst xs) → H1 q = some (.lst ys) → Up B H (Add (Add B p) q) H1 → Dens (Add (Add B p) q) H1 xs ds → Dens (Add (Add B p) q) H1 ys es → tw D ((σ.set i (some (.ref p))).set j (some (.ref q))) H1) :
    tSeq (tPar i j (tCons ta (tCons tb tNil))) tw D σ H := h1 H (Ex.refl H) _ fun p xs H1 hp x1 hl dx => by
  have u1 := upAdd hB x1 hp hl
  refine h2 p H1 u1 x1 H1 (Ex.refl H1) _ fun q ys H2 hq x2 hq2 dy => ?_
  have u2 := upAdd u1.ok x2 hq hq2
  refine ⟨_, _, rfl, k p q xs ys H2 hp ((Kp.of (B := B) x1).dom q hq) (ne_of_none hl hq) (x1.trans x2) (x2 p _ hl) hq2 (u1.trans u2) (dx.up u2) dy⟩
theorem Dens.snoc' {vs : List V} {d : PyData} (h : Dens B H vs (ds ++ [d])) : ∃ us v, vs = us ++ [v] ∧ Dens B H us ds ∧ Den B H v d := by
  induction ds generalizing vs with
  | nil =>
    obtain ⟨v, rfl, q⟩ := Dens.one' h
    exact ⟨[], v, rfl, .nil, q⟩
  | cons x r ih =>
    obtain ⟨u, t, rfl, a, b⟩ := Dens.cons' (d := x) (ds := r ++ [d]) h
    obtain ⟨us, v, rfl, c, e⟩ := ih b
    exact ⟨u :: us, v, rfl, .cons a c, e⟩
/-- a datum's part -/
theorem Den.kidD {v : V} {i : Nat} (h : Den B H v d) (ht : isTup d = true) (hi : i < (kids d).length) : ∃ u, Den B H u (kid d i) := by
  rw [isTup_kids ht] at h
  obtain ⟨a, xs, _, _, _, r⟩ := h.tup'
  obtain ⟨u, _, q⟩ := r.get (kid_at hi)
  exact ⟨u, q⟩
theorem Den.kidLen {v : V} {i : Nat} (h : Den B H v d) (ht : isTup d = true) (hi : i < (kids d).length) (hk : isTup (kid d i) = true) : (kids (kid d i)).length ≤ 100000 := by
  obtain ⟨u, q⟩ := h.kidD ht hi
  rw [isTup_kids hk] at q
  exact q.lenT
end
theorem good_len : ∀ {k : Nat} {st : List Ent}, Good k st → st.length ≤ k
  | _, [], _ => Nat.zero_le _
  | k, (p, d) :: st, g => by
    obtain ⟨j, rfl, _, _, g'⟩ := g.step
    have := good_len g'
    rw [List.length_append] at this
    show st.length + 1 ≤ j + 1
    omega
termination_by k => k
end G
set_option maxHeartbeats 4000000
/-! the program's small functions -/
namespace G
open PySem PySem.Spec PyProof.Rows L2 Evl
section
variable {K : PySem.W.Frag} {B : Addr → Prop} {σ : L2.St} {H H' : Hp} {ta tb te tc tl : TE} {t u : TT} {d e f : PyData}
theorem rd_inSign {c : Nat} {z : Str} : RD B (fun x y H Q => ∃ (c : Nat) (z : Str), x = .str ⟨#[c]⟩ ∧ y = .str z ∧ Q (.bl (decide (c ∈ z.cps.toList))) H) (.str ⟨#[c]⟩) (.str z) (.bool (decide (c ∈ z.cps.toList))) H := fun H1 x v u dv du Q q => by
  rw [dv.str', du.str']
  exact ⟨c, z, rfl, rfl, q _ H1 (Ex.refl H1) (.bl _)⟩
theorem rd_notInSign {c : Nat} {z : Str} : RD B (fun x y H Q => ∃ (c : Nat) (z : Str), x = .str ⟨#[c]⟩ ∧ y = .str z ∧ Q (.bl (!decide (c ∈ z.cps.toList))) H) (.str ⟨#[c]⟩) (.str z) (.bool (!decide (c ∈ z.cps.toList))) H := fun H1 x v u dv du Q q => by
  rw [dv.str', du.str']
  exact ⟨c, z, rfl, rfl, q _ H1 (Ex.refl H1) (.bl _)⟩
theorem rd_all {bs : List Bool} : RCD B (rAll K) [.list (bs.map .bool)] (.bool (bs.all id)) H := fun H1 x vs dv Q q => by
  obtain ⟨v, rfl, h⟩ := dv.one'
  obtain ⟨a, xs, rfl, ha, _, r⟩ := h.lst'
  rw [dens_bl' r] at ha
  exact ⟨a, bs, rfl, SqL.of ha, q _ H1 (Ex.refl H1) (.bl _)⟩
theorem mem_signs {s : Str} {d : PyData} (h : d ∈ signs s) : ∃ c, d = .str ⟨#[c]⟩ := by
  unfold signs at h
  obtain ⟨c, _, e⟩ := List.mem_map.mp h
  exact ⟨c, e.symm⟩
theorem signs_length {s : Str} : (signs s).length = s.length := by
  unfold signs
  rw [List.length_map, Array.length_toList]
  rfl
theorem allIn_one {c : Nat} {z : Str} : allIn ⟨#[c]⟩ z = decide (c ∈ z.cps.toList) := by
  unfold allIn
  simp
end
section
variable {P : Program} {w : World} {K : PySem.W.Frag} {mg : Str → Option Value} {base : Heap}
abbrev isOfSp : Sp := spD (fun (a : PyData × Str × Nat × Nat) => [a.1, .str a.2.1, .int (a.2.2.1 : Nat), .int (a.2.2.2 : Nat)]) (fun _ => True) fun a => .bool (isOf a.1 a.2.1 a.2.2.1 a.2.2.2)
theorem c_is_of (T : Txt K mg) : Cal P w K mg base CX0 1 "is_of" isOfSp := by
  refine calD (k := 0) T.fis_of scis_of (fun _ => rfl) ?_
  rintro f cdv A outer s H vs E B ⟨d, z, lo, hi⟩ hr hB dv _ D q
  refine ⟨_, pss_cons (ps_if (pw_or (pt_not (pt_val (e_isStr T (pv 0)))) (pw_or1 (pt_not (pt_chain op_le op_le (pv 2) (e_len T (pv 0)) (pv 3))))).pt (pss_one (ps_ret pe_bl)) pss_nil)
    (pss_one (ps_ret (e_all T (pe_lc (own := [("sign", 4)]) (g := gName 4) (tt := tYes) (by rfl) scis_of.nd (pi_str (pv 0)) (blkOk_by (own := [("sign", 4)]) (N := nis_of) (sc := defScope sis_of) (by decide +kernel))
      (fun _ _ _ _ _ => pg_name (i := 4) scis_of.nd rfl (Or.inl rfl)) (fun _ _ _ _ _ => pts_nil) (fun _ _ _ _ _ => pe_cmpR op_in_sign (pv 4) (pv 1) (by rfl)))))), ?_⟩
  obtain ⟨v0, r, rfl, d0, dv⟩ := dv.cons'
  obtain ⟨v1, r, rfl, d1, dv⟩ := dv.cons'
  obtain ⟨v2, r, rfl, d2, dv⟩ := dv.cons'
  obtain ⟨v3, r, rfl, d3, dv⟩ := dv.cons'
  cases dv
  refine sq (sd_when (b := !isStr d || !(decide (lo ≤ dlen d) && decide (dlen d ≤ hi))) (et_or (et_not (vt_B (vd_isStr (vd_var rfl d0)))) fun hs => et_not (vt_test (vd_chain (vd_var rfl d2) (vd_len (vd_var rfl d0) ?_ rfl) (fun _ => vd_var rfl d3) rd_leN rd_leN))) ?_ ?_)
  · cases d <;> first | rfl | cases hs
  · intro hb H1 x1
    refine sd_rt (B := B) q x1 vd_bl ?_
    show PyData.bool false = .bool (isOf d z lo hi)
    cases d with
    | str s =>
      have hb' : (!(decide (lo ≤ s.length) && decide (s.length ≤ hi))) = true := hb
      have e : isOf (.str s) z lo hi = (decide (lo ≤ s.length) && (decide (s.length ≤ hi) && allIn s z)) := rfl
      rw [e, ← Bool.and_assoc]
      revert hb'
      cases (decide (lo ≤ s.length) && decide (s.length ≤ hi)) <;> simp
    | _ => rfl
  · intro hb H1 x1
    cases d with
    | str s =>
      have hb' : (!(decide (lo ≤ s.length) && decide (s.length ≤ hi))) = false := hb
      have hsz := d0.len
      refine sd_rt (B := B) q x1 (vd_cb (va_cons (vd_is (vd_lcA (hB.ex x1) (src_str (vd_var rfl (d0.ex x1))) (fun c => .bool (allIn (strOf c) z)) (by rw [signs_length]; omega) (fun _ => rfl) ?_) ?_) va_nil) (rd_all (bs := s.cps.toList.map fun c => decide (c ∈ z.cps.toList)))) ?_
      · intro B' H2 up d hd x dx
        obtain ⟨c, rfl⟩ := mem_signs hd
        refine vd_is (vd_op (vd_var rfl dx) (vd_var rfl ((d1.ex x1).up up)) rd_inSign) ?_
        show PyData.bool _ = .bool (allIn ⟨#[c]⟩ z)
        rw [allIn_one]
      · unfold signs
        rw [List.map_map, List.map_map]
        congr 1
        apply List.map_congr_left
        intro c _
        show PyData.bool (allIn ⟨#[c]⟩ z) = .bool (decide (c ∈ z.cps.toList))
        rw [allIn_one]
      · show PyData.bool _ = .bool (decide (lo ≤ s.length) && (decide (s.length ≤ hi) && allIn s z))
        rw [← Bool.and_assoc]
        have e2 : (decide (lo ≤ s.length) && decide (s.length ≤ hi)) = true := by simpa using hb'
        rw [e2, List.all_map]
        rfl
    | _ => cases hb
abbrev spB (F : PyData → Bool) : Sp := sp1 fun d => .bool (F d)
theorem c_is_prefix (T : Txt K mg) : Cal P w K mg base CX0 2 "is_prefix" (spB isPrefix) := by
  refine calD (k := 1) T.fis_prefix scis_prefix (fun _ => rfl) ?_
  intro f cdv A outer s H vs E B d hr hB dv _ D q
  refine ⟨_, pss_one (ps_ret (pe_and (pe_cal (c_is_of T) hr (pa_cons (pv 0) (pa_cons (e_S T.c_LETTERS) (pa_cons pe_int (pa_cons (e_I T.i_MOST_LETTERS) pa_nil))))) (pe_one (pe_cmpR op_ne (pv 0) (e_S T.c_BARRED) (nomark _))))), ?_⟩
  obtain ⟨v0, rfl, d0⟩ := dv.one'
  refine sd_rt q (Ex.refl H) (vd_andV (vd_call (d, LET, 0, 8) hB (va_cons (vd_var rfl d0) (va_cons vd_str (va_cons (vd_nat (n := 0)) (va_cons (vd_nat (n := 8)) va_nil)))) trivial) fun h => vd_neS (vd_is (vd_var rfl d0) (str_of_isOf h)) vd_str) ?_
  rfl
theorem c_is_local (T : Txt K mg) : Cal P w K mg base CX0 2 "is_local" (spB isLocal) := by
  refine calD (k := 1) T.fis_local scis_local (fun _ => rfl) ?_
  intro f cdv A outer s H vs E B d hr hB dv _ D q
  refine ⟨_, pss_one (ps_ret (pe_and (pe_cal (c_is_of T) hr (pa_cons (pv 0) (pa_cons (e_S T.c_LETTERS) (pa_cons pe_int (pa_cons (e_I T.i_MOST_LETTERS) pa_nil))))) (pe_one (pe_cmpR op_ne (pv 0) (e_S T.c_BARRED) (nomark _))))), ?_⟩
  obtain ⟨v0, rfl, d0⟩ := dv.one'
  refine sd_rt q (Ex.refl H) (vd_andV (vd_call (d, LET, 1, 8) hB (va_cons (vd_var rfl d0) (va_cons vd_str (va_cons (vd_nat (n := 1)) (va_cons (vd_nat (n := 8)) va_nil)))) trivial) fun h => vd_neS (vd_is (vd_var rfl d0) (str_of_isOf h)) vd_str) ?_
  rfl
theorem c_is_address (T : Txt K mg) : Cal P w K mg base CX0 2 "is_address" (spB isAddress) := by
  refine calD (k := 1) T.fis_address scis_address (fun _ => rfl) ?_
  intro f cdv A outer s H vs E B d hr hB dv _ D q
  refine ⟨_, pss_one (ps_ret (pe_cal (c_is_of T) hr (pa_cons (pv 0) (pa_cons (e_S T.c_ADDRESS_SIGNS) (pa_cons pe_int (pa_cons (e_I T.i_MOST_PLAIN) pa_nil)))))), ?_⟩
  obtain ⟨v0, rfl, d0⟩ := dv.one'
  exact sd_rt q (Ex.refl H) (vd_call (d, ADR, 1, 20) hB (va_cons (vd_var rfl d0) (va_cons vd_str (va_cons (vd_nat (n := 1)) (va_cons (vd_nat (n := 20)) va_nil)))) trivial) rfl
theorem c_is_plain (T : Txt K mg) : Cal P w K mg base CX0 2 "is_plain" (spB isPlain) := by
  refine calD (k := 1) T.fis_plain scis_plain (fun _ => rfl) ?_
  intro f cdv A outer s H vs E B d hr hB dv _ D q
  refine ⟨_, pss_one (ps_ret (pe_cal (c_is_of T) hr (pa_cons (pv 0) (pa_cons (e_S T.c_PLAIN_SIGNS) (pa_cons pe_int (pa_cons (e_I T.i_MOST_PLAIN) pa_nil)))))), ?_⟩
  obtain ⟨v0, rfl, d0⟩ := dv.one'
  exact sd_rt q (Ex.refl H) (vd_call (d, PLN, 0, 20) hB (va_cons (vd_var rfl d0) (va_cons vd_str (va_cons (vd_nat (n := 0)) (va_cons (vd_nat (n := 20)) va_nil)))) trivial) rfl
theorem c_is_word (T : Txt K mg) : Cal P w K mg base CX0 2 "is_word" (spB isWord) := by
  refine calD (k := 1) T.fis_word scis_word (fun _ => rfl) ?_
  intro f cdv A outer s H vs E B d hr hB dv _ D q
  refine ⟨_, pss_one (ps_ret (pe_cal (c_is_of T) hr (pa_cons (pv 0) (pa_cons (e_S T.c_LETTERS) (pa_cons pe_int (pa_cons (e_I T.i_MOST_LETTERS) pa_nil)))))), ?_⟩
  obtain ⟨v0, rfl, d0⟩ := dv.one'
  exact sd_rt q (Ex.refl H) (vd_call (d, LET, 1, 8) hB (va_cons (vd_var rfl d0) (va_cons vd_str (va_cons (vd_nat (n := 1)) (va_cons (vd_nat (n := 8)) va_nil)))) trivial) rfl
theorem c_is_pair (T : Txt K mg) : Cal P w K mg base CX0 1 "is_pair" (spB isPair) := by
  refine calD (k := 0) T.fis_pair scis_pair (fun _ => rfl) ?_
  intro f cdv A outer s H vs E B d hr hB dv _ D q
  refine ⟨_, pss_one (ps_ret (pe_and (e_isTup T (pv 0)) (pe_one (pe_cmpR op_eq (e_len T (pv 0)) pe_int (nomark _))))), ?_⟩
  obtain ⟨v0, rfl, d0⟩ := dv.one'
  exact sd_rt q (Ex.refl H) (vd_andV (vd_isTup (vd_var rfl d0)) fun h => vd_eqN (vd_lenK (vd_var rfl d0) h) vd_nat) rfl
theorem isPair_kid {d : PyData} {i : Nat} (h : isPair d = true) (hi : i < 2) : isTup d = true ∧ i < (kids d).length := by
  unfold isPair at h
  rw [Bool.and_eq_true, decide_eq_true_eq] at h
  exact ⟨h.1, by omega⟩
theorem c_is_name (T : Txt K mg) : Cal P w K mg base CX0 3 "is_name" (spB isName) := by
  refine calD (k := 2) T.fis_name scis_name (fun _ => rfl) ?_
  intro f cdv A outer s H vs E B d hr hB dv _ D q
  refine ⟨_, pss_one (ps_ret (pe_and (e_isTup T (pv 0)) (pe_and (pe_cmpR op_eq (e_len T (pv 0)) pe_int (nomark _)) (pe_and (pe_cal (c_is_prefix T) hr (pa_cons (pe_ix ix_tup (pv 0) pe_int (fun _ _ => rfl)) pa_nil)) (pe_one (pe_cal (c_is_local T) hr (pa_cons (pe_ix ix_tup (pv 0) pe_int (fun _ _ => rfl)) pa_nil))))))), ?_⟩
  obtain ⟨v0, rfl, d0⟩ := dv.one'
  refine sd_rt q (Ex.refl H) (vd_andV (vd_isTup (vd_var rfl d0)) fun h => vd_andV (vd_eqN (vd_lenK (vd_var rfl d0) h) (vd_nat (n := 2))) fun h2 => vd_andV (vd_call1 hB (vd_kid (i := 0) (vd_var rfl d0) h (by have := of_decide_eq_true h2; omega))) fun _ => vd_call1 hB (vd_kid (i := 1) (vd_var rfl d0) h (by have := of_decide_eq_true h2; omega))) ?_
  show PyData.bool _ = .bool (isPair d && _)
  unfold isPair
  rw [Bool.and_assoc]
abbrev spBW (F : PyData → Str → Bool) : Sp := spD (fun (a : PyData × Str) => [a.1, .str a.2]) (fun _ => True) fun a => .bool (F a.1 a.2)
theorem c_begins_with (T : Txt K mg) : Cal P w K mg base CX0 1 "begins_with" (spBW begins) := by
  refine calD (k := 0) T.fbegins_with scbegins_with (fun _ => rfl) ?_
  rintro f cdv A outer s H vs E B ⟨d, z⟩ hr hB dv _ D q
  refine ⟨_, pss_one (ps_ret (pe_and (e_isTup T (pv 0)) (pe_and (pe_cmpR op_gt (e_len T (pv 0)) pe_int (nomark _)) (pe_and (e_isStr T (pe_ix ix_tup (pv 0) pe_int (fun _ _ => rfl))) (pe_one (pe_cmpR op_eq (pe_ix ix_tup (pv 0) pe_int (fun _ _ => rfl)) (pv 1) (nomark _))))))), ?_⟩
  obtain ⟨v0, v1, rfl, d0, d1⟩ := dv.two'
  refine sd_rt q (Ex.refl H) (vd_andV (vd_isTup (vd_var rfl d0)) fun h => vd_andV (vd_gtN (vd_lenK (vd_var rfl d0) h) (vd_nat (n := 0))) fun h2 => vd_andV (vd_isStr (vd_kid (i := 0) (vd_var rfl d0) h (of_decide_eq_true h2))) fun h3 => vd_eqS (vd_is (vd_kid (i := 0) (vd_var rfl d0) h (of_decide_eq_true h2)) (isStr_of h3)) (vd_var rfl d1)) ?_
  show PyData.bool _ = .bool (begins d z)
  cases d with
  | tuple xs =>
    cases xs with
    | nil => rfl
    | cons x r =>
      cases x with
      | str s => rfl
      | _ => rfl
  | _ => rfl
end
end G
set_option maxHeartbeats 4000000
/-! are_declarations, are_attributes -/
namespace G
open PySem PySem.Spec PyProof.Rows L2 Evl
theorem str_empty_iff {s : Str} : s = Str.ofString "" ↔ s.length = 0 := by
  constructor
  · rintro rfl
    rfl
  · intro h
    cases s with
    | mk c =>
      have : c = #[] := Array.eq_empty_of_size_eq_zero h
      subst this
      rfl
/-- a declaration's value as the program asks it -/
theorem addrOr (x : PyData) : isAddrOr x = (isAddress x || (isStr x && decide (strOf x = Str.ofString ""))) := by
  cases x with
  | str s =>
    show (decide (0 ≤ s.length) && (decide (s.length ≤ 20) && allIn s ADR)) = ((decide (1 ≤ s.length) && (decide (s.length ≤ 20) && allIn s ADR)) || (true && decide (s = Str.ofString "")))
    by_cases h : s.length = 0
    · have e := str_empty_iff.mpr h
      rw [decide_eq_true e, h]
      have : allIn s ADR = true := by rw [e]; rfl
      rw [this]
      rfl
    · have e : ¬ s = Str.ofString "" := fun z => h (str_empty_iff.mp z)
      rw [decide_eq_false e]
      have h1 : decide (1 ≤ s.length) = true := decide_eq_true (by omega)
      rw [h1]
      simp
  | _ => rfl
section
variable {P : Program} {w : World} {K : PySem.W.Frag} {mg : Str → Option Value} {base : Heap}
theorem c_are_declarations (T : Txt K mg) : Cal P w K mg base CX0 3 "are_declarations" (spB areDecls) := by
  refine calD (k := 2) T.fare_declarations scare_declarations (fun _ => rfl) ?_
  intro f cdv A outer s H vs E B d hr hB dv _ D q
  have hu := hu_of hr
  refine ⟨_, pss_cons (ps_if (pt_not (pt_val (e_isTup T (pv 0)))) (pss_one (ps_ret pe_bl)) pss_nil) (pss_cons (ps_set (i := 1) scare_declarations.nd rfl (Or.inl rfl) pe_dnewK)
    (pss_cons (ps_for PassesOwn.never rfl (pi_tup (pv 0)) (pg_name (i := 2) scare_declarations.nd rfl (Or.inl rfl))
      (pss_cons (ps_if (pw_or (pt_not (pt_val (pe_cal (c_is_pair T) (hr.mono (by decide)) (pa_cons (pv 2) pa_nil)))) (pw_or (pt_not (pt_val (pe_cal (c_is_prefix T) hr (pa_cons (pe_ix ix_tup (pv 2) pe_int (fun _ _ => rfl)) pa_nil)))) (pw_or1 (pt_cmp (pc_din hu (pe_ix ix_tup (pv 2) pe_int (fun _ _ => rfl)) (pv 1)))))).pt (pss_one (ps_ret pe_bl)) pss_nil)
      (pss_cons (ps_if (pw_and (pt_not (pt_val (pe_cal (c_is_address T) hr (pa_cons (pe_ix ix_tup (pv 2) pe_int (fun _ _ => rfl)) pa_nil)))) (pw_and1 (pw_or (pt_not (pt_val (e_isStr T (pe_ix ix_tup (pv 2) pe_int (fun _ _ => rfl))))) (pw_or1 (pt_cmpR op_ne (pe_ix ix_tup (pv 2) pe_int (fun _ _ => rfl)) pe_str (nomark _)))).pt)).pt (pss_one (ps_ret pe_bl)) pss_nil)
      (pss_one (ps_dput hu (pv 1) (pe_ix ix_tup (pv 2) pe_int (fun _ _ => rfl)) pe_bl rfl)))))
    (pss_one (ps_ret pe_bl)))), ?_⟩
  obtain ⟨v0, rfl, d0⟩ := dv.one'
  refine z_when (b := !isTup d) (et_not (vt_B (vd_isTup (vd_var rfl d0)))) ?_ ?_
  · intro hb H1 x1 D' hD
    refine sd_rt (B := B) (by rw [hD]; exact q) x1 vd_bl ?_
    show PyData.bool false = .bool (areDecls d)
    unfold areDecls
    cases h : isTup d with
    | true => rw [h] at hb; cases hb
    | false => rfl
  · intro hb H1 x1
    have ht : isTup d = true := by simpa using hb
    have ed := isTup_kids ht
    have hl : (kids d).length ≤ 100000 := by rw [ed] at d0; exact d0.lenT
    intro p hp
    have hp0 : H p = none := (Kp.of (B := B) x1).dom p hp
    have xp : Ex H (upd H1 p (.dK [])) := x1.trans (Ex.new hp)
    have up0 : Up B H (Add B p) (upd H1 p (.dK [])) := upAdd hB xp hp0 upd_same
    have d1 : Den (Add B p) (upd H1 p (.dK [])) v0 (.tuple (kids d)) := by rw [← ed]; exact d0.up up0
    refine z_for (src_tup (vd_var rfl d1)) fun H2 x2 => ?_
    refine ⟨fun i σ' H' => ∃ y kvs, σ' = [some v0, some (.ref p), y] ∧ Kp (Add B p) H2 H' ∧ Ex H H' ∧ H' p = some (.dK kvs) ∧ Keyed kvs Sum.inr (((kids d).take i).map keyS) ∧ kvs.length ≤ i ∧ ((kids d).take i).all declOk = true ∧ (((kids d).take i).map keyS).Nodup, ?_, ?_, ?_, ?_⟩
    · exact ⟨none, [], rfl, Kp.refl _, xp.trans x2, x2 p _ upd_same, Keyed.nil, Nat.le_refl _, rfl, List.nodup_nil⟩
    · rintro i σ' H' ⟨y, kvs, rfl, kp, ex, hpk, _⟩
      exact ⟨Add B p, ((Up.refl up0.ok).ex x2).ok |> fun ok => (Up.refl ok).kp kp⟩
    · rintro i e σ' H' H3 x hi ⟨y, kvs, rfl, kp, ex, hpk, hk, hlen, hall, hnd⟩ x3 hx D1 hrt hnx hct hbk
      have up2 : Up (Add B p) H2 (Add B p) H' := (Up.refl (up0.ex x2).ok).kp kp
      have de : Den (Add B p) H3 x e := hx _ up2
      have hp3 : H3 p = some (.dK kvs) := x3 p _ hpk
      have hi' : i < (kids d).length := (List.getElem?_eq_some_iff.mp hi).1
      show tSeq _ _ _ [some v0, some (.ref p), some x] H3
      have bad : ∀ H', Ex H3 H' → areDecls d = false → ∀ D' : Ends, D'.rt = D.rt → tRet (tC (.bl false)) D' [some v0, some (.ref p), some x] H' := by
        intro H' x4 hf D' hD
        refine sd_rt (B := B) (f := .bool (areDecls d)) (fun v H5 x5 dv => ?_) (x3.trans x4) vd_bl (by rw [hf])
        rw [hD]
        exact q v H5 (ex.trans x5) dv
      have ok3 := up2.ok.ex x3
      have key : isPair e = true → isPrefix (kid e 0) = true → kid e 0 = .str (keyS e) := fun _ h => str_of_isOf (Bool.and_eq_true_iff.mp h).1
      refine z_when (b := !isPair e || (!isPrefix (kid e 0) || decide (keyS e ∈ ((kids d).take i).map keyS))) (et_or (et_not (vt_B (vd_call1 ok3 (vd_var rfl de)))) fun h1 => et_or (et_not (vt_B (vd_call1 ok3 (vd_kid (i := 0) (vd_var rfl de) (isPair_kid (i := 0) (by simpa using h1) (by omega)).1 (isPair_kid (by simpa using h1) (by omega)).2)))) fun h2 => vt_B (vd_is (vd_dinK (vd_is (vd_kid (i := 0) (vd_var rfl de) (isPair_kid (i := 0) (by simpa using h1) (by omega)).1 (isPair_kid (by simpa using h1) (by omega)).2) (key (by simpa using h1) (by simpa using h2))) (ev_var rfl) hp3) (by rw [hk]))) ?_ ?_
      · intro hb1 H4 x4 D' hD
        refine bad H4 x4 ?_ _ (hD.trans hrt)
        unfold areDecls
        rw [ht]
        by_cases hd : declOk e = true
        · have hm : keyS e ∈ ((kids d).take i).map keyS := by
            unfold declOk at hd
            rw [Bool.and_eq_true, Bool.and_eq_true] at hd
            rw [hd.1, hd.2.1] at hb1
            simpa using hb1
          have : ¬ ((kids d).map keyS).Nodup := fun z => ((nodup_take_succ hi).mp (nodup_of_take (i := i + 1) z)).2 hm
          rw [decide_eq_false this]
          simp
        · rw [all_of_get hi (by simpa using hd)]
          rfl
      · intro hb1 H4 x4
        have h1 : isPair e = true := by
          cases h : isPair e with
          | true => rfl
          | false => rw [h] at hb1; cases hb1
        have h2 : isPrefix (kid e 0) = true := by
          cases h : isPrefix (kid e 0) with
          | true => rfl
          | false => rw [h1, h] at hb1; cases hb1
        have h3 : keyS e ∉ ((kids d).take i).map keyS := by
          rw [h1, h2] at hb1
          simpa using hb1
        have hk1 := isPair_kid (i := 1) h1 (by omega)
        have hk0 := isPair_kid (i := 0) h1 (by omega)
        have de4 := de.ex x4
        have ok4 := ok3.ex x4
        refine z_when (b := !isAddress (kid e 1) && (!isStr (kid e 1) || !decide (strOf (kid e 1) = Str.ofString ""))) (et_and (et_not (vt_B (vd_call1 ok4 (vd_kid (i := 1) (vd_var rfl de4) hk1.1 hk1.2)))) fun _ => et_or (et_not (vt_B (vd_isStr (vd_kid (i := 1) (vd_var rfl de4) hk1.1 hk1.2)))) fun h4 => vt_test (vd_neS (vd_is (vd_kid (i := 1) (vd_var rfl de4) hk1.1 hk1.2) (isStr_of (by simpa using h4))) vd_str)) ?_ ?_
        · intro hb2 H5 x5 D' hD
          refine bad H5 (x4.trans x5) ?_ _ (hD.trans hrt)
          unfold areDecls
          have : declOk e = false := by
            unfold declOk
            rw [addrOr, h1, h2]
            revert hb2
            cases isAddress (kid e 1) <;> cases isStr (kid e 1) <;> simp
          rw [all_of_get hi this]
          simp
        · intro hb2 H5 x5
          have hok : declOk e = true := by
            unfold declOk
            rw [addrOr, h1, h2]
            revert hb2
            cases isAddress (kid e 1) <;> cases isStr (kid e 1) <;> simp
          have de5 := de4.ex x5
          refine sd_dputK (B := Add B p) vd_bl (ev_var rfl) (vd_is (vd_kid (i := 0) (vd_var rfl de5) hk0.1 hk0.2) (key h1 h2)) ((x4.trans x5) p _ hp3) (by omega) fun v H6 x6 dv6 => ?_
          have xx : Ex H' H6 := ((x3.trans x4).trans x5).trans x6
          rw [hnx]
          refine ⟨some x, putK kvs (.inr (keyS e)) v, rfl, (kp.trans (.of xx)).wr (.inr rfl), (ex.trans xx).mut hp0, upd_same, ?_, ?_, ?_, ?_⟩
          · rw [take_succ_of hi, List.map_append]
            exact hk.put (fun a b h => Sum.inr.inj h) _ _
          · have := length_putK kvs (Sum.inr (keyS e)) v
            omega
          · rw [all_take_succ hi, hall, hok]
            rfl
          · exact (nodup_take_succ hi).mpr ⟨hnd, h3⟩
    · rintro σ' H' ⟨y, kvs, rfl, kp, ex, hpk, hk, hlen, hall, hnd⟩
      rw [List.take_length] at hall hnd
      refine sd_rt (B := B) q ex vd_bl ?_
      show PyData.bool true = .bool (areDecls d)
      unfold areDecls
      rw [ht, hall, decide_eq_true hnd]
      rfl
theorem isName_tup {n : PyData} (h : isName n = true) : n = .tuple [.str (strOf (kid n 0)), .str (strOf (kid n 1))] := by
  unfold isName at h
  rw [Bool.and_eq_true, Bool.and_eq_true] at h
  obtain ⟨h1, h2, h3⟩ := h
  unfold isPair at h1
  rw [Bool.and_eq_true, decide_eq_true_eq] at h1
  have e := isTup_kids h1.1
  have e0 : kid n 0 = .str (strOf (kid n 0)) := str_of_isOf (Bool.and_eq_true_iff.mp h2).1
  have e1 : kid n 1 = .str (strOf (kid n 1)) := str_of_isOf (Bool.and_eq_true_iff.mp h3).1
  have hk : kids n = [kid n 0, kid n 1] := by
    have hl := h1.2
    unfold kid
    match kids n, hl with
    | [a, b], _ => rfl
  rw [← e0, ← e1, ← hk]
  exact e
theorem kT_inj (a b : Str × Str) (h : kT a.1 a.2 = kT b.1 b.2) : a = b := by
  unfold kT at h
  injection h with h1 h2
  injection h2 with h2 _
  exact Prod.ext (Sum.inr.inj h1) (Sum.inr.inj h2)
theorem c_are_attributes (T : Txt K mg) : Cal P w K mg base CX0 4 "are_attributes" (spB areAttrs) := by
  refine calD (k := 3) T.fare_attributes scare_attributes (fun _ => rfl) ?_
  intro f cdv A outer s H vs E B d hr hB dv _ D q
  have hu := hu_of hr
  refine ⟨_, pss_cons (ps_if (pt_not (pt_val (e_isTup T (pv 0)))) (pss_one (ps_ret pe_bl)) pss_nil) (pss_cons (ps_set (i := 1) scare_attributes.nd rfl (Or.inl rfl) pe_dnewT)
    (pss_cons (ps_for PassesOwn.never rfl (pi_tup (pv 0)) (pg_name (i := 2) scare_attributes.nd rfl (Or.inl rfl))
      (pss_cons (ps_if (pw_or (pt_not (pt_val (pe_cal (c_is_pair T) (hr.mono (by decide)) (pa_cons (pv 2) pa_nil)))) (pw_or (pt_not (pt_val (pe_cal (c_is_name T) hr (pa_cons (pe_ix ix_tup (pv 2) pe_int (fun _ _ => rfl)) pa_nil)))) (pw_or1 (pt_cmp (pc_din hu (pe_ix ix_tup (pv 2) pe_int (fun _ _ => rfl)) (pv 1)))))).pt (pss_one (ps_ret pe_bl)) pss_nil)
      (pss_cons (ps_if (pw_and (pt_not (pt_val (pe_cal (c_is_plain T) (hr.mono (by decide)) (pa_cons (pe_ix ix_tup (pv 2) pe_int (fun _ _ => rfl)) pa_nil)))) (pw_and1 (pt_not (pt_val (pe_cal (c_is_name T) hr (pa_cons (pe_ix ix_tup (pv 2) pe_int (fun _ _ => rfl)) pa_nil)))))).pt (pss_one (ps_ret pe_bl)) pss_nil)
      (pss_one (ps_dput hu (pv 1) (pe_ix ix_tup (pv 2) pe_int (fun _ _ => rfl)) pe_bl rfl)))))
    (pss_one (ps_ret pe_bl)))), ?_⟩
  obtain ⟨v0, rfl, d0⟩ := dv.one'
  refine z_when (b := !isTup d) (et_not (vt_B (vd_isTup (vd_var rfl d0)))) ?_ ?_
  · intro hb H1 x1 D' hD
    refine sd_rt (B := B) (by rw [hD]; exact q) x1 vd_bl ?_
    show PyData.bool false = .bool (areAttrs d)
    unfold areAttrs
    cases h : isTup d with
    | true => rw [h] at hb; cases hb
    | false => rfl
  · intro hb H1 x1
    have ht : isTup d = true := by simpa using hb
    have ed := isTup_kids ht
    have hl : (kids d).length ≤ 100000 := by rw [ed] at d0; exact d0.lenT
    intro p hp
    have hp0 : H p = none := (Kp.of (B := B) x1).dom p hp
    have xp : Ex H (upd H1 p (.dT [])) := x1.trans (Ex.new hp)
    have up0 : Up B H (Add B p) (upd H1 p (.dT [])) := upAdd hB xp hp0 upd_same
    have d1 : Den (Add B p) (upd H1 p (.dT [])) v0 (.tuple (kids d)) := by rw [← ed]; exact d0.up up0
    refine z_for (src_tup (vd_var rfl d1)) fun H2 x2 => ?_
    refine ⟨fun i σ' H' => ∃ y kvs, σ' = [some v0, some (.ref p), y] ∧ Kp (Add B p) H2 H' ∧ Ex H H' ∧ H' p = some (.dT kvs) ∧ Keyed kvs (fun k : Str × Str => kT k.1 k.2) (((kids d).take i).map keyN) ∧ kvs.length ≤ i ∧ ((kids d).take i).all attrOk = true ∧ (((kids d).take i).map keyN).Nodup, ?_, ?_, ?_, ?_⟩
    · exact ⟨none, [], rfl, Kp.refl _, xp.trans x2, x2 p _ upd_same, Keyed.nil, Nat.le_refl _, rfl, List.nodup_nil⟩
    · rintro i σ' H' ⟨y, kvs, rfl, kp, ex, hpk, _⟩
      exact ⟨Add B p, ((Up.refl up0.ok).ex x2).ok |> fun ok => (Up.refl ok).kp kp⟩
    · rintro i e σ' H' H3 x hi ⟨y, kvs, rfl, kp, ex, hpk, hk, hlen, hall, hnd⟩ x3 hx D1 hrt hnx hct hbk
      have up2 : Up (Add B p) H2 (Add B p) H' := (Up.refl (up0.ex x2).ok).kp kp
      have de : Den (Add B p) H3 x e := hx _ up2
      have hp3 : H3 p = some (.dT kvs) := x3 p _ hpk
      have hi' : i < (kids d).length := (List.getElem?_eq_some_iff.mp hi).1
      show tSeq _ _ _ [some v0, some (.ref p), some x] H3
      have bad : ∀ H', Ex H3 H' → areAttrs d = false → ∀ D' : Ends, D'.rt = D.rt → tRet (tC (.bl false)) D' [some v0, some (.ref p), some x] H' := by
        intro H' x4 hf D' hD
        refine sd_rt (B := B) (f := .bool (areAttrs d)) (fun v H5 x5 dv => ?_) (x3.trans x4) vd_bl (by rw [hf])
        rw [hD]
        exact q v H5 (ex.trans x5) dv
      have ok3 := up2.ok.ex x3
      have key : isPair e = true → isName (kid e 0) = true → kid e 0 = .tuple [.str (keyN e).1, .str (keyN e).2] := fun _ h => isName_tup h
      refine z_when (b := !isPair e || (!isName (kid e 0) || decide (keyN e ∈ ((kids d).take i).map keyN))) (et_or (et_not (vt_B (vd_call1 ok3 (vd_var rfl de)))) fun h1 => et_or (et_not (vt_B (vd_call1 ok3 (vd_kid (i := 0) (vd_var rfl de) (isPair_kid (i := 0) (by simpa using h1) (by omega)).1 (isPair_kid (by simpa using h1) (by omega)).2)))) fun h2 => vt_B (vd_is (vd_dinT (vd_is (vd_kid (i := 0) (vd_var rfl de) (isPair_kid (i := 0) (by simpa using h1) (by omega)).1 (isPair_kid (by simpa using h1) (by omega)).2) (key (by simpa using h1) (by simpa using h2))) (ev_var rfl) hp3) (congrArg PyData.bool ((hk (keyN e)).trans (decide_eq_decide.mpr Iff.rfl))))) ?_ ?_
      · intro hb1 H4 x4 D' hD
        refine bad H4 x4 ?_ _ (hD.trans hrt)
        unfold areAttrs
        rw [ht]
        by_cases hd : attrOk e = true
        · have hm : keyN e ∈ ((kids d).take i).map keyN := by
            unfold attrOk at hd
            rw [Bool.and_eq_true, Bool.and_eq_true] at hd
            rw [hd.1, hd.2.1] at hb1
            simpa using hb1
          have : ¬ ((kids d).map keyN).Nodup := fun z => ((nodup_take_succ hi).mp (nodup_of_take (i := i + 1) z)).2 hm
          rw [decide_eq_false this]
          simp
        · rw [all_of_get hi (by simpa using hd)]
          rfl
      · intro hb1 H4 x4
        have h1 : isPair e = true := by
          cases h : isPair e with
          | true => rfl
          | false => rw [h] at hb1; cases hb1
        have h2 : isName (kid e 0) = true := by
          cases h : isName (kid e 0) with
          | true => rfl
          | false => rw [h1, h] at hb1; cases hb1
        have h3 : keyN e ∉ ((kids d).take i).map keyN := by
          rw [h1, h2] at hb1
          simpa using hb1
        have hk1 := isPair_kid (i := 1) h1 (by omega)
        have hk0 := isPair_kid (i := 0) h1 (by omega)
        have de4 := de.ex x4
        have ok4 := ok3.ex x4
        refine z_when (b := !isPlain (kid e 1) && !isName (kid e 1)) (et_and (et_not (vt_B (vd_call1 ok4 (vd_kid (i := 1) (vd_var rfl de4) hk1.1 hk1.2)))) fun _ => et_not (vt_B (vd_call1 ok4 (vd_kid (i := 1) (vd_var rfl de4) hk1.1 hk1.2)))) ?_ ?_
        · intro hb2 H5 x5 D' hD
          refine bad H5 (x4.trans x5) ?_ _ (hD.trans hrt)
          unfold areAttrs
          have : attrOk e = false := by
            unfold attrOk
            rw [h1, h2]
            revert hb2
            cases isPlain (kid e 1) <;> cases isName (kid e 1) <;> simp
          rw [all_of_get hi this]
          simp
        · intro hb2 H5 x5
          have hok : attrOk e = true := by
            unfold attrOk
            rw [h1, h2]
            revert hb2
            cases isPlain (kid e 1) <;> cases isName (kid e 1) <;> simp
          have de5 := de4.ex x5
          refine sd_dputT (B := Add B p) vd_bl (ev_var rfl) (vd_is (vd_kid (i := 0) (vd_var rfl de5) hk0.1 hk0.2) (key h1 h2)) ((x4.trans x5) p _ hp3) (by omega) fun v H6 x6 dv6 => ?_
          have xx : Ex H' H6 := ((x3.trans x4).trans x5).trans x6
          rw [hnx]
          refine ⟨some x, putK kvs (kT (keyN e).1 (keyN e).2) v, rfl, (kp.trans (.of xx)).wr (.inr rfl), (ex.trans xx).mut hp0, upd_same, ?_, ?_, ?_, ?_⟩
          · rw [take_succ_of hi, List.map_append]
            exact hk.put kT_inj (keyN e) _
          · have := length_putK kvs (kT (keyN e).1 (keyN e).2) v
            omega
          · rw [all_take_succ hi, hall, hok]
            rfl
          · exact (nodup_take_succ hi).mpr ⟨hnd, h3⟩
    · rintro σ' H' ⟨y, kvs, rfl, kp, ex, hpk, hk, hlen, hall, hnd⟩
      rw [List.take_length] at hall hnd
      refine sd_rt (B := B) q ex vd_bl ?_
      show PyData.bool true = .bool (areAttrs d)
      unfold areAttrs
      rw [ht, hall, decide_eq_true hnd]
      rfl
end
end G
set_option maxHeartbeats 4000000
/-! are_children, fault_of, holes_in, quoted_in -/
namespace G
open PySem PySem.Spec PyProof.Rows L2 Evl
section
variable {P : Program} {w : World} {K : PySem.W.Frag} {mg : Str → Option Value} {base : Heap}
theorem begins_isTup {d : PyData} {z : Str} (h : begins d z = true) : isTup d = true := by
  obtain ⟨r, rfl⟩ := begins_tup h
  rfl
theorem childrenGo_drop {b : Bool} {ds : List PyData} {i : Nat} {c : PyData} (h : ds[i]? = some c) : childrenGo b (ds.drop i) = (childOk b c && childrenGo (isStr c) (ds.drop (i + 1))) := by
  have hi := (List.getElem?_eq_some_iff.mp h)
  obtain ⟨h1, h2⟩ := hi
  rw [List.drop_eq_getElem_cons h1, h2]
  rfl
theorem c_are_children (T : Txt K mg) : Cal P w K mg base CX0 3 "are_children" (spB areChildren) := by
  refine calD (k := 2) T.fare_children scare_children (fun _ => rfl) ?_
  intro f cdv A outer s H vs E B d hr hB dv _ D q
  refine ⟨_, pss_cons (ps_if (pt_not (pt_val (e_isTup T (pv 0)))) (pss_one (ps_ret pe_bl)) pss_nil) (pss_cons (ps_set (i := 1) scare_children.nd rfl (Or.inl rfl) pe_bl)
    (pss_cons (ps_for PassesOwn.never rfl (pi_tup (pv 0)) (pg_name (i := 2) scare_children.nd rfl (Or.inl rfl))
      (pss_cons (ps_set (i := 3) scare_children.nd rfl (Or.inl rfl) (e_isStr T (pv 2)))
      (pss_cons (ps_if (pw_and (pt_val (pv 3)) (pw_and1 (pw_or (pt_val (pv 1)) (pw_or (pt_cmpR op_eq (pv 2) pe_str (nomark _)) (pw_or1 (pt_not (pt_val (pe_cal (c_is_plain T) hr (pa_cons (pv 2) pa_nil))))))).pt)).pt (pss_one (ps_ret pe_bl)) pss_nil)
      (pss_cons (ps_if (pw_and (pt_val (pe_cal (c_begins_with T) (hr.mono (by decide)) (pa_cons (pv 2) (pa_cons (e_S T.c_HOLE) pa_nil)))) (pw_and1 (pw_or (pt_cmpR op_ne (e_len T (pv 2)) pe_int (nomark _)) (pw_or1 (pt_not (pt_val (pe_cal (c_is_word T) hr (pa_cons (pe_ix ix_tup (pv 2) pe_int (fun _ _ => rfl)) pa_nil)))))).pt)).pt (pss_one (ps_ret pe_bl)) pss_nil)
      (pss_cons (ps_if (pw_and (pt_not (pt_val (pv 3))) (pw_and (pt_not (pt_val (pe_cal (c_begins_with T) (hr.mono (by decide)) (pa_cons (pv 2) (pa_cons (e_S T.c_HOLE) pa_nil))))) (pw_and1 (pt_not (pt_val (pe_cal (c_begins_with T) (hr.mono (by decide)) (pa_cons (pv 2) (pa_cons (e_S T.c_ELEMENT) pa_nil)))))))).pt (pss_one (ps_ret pe_bl)) pss_nil)
      (pss_one (ps_set (i := 1) scare_children.nd rfl (Or.inl rfl) (pv 3))))))))
    (pss_one (ps_ret pe_bl)))), ?_⟩
  obtain ⟨v0, rfl, d0⟩ := dv.one'
  refine z_when (b := !isTup d) (et_not (vt_B (vd_isTup (vd_var rfl d0)))) ?_ ?_
  · intro hb H1 x1 D' hD
    refine sd_rt (B := B) (by rw [hD]; exact q) x1 vd_bl ?_
    show PyData.bool false = .bool (areChildren d)
    unfold areChildren
    cases h : isTup d with
    | true => rw [h] at hb; cases hb
    | false => rfl
  · intro hb H1 x1
    have ht : isTup d = true := by simpa using hb
    have ed := isTup_kids ht
    have hl : (kids d).length ≤ 100000 := by rw [ed] at d0; exact d0.lenT
    refine z_asg (B := B) vd_bl fun u H1b x1b du => ?_
    rw [du.bl']
    have xp : Ex H H1b := x1.trans x1b
    have d1 : Den B H1b v0 (.tuple (kids d)) := by rw [← ed]; exact d0.ex xp
    refine z_for (src_tup (vd_var rfl d1)) fun H2 x2 => ?_
    refine ⟨fun i σ' H' => ∃ bh y z, σ' = [some v0, some (.bl bh), y, z] ∧ Ex H2 H' ∧ childrenGo false (kids d) = childrenGo bh ((kids d).drop i), ?_, ?_, ?_, ?_⟩
    · exact ⟨false, none, none, rfl, Ex.refl _, rfl⟩
    · rintro i σ' H' ⟨bh, y, z, rfl, ex, _⟩
      exact ⟨B, (Up.refl (hB.ex (xp.trans x2))).ex ex⟩
    · rintro i e σ' H' H3 x hi ⟨bh, y, z, rfl, ex, hgo⟩ x3 hx D1 hrt hnx hct hbk
      have up2 : Up B H2 B H' := (Up.refl (hB.ex (xp.trans x2))).ex ex
      have de : Den B H3 x e := hx _ up2
      have ok3 := up2.ok.ex x3
      have exH : Ex H H3 := ((xp.trans x2).trans ex).trans x3
      show tSeq _ _ _ [some v0, some (.bl bh), some x, z] H3
      rw [childrenGo_drop hi] at hgo
      refine z_asg (vd_isStr (vd_var rfl de)) fun u4 H4 x4 du4 => ?_
      rw [du4.bl']
      have de4 := de.ex x4
      have ok4 := ok3.ex x4
      have bad : ∀ H', Ex H4 H' → childOk bh e = false → ∀ D' : Ends, D'.rt = D.rt → tRet (tC (.bl false)) D' [some v0, some (.bl bh), some x, some (.bl (isStr e))] H' := by
        intro H' x5 hf D' hD
        refine sd_rt (B := B) (f := .bool (areChildren d)) (fun v H5 x6 dv => ?_) ((exH.trans x4).trans x5) vd_bl ?_
        · rw [hD]
          exact q v H5 x6 dv
        · unfold areChildren
          rw [hgo, hf]
          simp
      refine z_when (b := isStr e && (bh || (decide (strOf e = Str.ofString "") || !isPlain e))) (et_and (et_B (ev_var rfl)) fun h1 => et_or (et_B (ev_var rfl)) fun _ => et_or (vt_test (vd_eqS (vd_is (vd_var rfl de4) (isStr_of h1)) vd_str)) fun _ => et_not (vt_B (vd_call1 ok4 (vd_var rfl de4)))) ?_ ?_
      · intro hb1 H5 x5 D' hD
        refine bad H5 x5 ?_ _ (hD.trans hrt)
        rw [Bool.and_eq_true] at hb1
        unfold childOk
        rw [if_pos hb1.1]
        have e1 : Str.empty = Str.ofString "" := rfl
        rw [e1]
        have := hb1.2
        revert this
        cases bh <;> cases decide (strOf e = Str.ofString "") <;> cases isPlain e <;> simp
      · intro hb1 H5 x5
        have de5 := de4.ex x5
        have ok5 := ok4.ex x5
        refine z_when (b := begins e HOL && (!decide ((kids e).length = 2) || !isWord (kid e 1))) (et_and (vt_B (vd_call (e, HOL) ok5 (va_cons (vd_var rfl de5) (va_cons vd_str va_nil)) trivial)) fun h1 => et_or (vt_test (vd_neN (vd_lenK (vd_var rfl de5) (begins_isTup h1)) (vd_nat (n := 2)))) fun h2 => et_not (vt_B (vd_call1 ok5 (vd_kid (i := 1) (vd_var rfl de5) (begins_isTup h1) (by
          have h3 : (kids e).length = 2 := by simpa using h2
          omega))))) ?_ ?_
        · intro hb2 H6 x6 D' hD
          refine bad H6 (x5.trans x6) ?_ _ (hD.trans hrt)
          rw [Bool.and_eq_true] at hb2
          unfold childOk
          have hns : isStr e = false := by
            obtain ⟨r, rfl⟩ := begins_tup hb2.1
            rfl
          rw [hns, hb2.1]
          have := hb2.2
          revert this
          cases decide ((kids e).length = 2) <;> cases isWord (kid e 1) <;> simp
        · intro hb2 H6 x6
          have de6 := de5.ex x6
          have ok6 := ok5.ex x6
          refine z_when (b := !isStr e && (!begins e HOL && !begins e ELE)) (et_and (et_not (et_B (ev_var rfl))) fun _ => et_and (et_not (vt_B (vd_call (e, HOL) ok6 (va_cons (vd_var rfl de6) (va_cons vd_str va_nil)) trivial))) fun _ => et_not (vt_B (vd_call (e, ELE) ok6 (va_cons (vd_var rfl de6) (va_cons vd_str va_nil)) trivial))) ?_ ?_
          · intro hb3 H7 x7 D' hD
            refine bad H7 ((x5.trans x6).trans x7) ?_ _ (hD.trans hrt)
            rw [Bool.and_eq_true, Bool.and_eq_true] at hb3
            unfold childOk
            obtain ⟨h1, h2, h3⟩ := hb3
            rw [Bool.not_eq_true'] at h1 h2 h3
            rw [h1, h2, h3]
            rfl
          · intro hb3 H7 x7
            have hok : childOk bh e = true := by
              unfold childOk
              have e1 : Str.empty = Str.ofString "" := rfl
              rw [e1]
              revert hb1 hb2 hb3
              cases isStr e <;> cases begins e HOL <;> cases begins e ELE <;> cases decide ((kids e).length = 2) <;> cases isWord (kid e 1) <;> cases bh <;> cases decide (strOf e = Str.ofString "") <;> cases isPlain e <;> simp
            refine sd_asg (B := B) (vd_var rfl (.bl (isStr e))) fun u8 H8 x8 du8 => ?_
            rw [du8.bl', hnx]
            refine ⟨isStr e, some x, some (.bl (isStr e)), rfl, (((((ex.trans x3).trans x4).trans x5).trans x6).trans x7).trans x8, ?_⟩
            rw [hgo, hok]
            rfl
    · rintro σ' H' ⟨bh, y, z, rfl, ex, hgo⟩
      rw [List.drop_length] at hgo
      refine sd_rt (B := B) q ((xp.trans x2).trans ex) vd_bl ?_
      show PyData.bool true = .bool (areChildren d)
      unfold areChildren
      rw [ht, hgo]
      rfl
end
end G
set_option maxHeartbeats 4000000
/-! fault_of, child_elements, holes_in, quoted_in, walked -/
namespace G
open PySem PySem.Spec PyProof.Rows L2 Evl
def itemD : Option Item → PyData
  | none => .none
  | some i => .str i.str
theorem kid_lt {d : PyData} {i n : Nat} (h : (kids d).length = n) (hi : i < n) : i < (kids d).length := by omega
/-- the pairs of the elements inside -/
def pairsOf (es : List (Nat × PyData)) : List PyData := es.map fun e => .tuple [.int (e.1 : Nat), e.2]
theorem inside_enum : ∀ (ds : List PyData) (k : Nat), ((List.range ds.length).map fun i => PyData.tuple [.int ((k + i : Nat)), ds.getD i .none]).filter (fun p => begins (kid p 1) ELE) = pairsOf (inside k ds)
  | [], _ => rfl
  | d :: r, k => by
    have ih := inside_enum r (k + 1)
    rw [List.length_cons, List.range_succ_eq_map, List.map_cons, List.map_map]
    have e : ((fun i => PyData.tuple [.int ((k + i : Nat)), (d :: r).getD i .none]) ∘ Nat.succ) = fun i => PyData.tuple [.int ((k + 1 + i : Nat)), r.getD i .none] := by
      funext i
      show PyData.tuple [.int ((k + (i + 1) : Nat)), (d :: r).getD (i + 1) .none] = _
      rw [show k + (i + 1) = k + 1 + i by omega]
      rfl
    rw [e, List.filter_cons, ih]
    show (if begins d ELE = true then _ else _) = pairsOf (if begins d ELE = true then (k, d) :: inside (k + 1) r else inside (k + 1) r)
    by_cases h : begins d ELE = true
    · rw [if_pos h, if_pos h]
      rfl
    · rw [if_neg h, if_neg h]
theorem enum_elems (ds : List PyData) : ((enumD ds).filter (fun p => begins (kid p 1) ELE)).map (fun p => .tuple [kid p 0, kid p 1]) = pairsOf (inside 0 ds) := by
  have h := inside_enum ds 0
  have e : enumD ds = (List.range ds.length).map fun i => PyData.tuple [.int ((0 + i : Nat)), ds.getD i .none] := by
    unfold enumD
    apply List.map_congr_left
    intro i _
    rw [Nat.zero_add]
  rw [e, h]
  unfold pairsOf
  rw [List.map_map]
  rfl
theorem enumD_pair {ds : List PyData} {p : PyData} (h : p ∈ enumD ds) : ∃ a b, p = .tuple [a, b] := by
  unfold enumD at h
  obtain ⟨i, _, rfl⟩ := List.mem_map.mp h
  exact ⟨_, _, rfl⟩
theorem enumD_len {ds : List PyData} : (enumD ds).length = ds.length := by
  unfold enumD
  rw [List.length_map, List.length_range]
theorem holes_filter : ∀ ds : List PyData, (ds.filter fun c => begins c HOL).map (fun c => PyData.str (strOf (kid c 1))) = (holesOf ds).map PyData.str
  | [] => rfl
  | d :: r => by
    rw [List.filter_cons]
    unfold holesOf
    by_cases h : begins d HOL = true
    · rw [if_pos h, if_pos h, List.map_cons, List.map_cons, holes_filter r]
    · rw [if_neg h, if_neg h, holes_filter r]
theorem childrenGo_mem : ∀ {ds : List PyData} {b : Bool} {c : PyData}, childrenGo b ds = true → c ∈ ds → ∃ b', childOk b' c = true
  | d :: r, b, c, h, m => by
    have h' : (childOk b d && childrenGo (isStr d) r) = true := h
    rw [Bool.and_eq_true] at h'
    rcases List.mem_cons.mp m with e | e
    · exact ⟨b, e ▸ h'.1⟩
    · exact childrenGo_mem h'.2 e
/-- a hole among the children -/
theorem hole_child {ds : List PyData} {c : PyData} (h : childrenGo false ds = true) (m : c ∈ ds) (hb : begins c HOL = true) : isTup c = true ∧ 1 < (kids c).length ∧ kid c 1 = .str (strOf (kid c 1)) ∧ isWord (kid c 1) = true := by
  obtain ⟨b, q⟩ := childrenGo_mem h m
  have hs : isStr c = false := by
    obtain ⟨r, rfl⟩ := begins_tup hb
    rfl
  unfold childOk at q
  rw [hs, hb] at q
  have q' : (decide ((kids c).length = 2) && isWord (kid c 1)) = true := q
  rw [Bool.and_eq_true, decide_eq_true_eq] at q'
  exact ⟨begins_isTup hb, by omega, str_of_isOf q'.2, q'.2⟩
/-- what an element without a fault gives -/
structure Elt (d : PyData) : Prop where
  tup : isTup d = true
  len : (kids d).length = 5
  nm : isName (kid d 1) = true
  decls : isTup (kid d 2) = true ∧ (kids (kid d 2)).all declOk = true ∧ ((kids (kid d 2)).map keyS).Nodup
  attrs : isTup (kid d 3) = true ∧ (kids (kid d 3)).all attrOk = true ∧ ((kids (kid d 3)).map keyN).Nodup
  kids4 : isTup (kid d 4) = true ∧ childrenGo false (kids (kid d 4)) = true
theorem elt_of {d : PyData} (h : itemOf d = none) : Elt d := by
  obtain ⟨h1, h2, h3, h4, h5, h6⟩ := itemOf_none h
  unfold areDecls at h4
  unfold areAttrs at h5
  unfold areChildren at h6
  simp only [Bool.and_eq_true, decide_eq_true_eq] at h4 h5 h6
  exact ⟨begins_isTup h1, h2, h3, ⟨h4.1, h4.2⟩, ⟨h5.1, h5.2⟩, h6⟩
section
variable {P : Program} {w : World} {K : PySem.W.Frag} {mg : Str → Option Value} {base : Heap}
theorem c_fault_of (T : Txt K mg) : Cal P w K mg base CX0 5 "fault_of" (sp1 fun d => itemD (itemOf d)) := by
  refine calD (k := 4) T.ffault_of scfault_of (fun _ => rfl) ?_
  intro f cdv A outer s H vs E B d hr hB dv _ D q
  refine ⟨_, pss_cons (ps_if (pw_or (pt_not (pt_val (pe_cal (c_begins_with T) (hr.mono (by decide)) (pa_cons (pv 0) (pa_cons (e_S T.c_ELEMENT) pa_nil))))) (pw_or1 (pt_cmpR op_ne (e_len T (pv 0)) pe_int (nomark _)))).pt (pss_one (ps_ret pe_str)) pss_nil)
    (pss_cons (ps_if (pt_not (pt_val (pe_cal (c_is_name T) (hr.mono (by decide)) (pa_cons (pe_ix ix_tup (pv 0) pe_int (fun _ _ => rfl)) pa_nil)))) (pss_one (ps_ret pe_str)) pss_nil)
    (pss_cons (ps_if (pt_not (pt_val (pe_cal (c_are_declarations T) (hr.mono (by decide)) (pa_cons (pe_ix ix_tup (pv 0) pe_int (fun _ _ => rfl)) pa_nil)))) (pss_one (ps_ret pe_str)) pss_nil)
    (pss_cons (ps_if (pt_not (pt_val (pe_cal (c_are_attributes T) (hr.mono (by decide)) (pa_cons (pe_ix ix_tup (pv 0) pe_int (fun _ _ => rfl)) pa_nil)))) (pss_one (ps_ret pe_str)) pss_nil)
    (pss_one (ps_ret (pe_ifExp (pt_val (pe_cal (c_are_children T) (hr.mono (by decide)) (pa_cons (pe_ix ix_tup (pv 0) pe_int (fun _ _ => rfl)) pa_nil))) pe_non pe_str)))))), ?_⟩
  obtain ⟨v0, rfl, d0⟩ := dv.one'
  refine z_when (b := !begins d ELE || !decide ((kids d).length = 5)) (et_or (et_not (vt_B (vd_call (d, ELE) hB (va_cons (vd_var rfl d0) (va_cons vd_str va_nil)) trivial))) fun h => vt_test (vd_neN (vd_lenK (vd_var rfl d0) (begins_isTup (by simpa using h))) (vd_nat (n := 5)))) ?_ ?_
  · intro hb H1 x1 D' hD
    refine sd_rt (B := B) (by rw [hD]; exact q) x1 vd_str ?_
    show _ = itemD (itemOf d)
    unfold itemOf
    rw [if_pos hb]
    rfl
  intro hb H1 x1
  have hb' : begins d ELE = true ∧ (kids d).length = 5 := by
    rw [Bool.or_eq_false_iff] at hb
    exact ⟨by simpa using hb.1, by simpa using hb.2⟩
  have ht := begins_isTup hb'.1
  have d1 := d0.ex x1
  have B1 := hB.ex x1
  refine z_when (b := !isName (kid d 1)) (et_not (vt_B (vd_call1 B1 (vd_kid (i := 1) (vd_var rfl d1) ht (kid_lt hb'.2 (by omega)))))) ?_ ?_
  · intro hb2 H2 x2 D' hD
    refine sd_rt (B := B) (by rw [hD]; exact q) (x1.trans x2) vd_str ?_
    show _ = itemD (itemOf d)
    unfold itemOf
    rw [hb, if_neg (by simp), if_pos hb2]
    rfl
  intro hb2 H2 x2
  have d2 := d1.ex x2
  have B2 := B1.ex x2
  refine z_when (b := !areDecls (kid d 2)) (et_not (vt_B (vd_call1 B2 (vd_kid (i := 2) (vd_var rfl d2) ht (kid_lt hb'.2 (by omega)))))) ?_ ?_
  · intro hb3 H3 x3 D' hD
    refine sd_rt (B := B) (by rw [hD]; exact q) ((x1.trans x2).trans x3) vd_str ?_
    show _ = itemD (itemOf d)
    unfold itemOf
    rw [hb, hb2, if_neg (by simp), if_neg (by simp), if_pos hb3]
    rfl
  intro hb3 H3 x3
  have d3 := d2.ex x3
  have B3 := B2.ex x3
  refine z_when (b := !areAttrs (kid d 3)) (et_not (vt_B (vd_call1 B3 (vd_kid (i := 3) (vd_var rfl d3) ht (kid_lt hb'.2 (by omega)))))) ?_ ?_
  · intro hb4 H4 x4 D' hD
    refine sd_rt (B := B) (by rw [hD]; exact q) (((x1.trans x2).trans x3).trans x4) vd_str ?_
    show _ = itemD (itemOf d)
    unfold itemOf
    rw [hb, hb2, hb3, if_neg (by simp), if_neg (by simp), if_neg (by simp), if_pos hb4]
    rfl
  intro hb4 H4 x4
  have d4 := d3.ex x4
  have B4 := B3.ex x4
  refine sd_rt (B := B) (d := if areChildren (kid d 4) = true then .none else .str (Str.ofString "children")) q (((x1.trans x2).trans x3).trans x4) (vd_if (b := areChildren (kid d 4)) (vt_B (vd_call1 B4 (vd_kid (i := 4) (vd_var rfl d4) ht (kid_lt hb'.2 (by omega))))) (fun h => vd_is vd_non (by rw [if_pos h])) (fun h => vd_is vd_str (by rw [h]; rfl))) ?_
  show _ = itemD (itemOf d)
  unfold itemOf
  rw [hb, hb2, hb3, hb4]
  cases areChildren (kid d 4) <;> rfl
abbrev spEl (F : PyData → PyData) : Sp := spD (fun d => [d]) (fun d => itemOf d = none) F
theorem c_child_elements (T : Txt K mg) : Cal P w K mg base CX0 2 "child_elements" (spEl fun d => .list (pairsOf (elems d))) := by
  refine calD (k := 1) T.fchild_elements scchild_elements (fun _ => rfl) ?_
  intro f cdv A outer s H vs E B d hr hB dv hit D q
  refine ⟨_, pss_one (ps_ret (pe_lc (own := [("number", 1), ("child", 2)]) (g := gTup K 2 (gCons (gName 1) (gCons (gName 2) gNil))) (by rfl) scchild_elements.nd (pi_enumT (by rfl) T.b_enumerate (pa_cons (pe_ix ix_tup (pv 0) pe_int (fun _ _ => rfl)) pa_nil)) (blkOk_by (own := [("number", 1), ("child", 2)]) (N := nchild_elements) (sc := defScope schild_elements) (by decide +kernel))
      (fun _ _ _ _ _ => pg_tup (by rfl) (pgs_cons (pg_name (i := 1) scchild_elements.nd rfl (Or.inl rfl)) (pgs_cons (pg_name (i := 2) scchild_elements.nd rfl (Or.inl rfl)) pgs_nil)))
      (fun _ _ _ _ _ => pts_one (pt_val (pe_cal (c_begins_with T) hr (pa_cons (pv 2) (pa_cons (e_S T.c_ELEMENT) pa_nil)))))
      (fun _ _ _ _ _ => pe_tup (pa_cons (pv 1) (pa_cons (pv 2) pa_nil))))), ?_⟩
  obtain ⟨v0, rfl, d0⟩ := dv.one'
  have el := elt_of hit
  have k4 : EvD B (tOp (rIxT K) (tVar 0) (tC (.int 4))) (L2.start nchild_elements [v0]) H (kid d 4) := vd_kid (i := 4) (vd_var rfl d0) el.tup (kid_lt el.len (by omega))
  have hlen := d0.kidLen (i := 4) el.tup (kid_lt el.len (by omega)) el.kids4.1
  rw [isTup_kids el.kids4.1] at k4
  refine sd_rt (B := B) q (Ex.refl H) (vd_lcP hB (src_enumT (va_cons k4 va_nil) hlen) (fun p => begins (kid p 1) ELE) (fun p => .tuple [kid p 0, kid p 1]) (by rw [enumD_len]; exact hlen) (fun d hd => enumD_pair hd) (fun _ _ => rfl) ?_ ?_) ?_
  · intro B' H1 up a b hm x y dx dy
    exact vt_B (vd_call (b, ELE) up.ok (va_cons (vd_var rfl dy) (va_cons vd_str va_nil)) trivial)
  · intro B' H1 up a b hm _ x y dx dy
    exact vd_tup up.ok (va_cons (vd_var rfl dx) (va_cons (vd_var rfl dy) va_nil)) (by show 2 ≤ 100000; decide)
  · show PyData.list _ = .list (pairsOf (elems d))
    rw [enum_elems]
    rfl
theorem c_holes_in (T : Txt K mg) : Cal P w K mg base CX0 2 "holes_in" (spEl fun d => .list ((holesIn d).map PyData.str)) := by
  refine calD (k := 1) T.fholes_in scholes_in (fun _ => rfl) ?_
  intro f cdv A outer s H vs E B d hr hB dv hit D q
  refine ⟨_, pss_one (ps_ret (pe_lc (own := [("child", 1)]) (g := gName 1) (te := tOp (rIxT K) (tVar 1) (tC (.int 1))) (by rfl) scholes_in.nd (pi_tup (pe_ix ix_tup (pv 0) pe_int (fun _ _ => rfl))) (blkOk_by (own := [("child", 1)]) (N := nholes_in) (sc := defScope sholes_in) (by decide +kernel))
      (fun _ _ _ _ _ => pg_name (i := 1) scholes_in.nd rfl (Or.inl rfl))
      (fun _ _ _ _ _ => pts_one (pt_val (pe_cal (c_begins_with T) hr (pa_cons (pv 1) (pa_cons (e_S T.c_HOLE) pa_nil)))))
      (fun _ _ _ _ _ => pe_ix ix_tup (pv 1) pe_int (fun _ _ => rfl)))), ?_⟩
  obtain ⟨v0, rfl, d0⟩ := dv.one'
  have el := elt_of hit
  have k4 : EvD B (tOp (rIxT K) (tVar 0) (tC (.int 4))) (L2.start nholes_in [v0]) H (kid d 4) := vd_kid (i := 4) (vd_var rfl d0) el.tup (kid_lt el.len (by omega))
  have hlen := d0.kidLen (i := 4) el.tup (kid_lt el.len (by omega)) el.kids4.1
  rw [isTup_kids el.kids4.1] at k4
  refine sd_rt (B := B) q (Ex.refl H) (vd_lcN hB (src_tup k4) (fun c => begins c HOL) (fun c => .str (strOf (kid c 1))) hlen (fun _ => rfl) ?_ ?_) ?_
  · intro B' H1 up c hm x dx
    exact vt_B (vd_call (c, HOL) up.ok (va_cons (vd_var rfl dx) (va_cons vd_str va_nil)) trivial)
  · intro B' H1 up c hm hb x dx
    have hc := hole_child el.kids4.2 hm hb
    exact vd_is (vd_kid (i := 1) (vd_var rfl dx) hc.1 hc.2.1) hc.2.2.1
  · show PyData.list _ = .list ((holesIn d).map PyData.str)
    rw [holes_filter]
    rfl
/-- the values that are names -/
def quotedIn (d : PyData) : List PyData := ((kids (kid d 3)).filter fun p => isTup (kid p 1)).map fun p => kid p 1
theorem pair_of {p : PyData} (h : isPair p = true) : p = .tuple [kid p 0, kid p 1] := by
  unfold isPair at h
  rw [Bool.and_eq_true, decide_eq_true_eq] at h
  have e := isTup_kids h.1
  have hk : kids p = [kid p 0, kid p 1] := by
    have hl := h.2
    unfold kid
    match kids p, hl with
    | [a, b], _ => rfl
  rw [← hk]
  exact e
theorem attr_mem {d p : PyData} (el : Elt d) (h : p ∈ kids (kid d 3)) : isPair p = true ∧ isName (kid p 0) = true ∧ (isPlain (kid p 1) || isName (kid p 1)) = true := by
  have q := List.all_eq_true.mp el.attrs.2.1 p h
  unfold attrOk at q
  rw [Bool.and_eq_true, Bool.and_eq_true] at q
  exact q
theorem decl_mem {d p : PyData} (el : Elt d) (h : p ∈ kids (kid d 2)) : isPair p = true ∧ isPrefix (kid p 0) = true ∧ isAddrOr (kid p 1) = true := by
  have q := List.all_eq_true.mp el.decls.2.1 p h
  unfold declOk at q
  rw [Bool.and_eq_true, Bool.and_eq_true] at q
  exact q
theorem c_quoted_in (T : Txt K mg) : Cal P w K mg base CX0 2 "quoted_in" (spEl fun d => .list (quotedIn d)) := by
  refine calD (k := 1) T.fquoted_in scquoted_in (fun _ => rfl) ?_
  intro f cdv A outer s H vs E B d hr hB dv hit D q
  refine ⟨_, pss_one (ps_ret (pe_lc (own := [("name", 1), ("value", 2)]) (g := gTup K 2 (gCons (gName 1) (gCons (gName 2) gNil))) (tt := tB (tCB (rIsi K) (tCons (tVar 2) (tCons (tC (.ty "tuple")) tNil)))) (te := tVar 2) (by rfl) scquoted_in.nd (pi_tup (pe_ix ix_tup (pv 0) pe_int (fun _ _ => rfl))) (blkOk_by (own := [("name", 1), ("value", 2)]) (N := nquoted_in) (sc := defScope squoted_in) (by decide +kernel))
      (fun _ _ _ _ _ => pg_tup (by rfl) (pgs_cons (pg_name (i := 1) scquoted_in.nd rfl (Or.inl rfl)) (pgs_cons (pg_name (i := 2) scquoted_in.nd rfl (Or.inl rfl)) pgs_nil)))
      (fun _ _ _ _ _ => pts_one (pt_val (e_isTup T (pv 2))))
      (fun _ _ _ _ _ => pv 2))), ?_⟩
  obtain ⟨v0, rfl, d0⟩ := dv.one'
  have el := elt_of hit
  have k4 : EvD B (tOp (rIxT K) (tVar 0) (tC (.int 3))) (L2.start nquoted_in [v0]) H (kid d 3) := vd_kid (i := 3) (vd_var rfl d0) el.tup (kid_lt el.len (by omega))
  have hlen := d0.kidLen (i := 3) el.tup (kid_lt el.len (by omega)) el.attrs.1
  rw [isTup_kids el.attrs.1] at k4
  refine sd_rt (B := B) q (Ex.refl H) (vd_lcP hB (src_tup k4) (fun p => isTup (kid p 1)) (fun p => kid p 1) hlen (fun p hp => ⟨_, _, pair_of (attr_mem el hp).1⟩) (fun _ _ => rfl) ?_ ?_) rfl
  · intro B' H1 up a b hm x y dx dy
    exact vt_B (vd_isTup (vd_var rfl dy))
  · intro B' H1 up a b hm _ x y dx dy
    exact vd_var rfl dy
end
end G
set_option maxHeartbeats 4000000
/-! walked -/
namespace G
open PySem PySem.Spec PyProof.Rows L2 Evl
/-- the entries below, from the pairs of the elements inside -/
def entOf (p : List Nat) (x : PyData) : PyData := .tuple [.tuple ((p.map fun n => PyData.int (n : Nat)) ++ [kid x 0]), kid x 1]
theorem below_ent (p : List Nat) (d : PyData) : (pairsOf (elems d)).map (entOf p) = (below p d).map entD := by
  unfold pairsOf below
  rw [List.map_map, List.map_map]
  apply List.map_congr_left
  intro e _
  show PyData.tuple [.tuple ((p.map fun n => PyData.int (n : Nat)) ++ [.int (e.1 : Nat)]), e.2] = .tuple [.tuple ((p ++ [e.1]).map fun n => PyData.int (n : Nat)), e.2]
  rw [List.map_append]
  rfl
theorem inside_len : ∀ (ds : List PyData) (k : Nat), (inside k ds).length ≤ ds.length
  | [], _ => Nat.le_refl _
  | d :: r, k => by
    have := inside_len r (k + 1)
    unfold inside
    by_cases h : begins d ELE = true
    · rw [if_pos h]
      simp only [List.length_cons]
      omega
    · rw [if_neg h]
      simp only [List.length_cons]
      omega
theorem pairs_pair {es : List (Nat × PyData)} {x : PyData} (h : x ∈ pairsOf es) : ∃ a b, x = .tuple [a, b] := by
  unfold pairsOf at h
  obtain ⟨e, _, rfl⟩ := List.mem_map.mp h
  exact ⟨_, _, rfl⟩
theorem stack_cons (e : Ent) (st : List Ent) : ((e :: st).map entD).reverse = (st.map entD).reverse ++ [.tuple [pathD e.1, e.2]] := by
  rw [List.map_cons, List.reverse_cons]
  rfl
theorem stack_push (a st : List Ent) : ((a ++ st).map entD).reverse = (st.map entD).reverse ++ (a.map entD).reverse := by
  rw [List.map_append, List.reverse_append]
theorem walkL_cons (k : Nat) (p : List Nat) (d : PyData) (st : List Ent) : walkL (k + 1) ((p, d) :: st) = (p, d) :: walkL k (below p d ++ st) := rfl
theorem walkL_nil (k : Nat) : walkL k [] = [] := by cases k <;> rfl
section
variable {P : Program} {w : World} {K : PySem.W.Frag} {mg : Str → Option Value} {base : Heap}
abbrev spGo (F : PyData → PyData) : Sp := spD (fun d => [d]) (fun d => fault d = none) F
theorem c_walked (T : Txt K mg) : Cal P w K mg base CX0 3 "walked" (spGo fun d => .list ((elsOf d).map entD)) := by
  refine calD (k := 2) T.fwalked scwalked (fun _ => rfl) ?_
  intro f cdv A outer s H vs E B d hr hB dv hgood D q
  refine ⟨_, pss_cons (ps_par (i := 1) (j := 2) (by rfl) scwalked.nd rfl rfl (by decide) rfl rfl (pa_cons (pe_lst pa_nil) (pa_cons (pe_lst (pa_cons (pe_tup (pa_cons (pe_tup pa_nil) (pa_cons (pv 0) pa_nil))) pa_nil)) pa_nil)) (by rfl))
    (pss_cons (ps_while PassesOwn.never (pt_cmpR (op_neE (hu0 hr)) (pv 2) (pe_lst pa_nil) (nomark _))
      (pss_cons (ps_asg (e_pop (pv 2)) (pg_tup (by rfl) (pgs_cons (pg_name (i := 3) scwalked.nd rfl (Or.inr rfl)) (pgs_cons (pg_name (i := 4) scwalked.nd rfl (Or.inl rfl)) pgs_nil))))
      (pss_cons (ps_expr (e_app (pv 1) (pe_tup (pa_cons (pv 3) (pa_cons (pv 4) pa_nil)))))
      (pss_one (ps_expr (e_ext (pv 2) (pe_revL (pe_lc (own := [("number", 5), ("child", 6)]) (g := gTup K 2 (gCons (gName 5) (gCons (gName 6) gNil))) (tt := tYes) (te := tTup (tCons (tOp (rCatA K) (tVar 3) (tTup (tCons (tVar 5) tNil))) (tCons (tVar 6) tNil)))
        (by rfl) scwalked.nd (pi_list (pe_cal (c_child_elements T) hr (pa_cons (pv 4) pa_nil))) (blkOk_by (own := [("number", 5), ("child", 6)]) (N := nwalked) (sc := defScope swalked) (by decide +kernel))
        (fun _ _ _ _ _ => pg_tup (by rfl) (pgs_cons (pg_name (i := 5) scwalked.nd rfl (Or.inl rfl)) (pgs_cons (pg_name (i := 6) scwalked.nd rfl (Or.inl rfl)) pgs_nil)))
        (fun _ _ _ _ _ => pts_nil) (fun _ _ _ _ _ => pe_tup (pa_cons (pe_op op_catA (pv 3) (pe_tup (pa_cons (pv 5) pa_nil))) (pa_cons (pv 6) pa_nil)))))))))))
    (pss_one (ps_ret (pv 1)))), ?_⟩
  obtain ⟨v0, rfl, d0⟩ := dv.one'
  refine z_parN hB (ds := []) (es := [entD ([], d)]) (vn_lst hB va_nil (by decide)) (fun p H1 up x1 => vn_lst up.ok (va_cons (vd_tup up.ok (va_cons (vd_tup up.ok va_nil (by show 0 ≤ 100000; decide)) (va_cons (vd_var rfl (d0.up up)) va_nil)) (by show 2 ≤ 100000; decide)) va_nil) (by show 1 ≤ 100000; decide)) ?_
  intro pf pl xs ys H1 hpf hpl hne x1 hf hl up dx dy
  show tSeq _ _ _ [some v0, some (.ref pf), some (.ref pl), none, none, none, none] H1
  have fr : ∀ b, b = pf ∨ b = pl → H b = none := by
    rintro b (rfl | rfl)
    · exact hpf
    · exact hpl
  refine z_while (fun m σ' H' => ∃ st fnd xs ys a b, σ' = [some v0, some (.ref pf), some (.ref pl), a, b, none, none] ∧ Ex H H' ∧ Up B H (Add (Add B pf) pl) H' ∧ H' pf = some (.lst xs) ∧ H' pl = some (.lst ys) ∧
      Dens (Add (Add B pf) pl) H' xs (fnd.map entD) ∧ Dens (Add (Add B pf) pl) H' ys (st.map entD).reverse ∧ Good m st ∧ elsOf d = fnd ++ walkL m st ∧ fnd.length + m ≤ 60) 60 ?_ ?_
  · exact ⟨[([], d)], [], xs, ys, none, none, rfl, x1, up, hf, hl, dx, dy, good_of hgood, rfl, by decide⟩
  rintro m σ' H' ⟨st, fnd, xs, ys, a, b, rfl, ex, up, hf, hl, dx, dy, good, hels, hfl⟩
  refine ⟨!st.isEmpty, vt_test (vd_is (vd_cmpL (B := B) (neg := true) (ev_var rfl) (SqL.of hl)) ?_), ?_, ?_⟩
  · have := dy.length
    rw [List.length_reverse, List.length_map] at this
    show PyData.bool (!ys.isEmpty) = _
    rw [isEmpty_len this]
  · intro hb H2 x2 D' hD hnx
    cases st with
    | nil => cases hb
    | cons e st =>
      obtain ⟨p, o⟩ := e
      obtain ⟨j, rfl, hp8, hit, g'⟩ := good.step
      have up2 := up.ex x2
      have dy2 := dy.ex x2
      rw [stack_cons] at dy2
      obtain ⟨zs, v, rfl, dz, dv⟩ := dy2.snoc'
      refine z_pop2 (B := Add (Add B pf) pl) (x2 pl _ hl) (ev_var rfl) dv (.inr rfl) fun u w H3 kp other hl3 du dw => ?_
      have hf3 : H3 pf = some (.lst xs) := other pf _ hne (x2 pf _ hf)
      have ex3 : Ex H H3 := fun c z hc => other c z (fun e => by rw [e, hpl] at hc; cases hc) (x2 c _ (ex c z hc))
      have up3 := up2.kp kp
      refine z_app hf3 (ev_var rfl) (vd_tup up3.ok (va_cons (vd_var rfl du) (va_cons (vd_var rfl dw) va_nil)) (by show 2 ≤ 100000; decide)) ?_ fun v4 H4 x4 dv4 => ?_
      · have := dx.length
        rw [List.length_map] at this
        omega
      have kw : Kp (Add (Add B pf) pl) H3 (upd H4 pf (.lst (xs ++ [v4]))) := (Kp.of x4).wr (.inl (.inr rfl))
      have up5 := up3.kp kw
      have ex5 : Ex H (upd H4 pf (.lst (xs ++ [v4]))) := (ex3.trans x4).mut hpf
      have hl5 : (upd H4 pf (.lst (xs ++ [v4]))) pl = some (.lst zs) := by
        rw [upd_ne hne.symm]
        exact x4 pl _ hl3
      have du5 := du.kp kw
      have dw5 := dw.kp kw
      have el := elt_of hit
      have hk4 := dw.kidLen (i := 4) el.tup (kid_lt el.len (by omega)) el.kids4.1
      have hin : (pairsOf (elems o)).length ≤ 100000 := by
        unfold pairsOf
        rw [List.length_map]
        exact Nat.le_trans (inside_len _ _) hk4
      have hzl : zs.length = st.length := by
        have := dz.length
        rw [List.length_reverse, List.length_map] at this
        exact this
      have hgl := good_len g'
      rw [List.length_append] at hgl
      refine z_ext (tw := tNext) (ds := ((below p o).map entD).reverse) hl5 (ev_var rfl) (vd_rev (vd_is (vd_lcP up5.ok (src_lst (vd_call o up5.ok (va_cons (vd_var rfl dw5) va_nil) hit)) (fun _ => true) (entOf p) hin (fun x hx => pairs_pair hx) (fun _ _ => rfl) (fun _ H1 _ _ _ _ _ _ _ _ H2 e Q q => q H2 (Ex.refl H2)) ?_) ?_) up5.ok) ?_ fun vs H6 x6 dvs => ?_
      · intro B' H6 up6 a b hm _ x y dx6 dy6
        have dp : Den B' H6 u (.tuple (p.map fun n => PyData.int (n : Nat))) := du5.up up6
        exact vd_tup up6.ok (va_cons (vd_catT (vd_var rfl dp) (vd_tup up6.ok (va_cons (vd_var rfl dx6) va_nil) (by show 1 ≤ 100000; decide)) up6.ok (by rw [List.length_map]; show p.length + 1 ≤ 100000; omega)) (va_cons (vd_var rfl dy6) va_nil)) (by show 2 ≤ 100000; decide)
      · rw [List.filter_eq_self.mpr (fun _ _ => rfl), below_ent]
      · rw [List.length_reverse, List.length_map]
        omega
      · show D'.nx _ _
        have kw6 : Kp (Add (Add B pf) pl) (upd H4 pf (.lst (xs ++ [v4]))) (upd H6 pl (.lst (zs ++ vs))) := (Kp.of x6).wr (.inr rfl)
        refine hnx j _ _ (Nat.lt_succ_self _) ⟨below p o ++ st, fnd ++ [(p, o)], xs ++ [v4], zs ++ vs, some u, some w, rfl, (ex5.trans x6).mut hpl, up5.kp kw6, ?_, upd_same, ?_, ?_, g', ?_, ?_⟩
        · rw [upd_ne hne]
          exact x6 pf _ upd_same
        · rw [List.map_append]
          exact (((dx.ex x2).kp kp).kp (kw.trans kw6)).append (.cons (dv4.kp (((Kp.refl H4).wr (.inl (.inr rfl))).trans kw6)) .nil)
        · rw [stack_push]
          exact (((dz.kp kp).kp (kw.trans kw6))).append (dvs.kp ((Kp.refl H6).wr (.inr rfl)))
        · rw [hels, walkL_cons, List.append_assoc]
          rfl
        · rw [List.length_append]
          show fnd.length + 1 + j ≤ 60
          omega
  · intro hb H2 x2
    cases st with
    | cons e st => cases hb
    | nil =>
      rw [walkL_nil, List.append_nil] at hels
      have up2 := up.ex x2
      have hlen := dx.length
      rw [List.length_map] at hlen
      refine sd_rt (B := B) (d := .list (fnd.map entD)) q (ex.trans x2) (vd_var rfl (.lst (by omega) (x2 pf _ hf) (hB.new hpf) ((dx.ex x2).le fun b h => .inl (.inl h)))) ?_
      show PyData.list (fnd.map entD) = .list ((elsOf d).map entD)
      rw [hels]
end
end G
set_option maxHeartbeats 4000000
/-! BadPart(path, item): its __init__ calls the base's by the base's name -/
namespace G
open PySem PySem.Spec PyProof.Rows L2 Evl
/-- the base: its __init__ is ValueError's -/
structure BaseX (K : PySem.W.Frag) (mg : Str → Option Value) (gb : Addr) : Prop where
  gG : mg "GraftError" = some (.ref gb)
  rd : PySem.W.readsIn K gb (.type "type") = true
  ga : PySem.W.specialIn K (.ref gb) "__getattribute__" = some (some (.builtin "type.__getattribute__"))
  fc : PySem.W.findCls K (.ref gb) (.type "type") "__init__" = some (.val (.builtin "ValueError.__init__"))
/-- the class BadPart -/
structure BadX (K : PySem.W.Frag) (mg : Str → Option Value) (C gb fI : Addr) (fd : FuncData) : Prop where
  base : BaseX K mg gb
  gC : mg "BadPart" = some (.ref C)
  oex : OexC K C
  iC : PySem.W.findIn K (.ref C) "__init__" = some (some (.ref fI))
  tI : PySem.W.typeIn K (.ref fI) = some (.type "function")
  fn : Fun K "__init__" "BadPart.__init__" sBadPart fI fd
  bnd : Binds K fd ["self", "path", "item"] []
  nP : PySem.W.findIn K (.ref C) "path" = some none
  nI : PySem.W.findIn K (.ref C) "item" = some none
theorem hand_ve : PySem.W.handedIn (.builtin "ValueError.__init__") = true := by decide +kernel
section
variable {X : Cx} {e : Expr} {es : List Expr} {ta : TA} {p1 p2 pos : Pos} {gb : Addr}
theorem pe_geinit {pl : Sem Bool} (T : BaseX X.K X.mg gb) (hg : Gl X "GraftError") (ha : PA X (e :: es) ta)
    (hc : eval (.Call (.Attribute (.Name "GraftError" p1) "__init__" p2) (e :: es) [] pos) X.env = (do
      let ov ← eval (.Name "GraftError" p1) X.env
      standAt p2.atName
      let (f, first) ← holding [ov] (getMethod ov "__init__" pl)
      callWith pos f first (backTo pos (starEach (e :: es) X.env)) (backToKw pos (keywordEach [] X.env))) := by rfl)
    (he : starEach (e :: es) X.env = (false, eval e X.env) :: starEach es X.env := by rfl) (hpl : (backTo pos (starEach es X.env)).any (·.1) = false := by rfl) :
    PE X (.Call (.Attribute (.Name "GraftError" p1) "__init__" p2) (e :: es) [] pos) (tVeI X.K ta) := by
  refine ⟨fun pins s σ H Q I h => ?_⟩
  refine PySem.W.methodCall_KW (ld_glob I hg T.gG ?_ (by decide)) hc
  refine PySem.W.method_cls I.kIn T.ga (PySem.W.cls_value I.kIn T.rd T.fc hand_ve ?_)
  show wpAny _ _ (callWith pos (Value.builtin "ValueError.__init__") [] (backTo pos (starEach (e :: es) X.env)) []) _ _ _
  refine PyProof.Rows.callWith_method1 (thn (ha.run pos pins _ σ H _ (I.tok _) h) fun us s1 ⟨vs, H1, I1, r1, q1⟩ => ?_) he hpl
  obtain ⟨a, C, ws, ev, hl, TC, ea, q⟩ := q1
  subst ev
  cases r1 with
  | @cons _ u0 _ ur ra rw' =>
    obtain rfl : u0 = Value.ref a := ra
    refine oinit_ok TC I1 ea ?_ fun s' J => ⟨.non, H1, J, rfl, q⟩
    rw [← Paired.length rw', sizeLine_eq]
    omega
end
/-- what BadPart.__init__ does to the new exception -/
def spInit (C : Addr) : Sp := fun vs H Q _ => ∃ a v u, vs = [.ref a, v, u] ∧ H a = some (exo a C none) ∧
  ∀ dx, H dx = none → dx ≠ a → Q .non (upd (upd (upd H dx (exd dx [("path", v)])) a (exo a C (some dx))) dx (exd dx [("item", u), ("path", v)]))
section
variable {P : Program} {w : World} {K : PySem.W.Frag} {mg : Str → Option Value} {base : Heap} {C gb fI : Addr} {fd : FuncData}
theorem bad_init (T : BadX K mg C gb fI fd) : FnOk P w K mg base CX0 1 fI fd ["self", "path", "item"] (spInit C) := by
  refine T.fn.ok (k := 0) scBadPart (fun vs H Q E h => by obtain ⟨a, v, u, rfl, _⟩ := h; rfl) ?_
  rintro cdv A outer s H vs Q E hr ⟨a, v, u, rfl, ha, q⟩
  refine ⟨_, pss_cons (ps_expr (pe_geinit T.base (by rfl) (pa_cons (pv 0) (pa_cons pe_str pa_nil)))) (pss_cons (ps_ost (pv 0) (pv 1)) (pss_one (ps_ost (pv 0) (pv 2)))), ?_⟩
  refine ⟨_, rfl, a, C, _, rfl, by show 1 ≤ 1000; decide, T.oex, ha, ?_⟩
  refine ⟨_, rfl, _, rfl, a, C, rfl, T.oex, T.nP, .inl ⟨ha, fun dx hd ne => ?_⟩⟩
  refine ⟨_, rfl, _, rfl, a, C, rfl, T.oex, T.nI, .inr ⟨dx, [("path", v)], upd_same, ?_, by show 1 ≤ 900; decide, q dx hd ne⟩⟩
  rw [upd_ne ne]
  exact upd_same
theorem badExt {H H1 : Hp} {a dx : Addr} {v u : V} (e : Ex H H1) (ha : H1 a = none) (hd : H1 dx = none) (ne : dx ≠ a) :
    Ex H (upd (del (upd (upd (upd (upd H1 a (exo a C none)) dx (exd dx [("path", v)])) a (exo a C (some dx))) dx (exd dx [("item", u), ("path", v)])) a) dx (.xd [("item", u), ("path", v)])) := fun b o h => by
  have h1 := e b o h
  have nd : b ≠ dx := ne_of_none h1 hd
  have na : b ≠ a := ne_of_none h1 ha
  rw [upd_ne nd, del_ne na, upd_ne nd, upd_ne na, upd_ne nd, upd_ne na]
  exact h1
end
/-- raise BadPart(path, item): the two told, its dict new -/
def EBad (C : Addr) (B : Addr → Prop) (H : Hp) (p i : PyData) (W : XK) : Prop := ∀ dd v u H', Ex H H' → H dd = none → ¬ B dd → H' dd = some (.xd [("item", u), ("path", v)]) → Den B H' v p → Den B H' u i → W (.ref C) (some dd) H'
section
variable {K : PySem.W.Frag} {B : Addr → Prop} {σ : L2.St} {H : Hp} {ta tb : TE} {d e : PyData} {C : Addr}
/-- making it -/
theorem mk_bad (hB : BOk B H) (h1 : EvD B ta σ H d) (h2 : EvD B tb σ H e) {Q : XK} (q : EBad C B H d e Q) : tMkO C (spInit C) [] (tCons ta (tCons tb tNil)) σ H Q :=
  h1 H (Ex.refl H) _ fun v H1 x1 dv => h2 H1 x1 _ fun u H2 x2 du => ⟨by show 2 ≤ 1000; decide, fun a ha => ⟨a, v, u, rfl, upd_same, fun dx hd ne => by
    have hd2 : H2 dx = none := by rw [upd_ne ne] at hd; exact hd
    have x := x1.trans x2
    have ex := badExt (C := C) (v := v) (u := u) (Ex.refl H2) ha hd2 ne
    refine ⟨rfl, dx, _, ?_, upd_same, hd2, q dx v u _ (x.trans ex) ((Kp.of (B := B) x).dom dx hd2) ((hB.ex x).new hd2) upd_same ((dv.ex x2).ex ex) (du.ex ex)⟩
    rw [upd_ne ne.symm]
    exact upd_same⟩⟩
end
end G
set_option maxHeartbeats 4000000
/-! need_part -/
namespace G
open PySem PySem.Spec PyProof.Rows L2 Evl
def twD : Option (List Nat) → PyData
  | none => .none
  | some p => pathD p
theorem twD_non (t : Option (List Nat)) : isNon (twD t) = t.isNone := by cases t <;> rfl
theorem itemD_non (t : Option Item) : isNon (itemD t) = t.isNone := by cases t <;> rfl
theorem addHoles_snoc (p : List Nat) (h : Str) : ∀ (hs w : List Str) (t : Option (List Nat)), addHoles p (hs ++ [h]) w t = ((addHoles p hs w t).1 ++ [h], if h ∈ (addHoles p hs w t).1 then (addHoles p hs w t).2.orElse (fun _ => some p) else (addHoles p hs w t).2)
  | [], _, _ => rfl
  | x :: r, w, t => addHoles_snoc p h r _ _
theorem addHoles_fst (p : List Nat) : ∀ (hs w : List Str) (t : Option (List Nat)), (addHoles p hs w t).1 = w ++ hs
  | [], w, t => (List.append_nil w).symm
  | x :: r, w, t => by
    show (addHoles p r (w ++ [x]) _).1 = _
    rw [addHoles_fst p r, List.append_assoc]
    rfl
theorem holesOf_len : ∀ ds : List PyData, (holesOf ds).length ≤ ds.length
  | [] => Nat.le_refl _
  | d :: r => by
    have := holesOf_len r
    unfold holesOf
    by_cases h : begins d HOL = true
    · rw [if_pos h]
      simp only [List.length_cons]
      omega
    · rw [if_neg h]
      simp only [List.length_cons]
      omega
/-- need_part's promise -/
def spNeed (C : Addr) : Sp := fun vs H Q E => ∃ (B : Addr → Prop) (d : PyData), BOk B H ∧ Dens B H vs [d] ∧ (fault d = none → ∀ v H', Ex H H' → Den B H' v d → Q v H') ∧ ∀ p r, fault d = some (p, r) → EBad C B H (pathD p) (.str r.str) E
theorem EBad.go {C : Addr} {B : Addr → Prop} {H H' : Hp} {p i : PyData} {W : XK} (h : EBad C B H p i W) (x : Ex H H') : EBad C B H' p i W := fun dd v u H2 x2 hn nb hd dp di => h dd v u H2 (x.trans x2) ((Kp.of (B := B) x).dom dd hn) nb hd dp di
theorem EBad.le {C : Addr} {B B' : Addr → Prop} {H : Hp} {p i : PyData} {W : XK} (l : ∀ b, B b → B' b) (h : EBad C B H p i W) : EBad C B' H p i W := fun dd v u H2 x2 hn nb hd dp di => h dd v u H2 x2 hn (fun z => nb (l _ z)) hd (dp.le l) (di.le l)
section
variable {P : Program} {w : World} {K : PySem.W.Frag} {mg : Str → Option Value} {base : Heap} {C gb fI : Addr} {fd : FuncData}
theorem walkF_go {k : Nat} {p : List Nat} {d : PyData} {st : List Ent} {w : List Str} {t : Option (List Nat)} (h : p.length < 8) (hi : itemOf d = none) : walkF (k + 1) ((p, d) :: st) w t = walkF k (below p d ++ st) (addHoles p (holesIn d) w t).1 (addHoles p (holesIn d) w t).2 := by
  rw [walkF, if_neg (by omega), hi]
theorem z_four {K : PySem.W.Frag} {B : Addr → Prop} {σ : L2.St} {H : Hp} {ta : TE} {D : Ends} {tw : TS} {ds : List PyData} (hB : BOk B H) (h : EvN B ta σ H ds)
    (k : ∀ pl ps xs H1, H pl = none → H ps = none → pl ≠ ps → Ex H H1 → H1 pl = some (.lst xs) → H1 ps = some (.dK []) → Up B H (Add (Add B pl) ps) H1 → Dens (Add (Add B pl) ps) H1 xs ds → tw D ((((σ.set 1 (some (.ref pl))).set 2 (some (.int 0))).set 3 (some (.ref ps))).set 4 (some .non)) H1) :
    tSeq (tAsg (tTup (tCons ta (tCons (tC (.int 0)) (tCons tDNewK (tCons (tC .non) tNil))))) (gTup K 4 (gCons (gName 1) (gCons (gName 2) (gCons (gName 3) (gCons (gName 4) gNil)))))) tw D σ H :=
  h H (Ex.refl H) _ fun pl ys H1 hpl x1 hl dy => fun ps hps => ⟨by show 4 ≤ sizeLine; decide, fun tt htt => ⟨tt, _, rfl, SqT.of upd_same, rfl, _, _, rfl, _, _, rfl, _, _, rfl, _, _, rfl, rfl, by
    have hne : pl ≠ ps := ne_of_none hl hps
    have u1 : Up B H (Add B pl) H1 := upAdd hB x1 hpl hl
    have dy2 := dy.up ((Up.refl u1.ok).add (o := .dK []) hps)
    have x4 := Ex.new (o := .tup [.ref pl, .int 0, .ref ps, .non]) htt
    exact k pl ps ys _ hpl ((Kp.of (B := B) x1).dom ps hps) hne ((x1.trans (Ex.new hps)).trans x4) (x4 pl _ (by rw [upd_ne hne]; exact hl)) (x4 ps _ upd_same) ((u1.add (o := .dK []) hps).ex x4) (dy2.ex x4)⟩⟩
theorem c_need_part (T : Txt K mg) (TB : BadX K mg C gb fI fd) : Cal P w K mg base (L2.CX P w) 6 "need_part" (spNeed C) := by
  obtain ⟨f, fd2, Fn, hm, bnd⟩ := T.fneed_part.ex
  refine ⟨f, fd2, pneed_part, Fn.okX (k := 5) scneed_part (fun vs H Q E h => by obtain ⟨B, d, _, dv, _⟩ := h; rw [dv.length]; rfl) ?_, hm, Fn.kp, bnd⟩
  rintro cdv A outer s H vs Q E hr ⟨B, d, hB, dv, qn, qe⟩
  have hu := hu_of hr
  refine ⟨_, pss_cons (ps_asg (pe_tup (pa_cons (pe_lst (pa_cons (pe_tup (pa_cons (pe_tup pa_nil) (pa_cons (pv 0) pa_nil))) pa_nil)) (pa_cons pe_int (pa_cons pe_dnewK (pa_cons pe_non pa_nil)))))
      (pg_tup (by rfl) (pgs_cons (pg_name (i := 1) scneed_part.nd rfl (Or.inl rfl)) (pgs_cons (pg_name (i := 2) scneed_part.nd rfl (Or.inl rfl)) (pgs_cons (pg_name (i := 3) scneed_part.nd rfl (Or.inl rfl)) (pgs_cons (pg_name (i := 4) scneed_part.nd rfl (Or.inl rfl)) pgs_nil))))))
    (pss_cons (ps_while (passes_of rfl) (pt_cmpR (op_neE (hu0 hr)) (pv 1) (pe_lst pa_nil) (nomark _))
      (pss_cons (ps_asg (e_pop (pv 1)) (pg_tup (by rfl) (pgs_cons (pg_name (i := 5) scneed_part.nd rfl (Or.inr rfl)) (pgs_cons (pg_name (i := 6) scneed_part.nd rfl (Or.inl rfl)) pgs_nil))))
      (pss_cons (ps_aug (i := 2) scneed_part.nd rfl (Or.inl rfl) pe_int ip_add)
      (pss_cons (ps_set (i := 7) scneed_part.nd rfl (Or.inl rfl) (pe_cal (c_fault_of T) hr (pa_cons (pv 6) pa_nil)))
      (pss_cons (ps_if (pw_or (pt_cmpR op_gt (pv 2) (e_I T.i_MOST_ELEMENTS) (nomark _)) (pw_or1 (pt_cmpR op_ge (e_len T (pv 5)) (e_I T.i_MOST_LEVELS) (nomark _)))).pt (pss_one (ps_set (i := 7) scneed_part.nd rfl (Or.inl rfl) pe_str)) pss_nil)
      (pss_cons (ps_if (pt_cmpR op_notN (pv 7) pe_non (nomark _)) (pss_one (ps_raise rfl (takes_of rfl rfl rfl rfl) (pmk_oex TB.oex TB.iC TB.tI (bad_init TB) (hr.mono (by decide)) TB.bnd .nil pass0 (by rfl) TB.gC (pa_cons (pv 5) (pa_cons (pv 7) pa_nil))))) pss_nil)
      (pss_cons (ps_for (passes_of rfl) rfl (pi_list (pe_cal (c_holes_in T) (hr.mono (by decide)) (pa_cons (pv 6) pa_nil))) (pg_name (i := 8) scneed_part.nd rfl (Or.inl rfl))
        (pss_cons (ps_if (pw_and (pt_cmp (pc_din hu (pv 8) (pv 3))) (pw_and1 (pt_cmpR op_isN (pv 4) pe_non (nomark _)))).pt (pss_one (ps_set (i := 4) scneed_part.nd rfl (Or.inl rfl) (pv 5))) pss_nil)
        (pss_one (ps_dput hu (pv 3) (pv 8) pe_bl rfl))))
      (pss_one (ps_expr (e_ext (pv 1) (pe_revL (pe_lc (own := [("number", 9), ("child", 10)]) (g := gTup K 2 (gCons (gName 9) (gCons (gName 10) gNil))) (tt := tYes) (te := tTup (tCons (tOp (rCatA K) (tVar 5) (tTup (tCons (tVar 9) tNil))) (tCons (tVar 10) tNil)))
        (by rfl) scneed_part.nd (pi_list (pe_cal (c_child_elements T) (hr.mono (by decide)) (pa_cons (pv 6) pa_nil))) (blkOk_by (own := [("number", 9), ("child", 10)]) (N := nneed_part) (sc := defScope sneed_part) (by decide +kernel))
        (fun _ _ _ _ _ => pg_tup (by rfl) (pgs_cons (pg_name (i := 9) scneed_part.nd rfl (Or.inl rfl)) (pgs_cons (pg_name (i := 10) scneed_part.nd rfl (Or.inl rfl)) pgs_nil)))
        (fun _ _ _ _ _ => pts_nil) (fun _ _ _ _ _ => pe_tup (pa_cons (pe_op op_catA (pv 5) (pe_tup (pa_cons (pv 9) pa_nil))) (pa_cons (pv 10) pa_nil)))))))))))))))
    (pss_cons (ps_if (pt_cmpR op_notN (pv 4) pe_non (nomark _)) (pss_one (ps_raise rfl (takes_of rfl rfl rfl rfl) (pmk_oex TB.oex TB.iC TB.tI (bad_init TB) (hr.mono (by decide)) TB.bnd .nil pass0 (by rfl) TB.gC (pa_cons (pv 4) (pa_cons (e_S T.c_HOLE) pa_nil))))) pss_nil)
    (pss_one (ps_ret (pv 0))))), ?_⟩
  obtain ⟨v0, rfl, d0⟩ := dv.one'
  refine z_four hB (ds := [entD ([], d)]) (vn_lst hB (va_cons (vd_tup hB (va_cons (vd_tup hB va_nil (by show 0 ≤ 100000; decide)) (va_cons (vd_var rfl d0) va_nil)) (by show 2 ≤ 100000; decide)) va_nil) (by show 1 ≤ 100000; decide)) ?_
  intro pl ps ys H1 hpl hps0 hne ex1 hl2 hd2 up1 dy2
  refine z_while (fun m σ' H' => ∃ st w t cnt ys kvs tv a b c h, σ' = [some v0, some (.ref pl), some (.int ((cnt : Nat) : Int)), some (.ref ps), some tv, a, b, c, h, none, none] ∧ Ex H H' ∧ Up B H (Add (Add B pl) ps) H' ∧ H' pl = some (.lst ys) ∧ H' ps = some (.dK kvs) ∧
      Dens (Add (Add B pl) ps) H' ys (st.map entD).reverse ∧ Den (Add (Add B pl) ps) H' tv (twD t) ∧ Keyed kvs Sum.inr w ∧ kvs.length ≤ cnt * 100000 ∧ cnt + m = 60 ∧ fault d = walkF m st w t ∧ st.length ≤ 1 + cnt * 100000) 60 ?_ ?_
  · exact ⟨[([], d)], [], none, 0, ys, [], .non, none, none, none, none, rfl, ex1, up1, hl2, hd2, dy2, .non, Keyed.nil, Nat.le_refl _, rfl, rfl, by show 1 ≤ 1 + 0 * 100000; decide⟩
  rintro m σ' H' ⟨st, w, t, cnt, ys, kvs, tv, a, b, c, h, rfl, ex, up, hl, hd, dy, dt, hk, hkl, hcm, hf, hsl⟩
  refine ⟨!st.isEmpty, vt_test (vd_is (vd_cmpL (B := B) (neg := true) (ev_var rfl) (SqL.of hl)) ?_), ?_, ?_⟩
  · have := dy.length
    rw [List.length_reverse, List.length_map] at this
    show PyData.bool (!ys.isEmpty) = _
    rw [isEmpty_len this]
  · intro hb H2 x2 D' hD hnx
    cases st with
    | nil => cases hb
    | cons e st =>
      obtain ⟨p, o⟩ := e
      have up2 := up.ex x2
      have dy2 := dy.ex x2
      rw [stack_cons] at dy2
      obtain ⟨zs, v, rfl, dz, dv⟩ := dy2.snoc'
      refine z_pop2 (B := Add (Add B pl) ps) (x2 pl _ hl) (ev_var rfl) dv (.inl (.inr rfl)) fun u o' H3 kp other hl3 du dw => ?_
      have hd3 : H3 ps = some (.dK kvs) := other ps _ hne.symm (x2 ps _ hd)
      have ex3 : Ex H H3 := fun c z hc => other c z (fun e => by rw [e, hpl] at hc; cases hc) (x2 c _ (ex c z hc))
      have up3 := up2.kp kp
      have dt3 := (dt.ex x2).kp kp
      have dz3 := dz.kp kp
      refine z_aug (B := Add (Add B pl) ps) (f := fun x y => x + y) (a := ((cnt : Nat) : Int)) (b := 1) rfl vd_int fun H4 x4 => ?_
      have hc1 : ((cnt : Nat) : Int) + 1 = ((cnt + 1 : Nat) : Int) := by omega
      rw [hc1]
      have up4 := up3.ex x4
      have du4 := du.ex x4
      have dw4 := dw.ex x4
      refine z_asg (vd_call1 up4.ok (vd_var rfl dw4)) fun c5 H5 x5 dc => ?_
      have up5 := up4.ex x5
      have du5 := du4.ex x5
      have dw5 := dw4.ex x5
      have hplen : hasLen (pathD p) = true ∧ dlen (pathD p) = p.length := ⟨rfl, by show (p.map fun n => PyData.int (n : Nat)).length = _; rw [List.length_map]⟩
      refine z_ifAsg (d := itemD (if (decide (60 < cnt + 1) || decide (8 ≤ p.length)) = true then some .form else itemOf o)) (et_or (vt_test (vd_gtN (B := B) (vd_var rfl (.int _ (fit_nat (by omega)))) (vd_nat (n := 60)))) fun _ => vt_test (vd_geN (vd_len (vd_var rfl du5) hplen.1 hplen.2) (vd_nat (n := 8)))) (fun hb => vd_is vd_str (by rw [if_pos hb]; rfl)) (fun hb => ⟨c5, rfl, by rw [hb]; exact dc⟩) fun c6 H6 x6 dc6 => ?_
      have up6 := up5.ex x6
      have du6 := du5.ex x6
      have dw6 := dw5.ex x6
      have ex6 : Ex H H6 := ((ex3.trans x4).trans x5).trans x6
      refine z_when (vt_test (vd_op (vd_var rfl dc6) vd_non rd_notN)) ?_ ?_
      · intro hb H7 x7 D2 _
        refine mk_bad (up6.ex x7).ok (vd_var rfl (du6.ex x7)) (vd_var rfl (dc6.ex x7)) ?_
        rw [itemD_non] at hb
        by_cases hq : (decide (60 < cnt + 1) || decide (8 ≤ p.length)) = true
        · rw [if_pos hq]
          refine ((qe p (.item .form) ?_).go (ex6.trans x7)).le fun b h => .inl (.inl h)
          rw [hf]
          rw [Bool.or_eq_true, decide_eq_true_eq, decide_eq_true_eq] at hq
          cases m with
          | zero => rfl
          | succ j =>
            have h8 : 8 ≤ p.length := by omega
            unfold walkF
            rw [if_pos h8]
        · rw [if_neg hq] at hb ⊢
          rw [Bool.or_eq_true, decide_eq_true_eq, decide_eq_true_eq] at hq
          obtain ⟨i, hi⟩ : ∃ i, itemOf o = some i := by
            cases hh : itemOf o with
            | none => rw [hh] at hb; cases hb
            | some i => exact ⟨i, rfl⟩
          rw [hi]
          refine ((qe p (.item i) ?_).go (ex6.trans x7)).le fun b h => .inl (.inl h)
          rw [hf]
          cases m with
          | zero => omega
          | succ j =>
            unfold walkF
            rw [if_neg (by omega), hi]
      · intro hb H7 x7
        rw [itemD_non] at hb
        have hq : ¬ (decide (60 < cnt + 1) || decide (8 ≤ p.length)) = true := fun hq => by
          rw [if_pos hq] at hb
          cases hb
        rw [if_neg hq] at hb dc6
        have hit : itemOf o = none := by
          cases hh : itemOf o with
          | none => rfl
          | some i => rw [hh] at hb; cases hb
        rw [Bool.or_eq_true, decide_eq_true_eq, decide_eq_true_eq] at hq
        obtain ⟨j, rfl⟩ : ∃ j, m = j + 1 := ⟨m - 1, by omega⟩
        have hf' : fault d = walkF j (below p o ++ st) (addHoles p (holesIn o) w t).1 (addHoles p (holesIn o) w t).2 := by
          rw [hf]
          exact walkF_go (by omega) hit
        have up7 := up6.ex x7
        have du7 := du6.ex x7
        have dw7 := dw6.ex x7
        have el := elt_of hit
        have hk4 := dw.kidLen (i := 4) el.tup (kid_lt el.len (by omega)) el.kids4.1
        have hhl : (holesIn o).length ≤ 100000 := Nat.le_trans (holesOf_len _) hk4
        have x37 : Ex H3 H7 := ((x4.trans x5).trans x6).trans x7
        refine z_for (src_lst (vd_call o up7.ok (va_cons (vd_var rfl dw7) va_nil) hit)) fun H8 x8 => ?_
        have x38 := x37.trans x8
        refine ⟨fun i σ' H' => ∃ ty kv2 y8, σ' = [some v0, some (.ref pl), some (.int ((cnt + 1 : Nat) : Int)), some (.ref ps), some ty, some u, some o', some c6, y8, none, none] ∧ Kp (Add (Add B pl) ps) H8 H' ∧ Ex H H' ∧ H' pl = some (.lst zs) ∧ H' ps = some (.dK kv2) ∧
          Keyed kv2 Sum.inr (addHoles p ((holesIn o).take i) w t).1 ∧ Den (Add (Add B pl) ps) H' ty (twD (addHoles p ((holesIn o).take i) w t).2) ∧ kv2.length ≤ cnt * 100000 + i, ?_, ?_, ?_, ?_⟩
        · exact ⟨tv, kvs, h, rfl, Kp.refl _, (ex6.trans x7).trans x8, x38 pl _ hl3, x38 ps _ hd3, by rw [List.take_zero]; exact hk, by rw [List.take_zero]; exact dt3.ex x38, Nat.le_trans hkl (Nat.le_add_right _ _)⟩
        · rintro i σ' H' ⟨ty, kv2, y8, rfl, kp8, _⟩
          exact ⟨_, (Up.refl (up7.ex x8).ok).kp kp8⟩
        · rintro i e σ' H' H9 x hi ⟨ty, kv2, y8, rfl, kp8, ex8, hl8, hd8, hk8, dt8, hn8⟩ x9 hx D1 hrt hnx1 hct hbk
          have up9 := (Up.refl (up7.ex x8).ok).kp kp8
          have de : Den _ H9 x e := hx _ up9
          rw [List.getElem?_map] at hi
          obtain ⟨z, hz, rfl⟩ := Option.map_eq_some_iff.mp hi
          have hzt := take_succ_of hz
          have hsn := addHoles_snoc p z ((holesIn o).take i) w t
          rw [← hzt] at hsn
          have hil : i < (holesIn o).length := (List.getElem?_eq_some_iff.mp hz).1
          show tSeq _ _ _ [some v0, some (.ref pl), some (.int ((cnt + 1 : Nat) : Int)), some (.ref ps), some ty, some u, some o', some c6, some x, none, none] H9
          have du9 := ((du7.ex x8).kp kp8).ex x9
          have dt9 := dt8.ex x9
          have ok9 := up9.ok.ex x9
          refine z_ifAsg (B := Add (Add B pl) ps) (b := decide (z ∈ (addHoles p ((holesIn o).take i) w t).1) && (addHoles p ((holesIn o).take i) w t).2.isNone) (d := twD (addHoles p ((holesIn o).take (i + 1)) w t).2) (et_and (vt_B (vd_is (vd_dinK (vd_var rfl de) (ev_var rfl) (x9 ps _ hd8)) (congrArg PyData.bool ((hk8 z).trans (decide_eq_decide.mpr Iff.rfl))))) fun _ => vt_test (vd_is (vd_op (vd_var rfl dt9) vd_non rd_isN) (by rw [twD_non]))) ?_ ?_ ?_
          · intro hb
            rw [Bool.and_eq_true, decide_eq_true_eq] at hb
            refine vd_is (vd_var rfl du9) ?_
            rw [hsn]
            show pathD p = twD (if z ∈ _ then _ else _)
            rw [if_pos hb.1]
            cases hh : (addHoles p ((holesIn o).take i) w t).2 with
            | none => rfl
            | some y => rw [hh] at hb; cases hb.2
          · intro hb
            refine ⟨ty, rfl, ?_⟩
            have e2 : (addHoles p ((holesIn o).take (i + 1)) w t).2 = (addHoles p ((holesIn o).take i) w t).2 := by
              rw [hsn]
              show (if z ∈ _ then _ else _) = _
              by_cases hm : z ∈ (addHoles p ((holesIn o).take i) w t).1
              · rw [if_pos hm]
                cases hh : (addHoles p ((holesIn o).take i) w t).2 with
                | none => rw [hh, decide_eq_true hm] at hb; cases hb
                | some y => rfl
              · rw [if_neg hm]
            rw [e2]
            exact dt9
          · intro vt H10 x10 dvt
            refine sd_dputK (B := Add (Add B pl) ps) vd_bl (ev_var rfl) (vd_var rfl (de.ex x10)) ((x9.trans x10) ps _ hd8) (by omega) fun v11 H11 x11 dv11 => ?_
            rw [hnx1]
            have xx := (x9.trans x10).trans x11
            refine ⟨vt, putK kv2 (.inr z) v11, some x, rfl, (kp8.trans (.of xx)).wr (.inr rfl), (ex8.trans xx).mut hps0, ?_, upd_same, ?_, ?_, ?_⟩
            · rw [upd_ne hne]
              exact xx pl _ hl8
            · rw [hsn]
              exact hk8.put (fun a b h => Sum.inr.inj h) _ _
            · exact dvt.kp ((Kp.of x11).wr (.inr rfl))
            · have := length_putK kv2 (Sum.inr z) v11
              omega
        · rintro σ' H' ⟨ty, kv2, y8, rfl, kp8, ex8, hl8, hd8, hk8, dt8, hn8⟩
          rw [List.length_map] at hk8 dt8 hn8
          rw [List.take_length] at hk8 dt8
          have up9 := (up7.ex x8).kp kp8
          have du9 := (du7.ex x8).kp kp8
          have dw9 := (dw7.ex x8).kp kp8
          have dz9 := (dz3.ex x38).kp kp8
          have hin : (pairsOf (elems o)).length ≤ 100000 := by
            unfold pairsOf
            rw [List.length_map]
            exact Nat.le_trans (inside_len _ _) hk4
          have hzl : zs.length = st.length := by
            have := dz.length
            rw [List.length_reverse, List.length_map] at this
            exact this
          have hsl' : st.length + 1 ≤ 1 + cnt * 100000 := hsl
          have hbl : (below p o).length ≤ 100000 := by
            unfold below
            rw [List.length_map]
            exact Nat.le_trans (inside_len _ _) hk4
          refine z_ext (tw := tNext) (ds := ((below p o).map entD).reverse) hl8 (ev_var rfl) (vd_rev (vd_is (vd_lcP up9.ok (src_lst (vd_call o up9.ok (va_cons (vd_var rfl dw9) va_nil) hit)) (fun _ => true) (entOf p) hin (fun x hx => pairs_pair hx) (fun _ _ => rfl) (fun _ H1 _ _ _ _ _ _ _ _ H2 e Q q => q H2 (Ex.refl H2)) ?_) ?_) up9.ok) ?_ fun vs H10 x10 dvs => ?_
          · intro B' H10 up10 a b hm _ x y dx10 dy10
            have dp : Den B' H10 u (.tuple (p.map fun n => PyData.int (n : Nat))) := du9.up up10
            exact vd_tup up10.ok (va_cons (vd_catT (vd_var rfl dp) (vd_tup up10.ok (va_cons (vd_var rfl dx10) va_nil) (by show 1 ≤ 100000; decide)) up10.ok (by rw [List.length_map]; show p.length + 1 ≤ 100000; omega)) (va_cons (vd_var rfl dy10) va_nil)) (by show 2 ≤ 100000; decide)
          · rw [List.filter_eq_self.mpr (fun _ _ => rfl), below_ent]
          · rw [List.length_reverse, List.length_map]
            omega
          · show D'.nx _ _
            have kw : Kp (Add (Add B pl) ps) H' (upd H10 pl (.lst (zs ++ vs))) := (Kp.of x10).wr (.inl (.inr rfl))
            refine hnx j _ _ (Nat.lt_succ_self _) ⟨below p o ++ st, _, _, cnt + 1, zs ++ vs, kv2, ty, some u, some o', some c6, y8, rfl, (ex8.trans x10).mut hpl, up9.kp kw, upd_same, ?_, ?_, dt8.kp kw, hk8, by omega, by omega, hf', ?_⟩
            · rw [upd_ne hne.symm]
              exact x10 ps _ hd8
            · rw [stack_push]
              exact (dz9.kp kw).append (dvs.kp ((Kp.refl H10).wr (.inl (.inr rfl))))
            · rw [List.length_append]
              omega
  · intro hb H2 x2
    cases st with
    | cons e st => cases hb
    | nil =>
      have up2 := up.ex x2
      have dt2 := dt.ex x2
      have hft : fault d = t.map fun p => (p, .hole) := by
        rw [hf]
        cases m <;> rfl
      refine z_when (vt_test (vd_op (vd_var rfl dt2) vd_non rd_notN)) ?_ ?_
      · intro hb2 H3 x3 D2 _
        rw [twD_non] at hb2
        cases t with
        | none => cases hb2
        | some p =>
          exact mk_bad (up2.ex x3).ok (vd_var rfl (dt2.ex x3)) vd_str (((qe p .hole hft).go ((ex.trans x2).trans x3)).le fun b h => .inl (.inl h))
      · intro hb2 H3 x3
        rw [twD_non] at hb2
        cases t with
        | some p => cases hb2
        | none => exact sd_rt (B := B) (qn hft) ((ex.trans x2).trans x3) (vd_var rfl (d0.ex ((ex.trans x2).trans x3))) rfl
end
end G
set_option maxHeartbeats 4000000
/-! sorted texts; sorted(set(xs)) (its rule's proof stands in S0) -/
namespace G
open PySem PySem.Spec PyProof.Rows L2 Evl
/-- ys are the texts of xs, each once, in order -/
def SrtOk (ys xs : List Str) : Prop := sortedS ys = true ∧ ys.Nodup ∧ ∀ x, x ∈ ys ↔ x ∈ xs
theorem risingS_pw : ∀ (xs : List Str) (p : Str), risingS p xs = true → (p :: xs).Pairwise fun a b => a.cps.toList ≤ b.cps.toList
  | [], p, _ => by simp
  | x :: r, p, h => by
    have h' : (!ltCps x.cps.toList p.cps.toList && risingS x r) = true := h
    rw [Bool.and_eq_true, Bool.not_eq_true', ltCps_eq, decide_eq_false_iff_not] at h'
    have ih := risingS_pw r x h'.2
    have hle : p.cps.toList ≤ x.cps.toList := List.not_lt.mp h'.1
    refine List.pairwise_cons.mpr ⟨fun y hy => ?_, ih⟩
    rcases List.mem_cons.mp hy with e | e
    · rw [e]; exact hle
    · exact List.le_trans hle ((List.pairwise_cons.mp ih).1 y e)
theorem sortedS_pw {xs : List Str} (h : sortedS xs = true) : xs.Pairwise fun a b => a.cps.toList ≤ b.cps.toList := by
  cases xs with
  | nil => exact List.Pairwise.nil
  | cons x r => exact risingS_pw r x h
theorem str_anti {a b : Str} (h1 : a.cps.toList ≤ b.cps.toList) (h2 : b.cps.toList ≤ a.cps.toList) : a = b := by
  have e := List.le_antisymm h1 h2
  cases a with
  | mk x => cases b with
    | mk y => exact congrArg Str.mk (Array.toList_inj.mp e)
theorem srt_uniq : ∀ (ys zs xs : List Str), SrtOk ys xs → SrtOk zs xs → ys = zs := by
  have key : ∀ (ys zs : List Str), ys.Pairwise (fun a b => a.cps.toList ≤ b.cps.toList) → zs.Pairwise (fun a b => a.cps.toList ≤ b.cps.toList) → ys.Nodup → zs.Nodup → (∀ x, x ∈ ys ↔ x ∈ zs) → ys = zs := by
    intro ys
    induction ys with
    | nil =>
      intro zs _ _ _ _ hm
      cases zs with
      | nil => rfl
      | cons z r => exact absurd ((hm z).mpr (List.mem_cons_self ..)) (by simp)
    | cons y ys ih =>
      intro zs p1 p2 n1 n2 hm
      cases zs with
      | nil => exact absurd ((hm y).mp (List.mem_cons_self ..)) (by simp)
      | cons z zs =>
        obtain ⟨a1, a2⟩ := List.pairwise_cons.mp p1
        obtain ⟨b1, b2⟩ := List.pairwise_cons.mp p2
        obtain ⟨c1, c2⟩ := List.nodup_cons.mp n1
        obtain ⟨d1, d2⟩ := List.nodup_cons.mp n2
        have hyz : y = z := by
          rcases List.mem_cons.mp ((hm y).mp (List.mem_cons_self ..)) with e | e
          · exact e
          · rcases List.mem_cons.mp ((hm z).mpr (List.mem_cons_self ..)) with e' | e'
            · exact e'.symm
            · exact str_anti (a1 z e') (b1 y e)
        subst hyz
        rw [ih zs a2 b2 c2 d2 fun x => ?_]
        constructor
        · intro hx
          rcases List.mem_cons.mp ((hm x).mp (List.mem_cons_of_mem _ hx)) with e | e
          · rw [e] at hx; exact absurd hx c1
          · exact e
        · intro hx
          rcases List.mem_cons.mp ((hm x).mpr (List.mem_cons_of_mem _ hx)) with e | e
          · rw [e] at hx; exact absurd hx d1
          · exact e
  intro ys zs xs h1 h2
  exact key ys zs (sortedS_pw h1.1) (sortedS_pw h2.1) h1.2.1 h2.2.1 fun x => (h1.2.2 x).trans (h2.2.2 x).symm
open Classical in
noncomputable def srt (xs : List Str) : List Str := if h : ∃ ys, SrtOk ys xs then h.choose else []
theorem srt_eq {ys xs : List Str} (h : SrtOk ys xs) : srt xs = ys := by
  have hx : ∃ ys, SrtOk ys xs := ⟨ys, h⟩
  unfold srt
  rw [dif_pos hx]
  exact srt_uniq _ _ _ hx.choose_spec h
theorem srt_congr {xs ys : List Str} (h : ∀ x, x ∈ xs ↔ x ∈ ys) : srt xs = srt ys := by
  by_cases hx : ∃ zs, SrtOk zs xs
  · obtain ⟨zs, hz⟩ := hx
    rw [srt_eq hz, srt_eq (xs := ys) ⟨hz.1, hz.2.1, fun x => (hz.2.2 x).trans (h x)⟩]
  · have hy : ¬ ∃ zs, SrtOk zs ys := fun ⟨zs, hz⟩ => hx ⟨zs, hz.1, hz.2.1, fun x => (hz.2.2 x).trans (h x).symm⟩
    unfold srt
    rw [dif_neg hx, dif_neg hy]
/-! sorted(xs), no text twice -/
section
variable {K : PySem.W.Frag} {B : Addr → Prop} {σ : L2.St} {H : Hp} {te : TE}
theorem nodup_len {α : Type} [DecidableEq α] : ∀ {xs D : List α}, xs.Nodup → (∀ x ∈ xs, x ∈ D) → xs.length ≤ D.length
  | [], _, _, _ => Nat.zero_le _
  | x :: r, D, hn, h => by
    obtain ⟨h1, h2⟩ := List.nodup_cons.mp hn
    have hx := h x (List.mem_cons_self ..)
    have ih := nodup_len (D := D.erase x) h2 fun y hy => (List.mem_erase_of_ne (fun e => by rw [e] at hy; exact h1 hy)).mpr (h y (List.mem_cons_of_mem _ hy))
    rw [List.length_erase_of_mem hx] at ih
    have := List.length_pos_of_mem hx
    show r.length + 1 ≤ D.length
    omega
theorem vd_sortedS {xs : List Str} (hB : BOk B H) (h : EvD B te σ H (.list (xs.map .str))) (hn : xs.Nodup) (hD : ∃ D : List Str, D.length < 64 ∧ ∀ x ∈ xs, x ∈ D) : EvD B (tCB (rSortedS K) (tCons te tNil)) σ H (.list ((srt xs).map .str)) := fun H1 x Q q => h H1 x _ fun v H2 x2 dv => by
  obtain ⟨D, hl, hm⟩ := hD
  have hlen := nodup_len hn hm
  obtain ⟨a, vs, rfl, ha, nb, r⟩ := dv.lst'
  have r0 := r
  have e := dens_str' r
  subst e
  refine ⟨a, xs, rfl, SqL.of ha, by omega, fun ys p hp hs hpn => ?_⟩
  have hy : SrtOk ys xs := ⟨hs, hp.nodup_iff.mpr hn, fun x => hp.mem_iff⟩
  rw [srt_eq hy] at q
  refine q _ _ (x2.trans (Ex.new hpn)) (.lst ?_ upd_same ((hB.ex (x.trans x2)).new hpn) (dens_strs _ ?_))
  · rw [List.length_map, hp.length_eq]
    omega
  · intro z hz
    have hzx := hp.mem_iff.mp hz
    obtain ⟨i, hi⟩ := List.getElem?_of_mem hzx
    obtain ⟨v, hv, dd⟩ := r0.get (i := i) (d := .str z) (by rw [List.getElem?_map, hi]; rfl)
    exact dd.len
theorem vd_tupOf {ds : List PyData} (hB : BOk B H) (h : EvD B te σ H (.list ds)) : EvD B (tCB (fun xs H Q => ∃ p ys, xs = [V.ref p] ∧ ((SqL K H p ys ∧ ∀ l, H l = none → Q (.ref l) (upd H l (.tup ys))) ∨ (SqT K H p ys ∧ Q (.ref p) H))) (tCons te tNil)) σ H (.tuple ds) := fun H1 x Q q => h H1 x _ fun v H2 x2 dv => by
  have hl := dv.lenL
  obtain ⟨a, xs, rfl, ha, nb, r⟩ := dv.lst'
  exact ⟨a, xs, rfl, .inl ⟨SqL.of ha, fun l hln => q _ _ (x2.trans (Ex.new hln)) (.tup (by rw [r.length]; exact hl) upd_same ((hB.ex (x.trans x2)).new hln) (r.ex (Ex.new hln)))⟩⟩
end
/-- sorted(set(xs)) -/
def tSortSet (K : PySem.W.Frag) (ta : TE) : TE := fun σ H Q => ta σ H fun x H1 => ∃ (l : Addr) (xs : List Str), x = .ref l ∧ SqL K H1 l (xs.map V.str) ∧ (∃ D : List Str, D.length < 64 ∧ ∀ x ∈ xs, x ∈ D) ∧ xs.length < 100000 ∧
  ∀ ys p, SrtOk ys xs → H1 p = none → Q (.ref p) (upd H1 p (.lst (ys.map V.str)))
theorem vd_sortSet {K : PySem.W.Frag} {B : Addr → Prop} {σ : L2.St} {H : Hp} {te : TE} {l : Addr} {xs : List Str} (hB : BOk B H) (h : Ev te σ H (.ref l)) (hl : H l = some (.lst (xs.map V.str))) (hs : ∀ x ∈ xs, x.length ≤ 1000) (hn : xs.length < 100000) (hD : ∃ D : List Str, D.length < 64 ∧ ∀ x ∈ xs, x ∈ D) :
    EvD B (tSortSet K te) σ H (.list ((srt xs).map .str)) := fun H1 x Q q => h H1 x _ fun H2 x2 => by
  refine ⟨l, xs, rfl, SqL.of ((x.trans x2) l _ hl), hD, hn, fun ys p hy hp => ?_⟩
  rw [srt_eq hy] at q
  obtain ⟨D, hDl, hm⟩ := hD
  have hlen := nodup_len hy.2.1 fun x hx => hm x ((hy.2.2 x).mp hx)
  exact q _ _ (x2.trans (Ex.new hp)) (.lst (by rw [List.length_map]; omega) upd_same ((hB.ex (x.trans x2)).new hp) (dens_strs _ fun z hz => hs z ((hy.2.2 z).mp hz)))
end G
set_option maxHeartbeats 2000000
/-! sets of texts: made of a list, sorted -/
namespace G
open PySem PySem.Spec PyProof.Rows L2
/-- an entry that holds a text -/
def TxtE (w : World) (e : Int × Value) : Prop := ∃ x tk, e.2 = Value.str x tk ∧ e.1 = hashStr w x
def txtOf (e : Int × Value) : Str := match e.2 with
  | .str x _ => x
  | _ => Str.empty
/-- the set at a: its members are those of L -/
structure SetS (w : World) (h : Heap) (a : Addr) (L : List Str) : Prop where
  ex : ∃ (o : Obj) (es : Array (Int × Value)) (ep : Nat) (t : SetTable), h.get? a = some o ∧ o.ExactSet ∧ o.data = .set es ep t ∧ ((∀ e ∈ es.toList, TxtE w e) ∧ (es.toList.map txtOf).Nodup ∧ ∀ x, x ∈ L ↔ x ∈ es.toList.map txtOf) ∧ (es.size < scanBound ∧ t.fits es.size = true ∧ Ris t.place.toList ∧ (w.params.followText "set-order" = true ∨ t.led = true))
section
variable {P : Program} {w : World} {h h' : Heap} {a : Addr} {L : List Str} {A : Around} {E : Value → Shared → Prop} {s : Shared}
theorem SetS.at (R : SetS w h a L) (k : ∀ o, h.get? a = some o → h'.get? a = some o) : SetS w h' a L := by
  obtain ⟨o, es, ep, t, ho, r⟩ := R.ex
  exact ⟨o, es, ep, t, k o ho, r⟩
theorem SetS.eqv {L' : List Str} (R : SetS w h a L) (e : ∀ x, x ∈ L' ↔ x ∈ L) : SetS w h a L' := by
  obtain ⟨o, es, ep, t, ho, hx, hd, ⟨g, n, m⟩, r⟩ := R.ex
  exact ⟨o, es, ep, t, ho, hx, hd, ⟨g, n, fun x => (e x).trans (m x)⟩, r⟩
theorem txt_elems {l : List (Int × Value)} (g : ∀ e ∈ l, TxtE w e) : ElemsOf (PySem.strKind P w) l := fun e he => by
  obtain ⟨x, tk, e1, e2⟩ := g e he
  exact ⟨⟨x, by rw [e1]; exact strKind_is P w x tk, e2⟩, by rw [e1] <;> rfl⟩
theorem txt_is {e : Int × Value} (g : TxtE w e) (k : Str) : (PySem.strKind P w).is k e.2 = true ↔ txtOf e = k := by
  obtain ⟨x, tk, e1, _⟩ := g
  unfold txtOf
  rw [e1]
  constructor
  · intro q
    exact (PySem.strKind P w).inj _ _ _ (strKind_is P w x tk) q
  · rintro rfl
    exact strKind_is P w x tk
/-- entries stored -/
theorem setS_put {o : Obj} {es es2 : Array (Int × Value)} {ep : Nat} {t t2 : SetTable} (ho : h.get? a = some o) (hex : o.ExactSet) (hd : o.data = .set es ep t) (g : (∀ e ∈ es2.toList, TxtE w e) ∧ (es2.toList.map txtOf).Nodup ∧ ∀ x, x ∈ L ↔ x ∈ es2.toList.map txtOf)
    (r : es2.size < scanBound ∧ t2.fits es2.size = true ∧ Ris t2.place.toList ∧ (w.params.followText "set-order" = true ∨ t2.led = true)) : SetS w (h.update a (Obj.putSet es2 t2)) a L :=
  ⟨_, es2, ep + 1, t2, store_at ho hd, hex, rfl, g, r⟩
theorem perm_ok {es es2 : Array (Int × Value)} (pm : es2.toList.Perm es.toList) (g : (∀ e ∈ es.toList, TxtE w e) ∧ (es.toList.map txtOf).Nodup ∧ ∀ x, x ∈ L ↔ x ∈ es.toList.map txtOf) : (∀ e ∈ es2.toList, TxtE w e) ∧ (es2.toList.map txtOf).Nodup ∧ ∀ x, x ∈ L ↔ x ∈ es2.toList.map txtOf :=
  ⟨fun e he => g.1 e (pm.mem_iff.mp he), (pm.map txtOf).nodup_iff.mpr g.2.1, fun x => (g.2.2 x).trans (pm.map txtOf).mem_iff.symm⟩
/-- behind the laying of a new entry: the table may be laid anew -/
theorem setS_tail {b0 : Bool} {gv : Bool → Sem Unit} (hgv : ∀ (b : Bool) (s1 : Shared) (Q1 : Unit → Shared → Prop), Q1 () s1 → wpAny (model P w) A (gv b) Q1 E s1) {o : Obj} {es es1 : Array (Int × Value)} {ep : Nat} {t t1 : SetTable} {Q : Option Bool → Shared → Prop}
    (ho : s.heap.get? a = some o) (hex : o.ExactSet) (hd : o.data = .set es ep t) (g : (∀ e ∈ es1.toList, TxtE w e) ∧ (es1.toList.map txtOf).Nodup ∧ ∀ x, x ∈ L ↔ x ∈ es1.toList.map txtOf)
    (r : es1.size < scanBound ∧ t1.fits es1.size = true ∧ Ris t1.place.toList ∧ (w.params.followText "set-order" = true ∨ t1.led = true)) (k : ∀ h', Heap.SameBut a s.heap h' → SetS w h' a L → Q (some true) { s with heap := h' }) :
    wpAny (model P w) A (do
        storeSet a es1 t1
        if (!b0 && t1.tooFull) = true then do
            gv (relayAll t1 es1 (SetTable.grown es1.size)).2.2
            storeSet a (relayAll t1 es1 (SetTable.grown es1.size)).1 (relayAll t1 es1 (SetTable.grown es1.size)).2.1
            pure (some true)
          else pure (some true)) Q E s := by
  have b1 := Heap.SameBut.update s.heap a (Obj.putSet es1 t1)
  refine wpAny_bind (wpAny_storeSet_of ho hd ?_ (fits_of_scanBound r.1))
  by_cases hc : (!b0 && t1.tooFull) = true
  · rw [if_pos hc]
    have p := relayAll_perm t1 es1 (SetTable.grown es1.size)
    have f := relayAll_fits t1 es1 (SetTable.grown es1.size)
    have ri := relayAll_ris t1 es1 (SetTable.grown es1.size)
    have le := relayAll_led t1 es1 (SetTable.grown es1.size)
    revert p f ri le
    generalize relayAll t1 es1 (SetTable.grown es1.size) = Z
    obtain ⟨es2, t2, gave⟩ := Z
    intro p f ri le
    dsimp only at p f ri le ⊢
    have hz : es2.size = es1.size := by
      have := p.length_eq
      rw [Array.length_toList, Array.length_toList] at this
      exact this
    have hs2 : es2.size < scanBound := by rw [hz]; exact r.1
    refine wpAny_bind (hgv _ _ _ (wpAny_bind (wpAny_storeSet_of (store_at (es' := es1) (t' := t1) ho hd) rfl ?_ (fits_of_scanBound hs2))))
    refine wpAny_pure (k _ (b1.trans (Heap.SameBut.update _ a _)) (setS_put (store_at (es' := es1) (t' := t1) ho hd) hex rfl (perm_ok p g) ⟨hs2, f, ri, r.2.2.2.imp id fun z => by rw [le]; exact z⟩))
  · rw [if_neg hc]
    exact wpAny_pure (k _ b1 (setS_put ho hex hd g r))
/-- s.add(x) -/
theorem setS_add {k : Str} {tk : Tok} {Q : Bool → Shared → Prop} (R : SetS w s.heap a L) (room : ∀ ks : List Str, ks.Nodup → (∀ x ∈ ks, x ∈ L) → ks.length + 1 < scanBound) (hQ : ∀ h' b, Heap.SameBut a s.heap h' → SetS w h' a (L ++ [k]) → Q b { s with heap := h' }) :
    wpAny (model P w) A (setAddHashed a (.str k tk) ((PySem.strKind P w).hash k)) Q E s := by
  obtain ⟨o, es, ep, t, ho, hex, hd, g, hb, hf, hr, hl⟩ := R.ex
  have hroom : es.size + 1 < scanBound := by
    have := room (es.toList.map txtOf) g.2.1 fun x hx => (g.2.2 x).mpr hx
    rw [List.length_map, Array.length_toList] at this
    exact this
  have hkey : (PySem.strKind P w).is k (.str k tk) = true := strKind_is P w k tk
  have hsc : (Value.str k tk).scannable = true := rfl
  have hel : ElemsOf (PySem.strKind P w) es.toList := txt_elems g.1
  unfold setAddHashed
  unfold setAddHashedIn
  refine wpAny_holding (wpAny_bind (wpAny_setState_of ho hd hf ?_))
  dsimp only
  rw [byScan_of hsc hb hel, if_pos rfl]
  unfold setAddByScan
  refine wpAny_bind (wpAny_bind (wpAny_rule (wpAny_bind (wpAny_setScan_of hkey ho hd hf hel ?_))))
  cases hfi : List.findIdx? (fun e => (PySem.strKind P w).is k e.2) es.toList with
  | some j =>
    dsimp only
    obtain ⟨hj, pj, _⟩ := List.findIdx?_eq_some_iff_getElem.mp hfi
    have hm : k ∈ L := (g.2.2 k).mpr (List.mem_map.mpr ⟨es.toList[j], List.getElem_mem hj, (txt_is (P := P) (g.1 _ (List.getElem_mem hj)) k).mp pj⟩)
    exact wpAny_pure (wpAny_pure (hQ s.heap _ (Heap.SameBut.refl a s.heap) (R.eqv fun x => by
      rw [List.mem_append, List.mem_singleton]
      exact ⟨fun z => z.elim id fun e => e ▸ hm, .inl⟩)))
  | none =>
    dsimp only
    have hnk : k ∉ es.toList.map txtOf := fun z => by
      obtain ⟨e, he, q⟩ := List.mem_map.mp z
      have c := List.findIdx?_eq_none_iff.mp hfi e he
      rw [(txt_is (P := P) (g.1 e he) k).mpr q] at c
      cases c
    have wayOut : ∀ (b : Bool) {s1 : Shared} {Q1 : Unit → Shared → Prop}, Q1 () s1 → wpAny (model P w) A (match b with | true => rule "set.scan.the-table-gave-way" | false => pure ()) Q1 E s1 := by
      intro b s1 Q1 q
      cases b with
      | true => exact wpAny_rule q
      | false => exact wpAny_pure q
    have p := layNew_perm t es ((PySem.strKind P w).hash k) (.str k tk)
    have f := layNew_fits t es ((PySem.strKind P w).hash k) (.str k tk)
    have ri := layNew_ris t es ((PySem.strKind P w).hash k) (.str k tk) hr
    have le := layNew_led t es ((PySem.strKind P w).hash k) (.str k tk)
    revert p f ri le
    generalize layNew t es ((PySem.strKind P w).hash k) (.str k tk) = Z
    obtain ⟨es1, t1, wasDummy, gave⟩ := Z
    intro p f ri le
    dsimp only at p f ri le ⊢
    rw [Array.toList_push] at p
    have pc : es1.toList.Perm (((PySem.strKind P w).hash k, Value.str k tk) :: es.toList) := p.trans (List.perm_append_singleton _ _)
    have pk : (es1.toList.map txtOf).Perm (k :: es.toList.map txtOf) := pc.map txtOf
    have g1 : (∀ e ∈ es1.toList, TxtE w e) ∧ (es1.toList.map txtOf).Nodup ∧ ∀ x, x ∈ L ++ [k] ↔ x ∈ es1.toList.map txtOf := by
      refine ⟨fun e he => ?_, pk.nodup_iff.mpr (List.nodup_cons.mpr ⟨hnk, g.2.1⟩), fun x => ?_⟩
      · rcases List.mem_cons.mp (pc.mem_iff.mp he) with z | z
        · rw [z]
          exact ⟨k, tk, rfl, rfl⟩
        · exact g.1 e z
      · rw [List.mem_append, List.mem_singleton, g.2.2 x, pk.mem_iff, List.mem_cons]
        exact Or.comm
    have hz : es1.size = es.size + 1 := by
      have := pc.length_eq
      rw [List.length_cons, Array.length_toList, Array.length_toList] at this
      exact this
    have r1 : es1.size < scanBound ∧ t1.fits es1.size = true ∧ Ris t1.place.toList ∧ (w.params.followText "set-order" = true ∨ t1.led = true) := ⟨by rw [hz]; exact hroom, f, ri, hl.imp id fun z => by rw [le]; exact z⟩
    refine wpAny_bind (wayOut _ ?_)
    split
    · refine wpAny_bind ?_
      rw [hashByValue_scannable 8 hsc]
      refine wpAny_pure ?_
      refine setS_tail (fun b s1 Q1 q => ?_) ho hex hd g1 (r := ?_) fun h' sb r => ?_
      · cases b <;> first | exact wpAny_pure q | exact wpAny_rule q
      · refine ⟨r1.1, ?_, ?_, ?_⟩
        · first | (split <;> first | exact f | exact SetTable.fits_plain_off f) | exact f
        · first | (split <;> exact ri) | exact ri
        · first | (split <;> exact r1.2.2.2) | exact r1.2.2.2
      · dsimp only
        exact wpAny_pure (hQ h' _ sb r)
    · refine wpAny_bind (wpAny_pure ?_)
      simp only [↓reduceIte]
      refine setS_tail (fun b s1 Q1 q => ?_) ho hex hd g1 r1 fun h' sb r => ?_
      · cases b <;> first | exact wpAny_pure q | exact wpAny_rule q
      · dsimp only
        exact wpAny_pure (hQ h' _ sb r)
end
section
variable {P : Program} {w : World} {A : Around} {E : Value → Shared → Prop} {s : Shared}
theorem setS_loop {I : Addr} {fp wr : List Addr} {G : Array GenState → Array GenState → Prop} {n : Nat} {Pv : Nat → Value → Prop} {St : Nat → Shared → Prop} {R : Result → Shared → Prop} (W : WalksS P w A.in1 I fp wr G n Pv St) (S : Addr) (hSf : S ∉ fp) (xs : List Str) (hn : n = xs.length)
    (room : ∀ ks : List Str, ks.Nodup → (∀ x ∈ ks, x ∈ xs) → ks.length + 1 < scanBound) (hval : ∀ i v, Pv i v → ∃ x t, xs[i]? = some x ∧ v = .str x t) :
    ∀ (k i : Nat) (s : Shared), n - i = k → i ≤ n → St i s → SetS w s.heap S (xs.take i) → (∀ s', Moved (S :: wr) G s s' → SetS w s'.heap S xs → R (.ok (.ret .none)) s') → codeAny (model P w) A (.builtin "set.update.loop" ⟨[.ref S, .ref I], []⟩) R s := by
  have nSw : S ∉ wr := fun h => hSf (W.sub _ h)
  have wider : ∀ b ∈ wr, b ∈ S :: wr := fun b hb => .tail _ hb
  intro k
  induction k with
  | zero =>
    intro i s hk hi hst hS hR
    obtain rfl : i = n := by omega
    refine codeAny_builtin PyProof.Rows.F.entry_set_update_loop ?_
    rw [Around.under_plainId PyProof.Rows.F.plain_set_update_loop _]
    refine wpAny_bind (m := pyNext (.ref I)) (W.done s _ _ hst fun s2 hm => wpAny_pure (hR s2 (hm.mono wider) ?_))
    have S2 := hS.at (h' := s2.heap) fun o e => hm.heap S o nSw e
    rw [List.take_of_length_le (by omega)] at S2
    exact S2
  | succ k ih =>
    intro i s hk hi hst hS hR
    have hlt : i < n := by omega
    refine codeAny_builtin PyProof.Rows.F.entry_set_update_loop ?_
    rw [Around.under_plainId PyProof.Rows.F.plain_set_update_loop _]
    refine wpAny_bind (m := pyNext (.ref I)) (W.item i s _ _ hlt hst fun v s2 hP hst2 hm => ?_)
    obtain ⟨x, t, hx, rfl⟩ := hval i v hP
    have S2 := hS.at (h' := s2.heap) fun o e => hm.heap S o nSw e
    show wpAny _ A.in1 (holding [Value.str x t] (setAdd S (.str x t)) >>= _) _ _ s2
    refine wpAny_bind (wpAny_holding ?_)
    unfold setAdd
    refine wpAny_holding (wpAny_bind ((PySem.strKind P w).pyHash (k := x) (strKind_is P w x t) ?_))
    refine setS_add (s := { s2 with toks := s2.toks + 1 }) S2 (fun ks h1 h2 => room ks h1 fun y hy => List.mem_of_mem_take (h2 y hy)) fun h3 b hsb hS3 => ?_
    have hS4 : SetS w h3 S (xs.take (i + 1)) := by
      rw [List.take_add_one, hx]
      exact hS3
    have other : ∀ b, b ≠ S → ∀ o, s2.heap.get? b = some o → h3.get? b = some o := fun b hb o e => by rw [hsb.2 b hb]; exact e
    refine wpAny_pure ⟨plainId_quiet PyProof.Rows.F.plain_set_update_loop _, ih (i + 1) _ (by omega) hlt (W.frame _ s2 _ _ hst2 (Nat.le_succ _) fun b hb o e => other b (fun z => hSf (z ▸ hb)) o e) hS4 fun s4 hm4 hS4' => ?_⟩
    exact hR s4 (Moved.trans W.gtrans ((hm.mono wider).then_heap (Nat.le_succ _) fun b o hb e => other b (fun z => hb (by rw [z]; exact .head _)) o e) hm4) hS4'
theorem setS_nil {h : Heap} {a : Addr} {xs : List Str} (ho : h.get? a = some { cls := .type "set", dict := none, data := .set #[] 0 (.fresh 0 0 (!w.params.followText "set-order")) }) : SetS w h a (xs.take 0) :=
  ⟨_, #[], 0, _, ho, ⟨rfl, rfl, rfl⟩, rfl, ⟨(fun e he => by simp at he), (by simp), (fun k => by simp)⟩, (by decide), (by rfl), List.Pairwise.nil, by
    show _ ∨ (!w.params.followText "set-order") = true
    cases w.params.followText "set-order"
    · exact .inr rfl
    · exact .inl rfl⟩
/-- the empty set as the machine makes it -/
abbrev set0 (w : World) : Obj := { cls := .type "set", dict := none, data := .set #[] 0 (.fresh 0 0 (!w.params.followText "set-order")) }
set_option maxHeartbeats 6400000 in
theorem call_setS {l : Addr} {items : Array Value} (xs : List Str) {Q : Value → Shared → Prop} (hh : A.handled = none) (hl : s.heap.IsList l items) (hit : StrsAre items.toList xs) (room : ∀ ks : List Str, ks.Nodup → (∀ x ∈ ks, x ∈ xs) → ks.length + 1 < scanBound)
    (h : ∀ (h' : Heap) (tk : Nat), SetS w h' s.heap.objs.size xs → (∀ b o, s.heap.get? b = some o → h'.get? b = some o) → Q (.ref s.heap.objs.size) { s with heap := h', toks := tk }) : wpAny (model P w) A (call (.type "set") [.ref l]) Q E s := by
  have hsz : items.size = xs.length := by
    have q := StrsAre.len_eq hit
    rw [Array.length_toList] at q
    exact q
  obtain ⟨c, tl, hmro⟩ := PySem.F.called_set.mro
  have hmade := PySem.F.called_set.made
  have hsub := PySem.F.called_set.sub
  refine wpAny_call (codeAny_of_tree ?_)
  show wpAny _ _ (callAny (.type "set") _) _ _ _
  refine wpAny_pure ⟨Code.quiet_builtin _ (by decide +kernel), codeAny_builtin PySem.F.entry_type_call ?_⟩
  rw [Around.under_plain (weight_type_call_type "set" [.ref l] []) rfl]
  have k1 := PySem.F.called_set.notType
  have k2 := PySem.F.called_set.canCreate
  have k3 := PySem.F.typeCall_set_1 (.ref l)
  repeat (any_goals (first | assumption | wp_step))
  refine codeAny_mono (code_set_led1 (.ref l) (E := E) (Q₁ := fun v s1 => v = .ref s.heap.objs.size ∧ s1 = { s with heap := s.heap.push (set0 w) }) ⟨rfl, rfl⟩) fun r s1 hr => ?_
  cases r with
  | error e => exact hr
  | ok fl =>
    cases fl with
    | ret obj =>
      obtain ⟨rfl, rfl⟩ := hr
      have hS : (s.heap.push (set0 w)).get? s.heap.objs.size = some (set0 w) := Heap.get?_push_size _ rfl
      have hT : Shared.TypeIs { s with heap := s.heap.push (set0 w) } (.ref s.heap.objs.size) "set" := ⟨_, hS, rfl⟩
      have k4 := PySem.F.called_set.init.lookup
      have k5 := PySem.F.called_set.init.bind (.ref s.heap.objs.size)
      repeat (any_goals (first | assumption | wp_step))
      refine codeAny_mono (codeAny_call_builtin (R := wants (fun r s2 => r = .none ∧ ∃ h' tk, s2 = { s with heap := h', toks := tk } ∧ SetS w h' s.heap.objs.size xs ∧ (∀ b o, s.heap.get? b = some o → h'.get? b = some o)) E) PySem.F.called_set.init.plain PySem.F.entry_set_init (check_set_init_1 hT ?_)) fun r2 s2 hr2 => ?_
      · obtain ⟨ol, hol, hcl, nl, hdl⟩ := hl
        obtain ⟨oc, od, odt, osl⟩ := ol
        simp only at hcl hdl
        subst hcl
        subst hdl
        have hol2 : (s.heap.push (set0 w)).get? l = some { cls := .type "list", dict := od, data := .seq items nl, slots := osl } := Heap.get?_push_of_some _ hol
        have k6 := PySem.F.sub_list_set
        have k7 := PySem.F.sub_list_frozenset
        have k8 : (Value.type "list" == Value.type "dict") = false := by decide
        have hl1 : (s.heap.push (set0 w)).IsList l items := ⟨_, hol2, rfl, nl, rfl⟩
        unfold Builtin.«set.__init__» noKeywords Builtin.Frozenset.updateFrom
        generalize hPI : pyIter = PI
        wp_walk
        subst hPI
        refine wpAny_pyIter_list hl1 ?_
        refine wpAny_bind (wpAny_runValue ?_)
        have hlS : l < s.heap.objs.size := Heap.lt_size hol
        have hh3 : A.in1.in1.in1.handled = none := by simp [hh]
        have hz1 : (s.heap.push (set0 w)).objs.size = s.heap.objs.size + 1 := Heap.size_push ..
        have hneI : l ≠ (s.heap.push (set0 w)).objs.size := by rw [hz1]; exact Nat.ne_of_lt (Nat.lt_succ_of_lt hlS)
        have hSf : s.heap.objs.size ∉ [(s.heap.push (set0 w)).objs.size, l] := by
          rw [hz1]
          simp only [List.mem_cons, List.mem_singleton, List.not_mem_nil, or_false, not_or]
          exact ⟨Nat.ne_of_lt (Nat.lt_succ_self _), Nat.ne_of_gt hlS⟩
        have hval : ∀ (i : Nat) (v : Value), items[i]? = some v → ∃ x t, xs[i]? = some x ∧ v = .str x t := fun i v hv => by
          have hi : i < xs.length := by rw [← hsz]; exact (Array.getElem?_eq_some_iff.mp hv).1
          obtain ⟨t, e⟩ := SS.strs_at hit i v (by rw [Array.getElem?_toList]; exact hv)
          refine ⟨xs[i], t, List.getElem?_eq_getElem hi, ?_⟩
          rw [e, List.getD_eq_getElem?_getD, List.getElem?_eq_getElem hi]
          rfl
        refine setS_loop ((Walks.list hh3 _ l hneI items).toS) s.heap.objs.size hSf xs hsz room hval (items.size - 0) 0 _ (by omega) (Nat.zero_le _) ⟨⟨_, Heap.get?_push_size _ rfl, rfl, rfl⟩, (hl1.push _)⟩ (setS_nil (Heap.get?_push_of_some _ hS)) fun s3 hm hS3 => ?_
        obtain ⟨h3, g3, d3, tk3, os3⟩ := s3
        have e1 : g3 = s.gens := hm.gens
        have e2 : d3 = s.drawn := hm.drawn
        have e3 : os3 = s.os := hm.os
        subst e1
        subst e2
        subst e3
        show wpAny _ _ _ _ _ _
        refine wpAny_pure ?_
        show wpAny _ _ (ret Value.none) _ _ _
        refine wpAny_pure ⟨rfl, h3, tk3, rfl, hS3, fun b o e => ?_⟩
        have hb := Heap.lt_size e
        refine hm.heap b o ?_ (Heap.get?_push_of_some _ (Heap.get?_push_of_some _ e))
        simp only [List.mem_cons, List.mem_singleton, List.not_mem_nil, or_false, not_or]
        exact ⟨Nat.ne_of_lt hb, by rw [hz1]; exact Nat.ne_of_lt (Nat.lt_succ_of_lt hb)⟩
      · cases r2 with
        | error e => exact hr2
        | ok fl2 =>
          cases fl2 with
          | ret r =>
            obtain ⟨rfl, h3, tk, rfl, hS3, hk3⟩ := hr2
            repeat (any_goals (first | assumption | wp_step))
            exact h _ _ hS3 hk3
          | _ => exact hr2.elim
    | _ => exact hr.elim
/-- sorted(s) -/
theorem sortedS_set {a : Addr} {L : List Str} {Q : Value → Shared → Prop} (R : SetS w s.heap a L) (hh : A.handled = none) (few : ∀ ks : List Str, ks.Nodup → (∀ x ∈ ks, x ∈ L) → ks.length < 64)
    (hQ : ∀ s' (p : Addr) (out : Array Value) (c : Nat) (ys : List Str), (∀ b o, s.heap.get? b = some o → s'.heap.get? b = some o) → s'.gens = s.gens → s'.os = s.os → s.heap.objs.size ≤ p → s'.heap.get? p = some (seqObj "list" out c) → StrsAre out.toList ys → SrtOk ys L → Q (.ref p) s') :
    wpAny (model P w) A (call (.builtin "sorted") [.ref a]) Q E s := by
  obtain ⟨o, es, ep, t, ho, hex, hd, g, hb, hf, hr, hl⟩ := R.ex
  refine Calls.call_function_entry PyProof.Rows.kind_sorted PyProof.Rows.plain_sorted PyProof.Rows.entry_sorted (PyProof.Rows.args_sorted1 _) ?_
  unfold Builtin.«sorted»
  refine wpAny_bind (m := checkCount "sorted" 1 1 _) (wpAny_pure ?_)
  refine wpAny_bind (collect_set (A := A.in1) hh ⟨o, ho, hex.1, hd⟩ hf hb hr hl fun s1 vs k1 hz g1 o1 pm => ?_)
  have pk : (vs.map fun v => txtOf (0, v)).Perm (es.toList.map txtOf) := by
    have q := pm.map fun v => txtOf (0, v)
    rw [List.map_map] at q
    exact q
  have hvs : ∀ v ∈ vs, ∃ x tk, v = Value.str x tk := fun v hv => by
    obtain ⟨e, he, rfl⟩ := List.mem_map.mp (pm.mem_iff.mp hv)
    obtain ⟨x, tk, e1, _⟩ := g.1 e he
    exact ⟨x, tk, e1⟩
  have hS : StrsAre vs (vs.map fun v => txtOf (0, v)) := by
    clear pk pm
    induction vs with
    | nil => exact .nil
    | cons v r ih =>
      obtain ⟨x, tk, rfl⟩ := hvs v (.head _)
      exact .cons x tk (ih fun u hu => hvs u (.tail _ hu))
  have nd : (vs.map fun v => txtOf (0, v)).Nodup := pk.nodup_iff.mpr g.2.1
  have mem : ∀ x, x ∈ (vs.map fun v => txtOf (0, v)) ↔ x ∈ L := fun x => pk.mem_iff.trans (g.2.2 x).symm
  have h64 : vs.length < 64 := by
    have := few _ nd fun x hx => (mem x).mp hx
    rw [List.length_map] at this
    exact this
  refine wpAny_bind (wpAny_newList ?_ (by rw [sizeLine_eq]; omega))
  have hoL : (s1.heap.push (seqObj "list" vs.toArray 0)).get? s1.heap.objs.size = some (seqObj "list" vs.toArray 0) := Heap.get?_push_size _ rfl
  refine wpAny_bind (wpAny_holding (wpAny_call_entry PyProof.Rows.slot_list_sort ⟨_, hoL, rfl⟩ PyProof.Rows.entry_list_sort
    (list_sort_treeK strKind_oneLt hoL hS.keysOf (fun v₁ v₂ rest e => keyKind_strs (by rw [← e]; exact hS)) h64 fun st2 hp hs => ⟨_, rfl, ?_⟩) (PyProof.Rows.args_list_sort _)))
  obtain ⟨ys, q1, q2, q3⟩ := sorted_out_str hS hp hs
  obtain ⟨c, hc⟩ := PyProof.Rows.sortedHeap_at (vs := vs) (out := (arrOf st2).map (·.2)) hoL
  refine wpAny_pure ⟨_, rfl, hQ _ s1.heap.objs.size _ c ys (fun b u e => ?_) g1 o1 hz hc q1 ⟨q3, q2.nodup_iff.mpr nd, fun x => q2.mem_iff.trans (mem x)⟩⟩
  have q := k1 b u e
  have hlt := Heap.lt_size q
  show (PyProof.Rows.sortedHeap (s1.heap.push (seqObj "list" vs.toArray 0)) s1.heap.objs.size vs _).get? b = some u
  rw [PyProof.Rows.sortedHeap_old (Nat.ne_of_lt hlt) (by rw [size_push']; exact Nat.lt_succ_of_lt hlt)]
  exact Heap.get?_push_of_some _ q
end
end G
set_option maxHeartbeats 4000000
/-! sorted(set(xs)) -/
namespace G
open PySem PySem.Spec PyProof.Rows L2 Evl
theorem few_room {xs : List Str} (h : ∃ D : List Str, D.length < 64 ∧ ∀ x ∈ xs, x ∈ D) : ∀ ks : List Str, ks.Nodup → (∀ x ∈ ks, x ∈ xs) → ks.length < 64 := fun ks h1 h2 => by
  obtain ⟨D, a, b⟩ := h
  have := nodup_len h1 fun x hx => b x (h2 x hx)
  omega
theorem e_sortSet {X : Cx} {a : Expr} {ta : TE} {p p2 q pos : Pos} (T : Txt X.K X.mg) (ha : PE X a ta) (hc : X.calm = true := by rfl) (g1 : Gl X "sorted" := by rfl) (g2 : Gl X "set" := by rfl)
    (he : starEach [Expr.Call (.Name "set" p2) [a] [] q] X.env = [(false, eval (.Call (.Name "set" p2) [a] [] q) X.env)] := by rfl) (he2 : starEach [a] X.env = [(false, eval a X.env)] := by rfl) :
    PE X (.Call (.Name "sorted" p) [.Call (.Name "set" p2) [a] [] q] [] pos) (tSortSet X.K ta) := by
  refine ⟨fun pins s σ H Q I h => ?_⟩
  refine Call_ (ld_blt I g1 T.b_sorted (by decide +kernel : bootBuiltins "sorted" = some (.builtin "sorted")) ?_)
  refine PyProof.Rows.callWith_builtin1 (PyProof.Rows.args_cons ?_ he) he rfl
  refine Call_ (ld_blt I g2 T.b_set (by decide +kernel : bootBuiltins "set" = some (.type "set")) ?_)
  refine PyProof.Rows.callWith_type1 (PyProof.Rows.args_cons (thn (ha.run pins s σ H _ I h) fun v s1 ⟨x, H1, I1, r1, q1⟩ => PyProof.Rows.args_nil ?_) he2) he2 rfl
  obtain ⟨l, xs, rfl, hq, hD, hlen, q1⟩ := q1
  cases r1
  obtain ⟨its, r, pl, hz⟩ := I1.list hq
  have room := few_room hD
  refine call_setS xs (I1.ok.hd hc) pl.isList (by simpa using strsAre_of r) (fun ks h1 h2 => Nat.lt_trans (Nat.succ_lt_succ (room ks h1 h2)) (by decide)) fun h2 tk hS hk => ?_
  refine PyProof.Rows.args_nil ?_
  have I2 : Inv X pins σ H1 { s1 with heap := h2, toks := tk } := I1.kept hk
  have hS2 : SetS X.w ({ s1 with heap := h2, toks := tk } : Shared).heap s1.heap.objs.size xs := hS
  generalize s1.heap.objs.size = sa at hS2 ⊢
  generalize ({ s1 with heap := h2, toks := tk } : Shared) = s2 at I2 hS2 ⊢
  refine sortedS_set (s := s2) hS2 (I2.ok.hd hc) room fun s3 p out c ys k3 g3 o3 hp ho hst hy => ?_
  have hl64 : ys.length < 64 := room ys hy.2.1 fun x hx => (hy.2.2 x).mp hx
  have sz : (ys.map V.str).length ≤ sizeLine := by
    rw [List.length_map, sizeLine_eq]
    omega
  have hn : H1 p = none := I2.hok.fresh hp
  have J : Inv X pins σ (upd H1 p (.lst (ys.map V.str))) { s2 with heap := s3.heap, gens := s3.gens, drawn := s3.drawn, toks := s3.toks } :=
    I2.call (ch := []) (Un.laid k3 hp hn) (I2.hok.laid k3 hp ⟨sz, out.toList, c, vals_of_strs hst, ho⟩) (by rw [g3]; exact I2.bare) (fun _ z => nomatch z)
  have e : s3 = { s2 with heap := s3.heap, gens := s3.gens, drawn := s3.drawn, toks := s3.toks } := by
    cases s3
    cases s2
    cases o3
    rfl
  rw [e]
  exact ⟨.ref p, _, J, rfl, q1 ys p hy hn⟩
end G
set_option maxHeartbeats 4000000
/-! holes, paths -/
namespace G
open PySem PySem.Spec PyProof.Rows L2 Evl
def spTop (C : Addr) (Pre : PyData → Prop) (F : PyData → PyData) : Sp := fun vs H Q E => ∃ (B : Addr → Prop) (d : PyData), BOk B H ∧ Dens B H vs [d] ∧ (fault d = none → Pre d ∧ ∀ v H', Ex H H' → Den B H' v (F d) → Q v H') ∧ ∀ p r, fault d = some (p, r) → EBad C B H (pathD p) (.str r.str) E
theorem pe_calX {X : Cx} {k : Nat} {x : Str} {sp : Sp} {p pos : Pos} {e : Expr} {es : List Expr} {t : TA} {E : XK} (c : Cal X.prog X.w X.K X.mg X.base (L2.CX X.prog X.w) k x sp) (hr : Room k X.A) (hx : Passes (L2.CX X.prog X.w) X E) (ha : PA X (e :: es) t) (hg : Gl X x := by rfl) (hdb : (x == ("__debug__" : Str)) = false := by decide)
    (he : starEach (e :: es) X.env = (false, eval e X.env) :: starEach es X.env := by rfl) (hpl : (backTo pos (starEach es X.env)).any (·.1) = false := by rfl) : PE X (.Call (.Name x p) (e :: es) [] pos) (tCall sp [] E t) := by
  obtain ⟨f, fd, ps, F, hm, kp, b⟩ := c
  exact pe_call F hr hg hm kp b .nil hx ha hdb he hpl
/-- the evaluation raises -/
def EvX (te : TE) (σ : L2.St) (H : Hp) : Prop := ∀ H1, Ex H H1 → ∀ Q, te σ H1 Q
section
variable {K : PySem.W.Frag} {B : Addr → Prop} {σ : L2.St} {H H' : Hp} {te ta tb : TE} {tr : TA} {d : PyData} {C : Addr} {D : Ends} {tu tw : TS}
theorem x_cb {r : List V → Hp → VK → Prop} (h : EvX te σ H) : EvX (tCB r (tCons te tr)) σ H := fun H1 x Q => h H1 x _
theorem x_call {sp : Sp} {dvs : List V} {E : XK} (h : EvX te σ H) : EvX (tCall sp dvs E (tCons te tr)) σ H := fun H1 x Q => h H1 x _
theorem x_lc {g : TG} {tt : TT} {vs : List Nat} (h : EvX te σ H) : EvX (tLc (iList K te) g tt ta vs) σ H := fun H1 x Q => h H1 x _
theorem x_lc2 {g g1 : TG} {tt tt1 : TT} {wi1 : TI} {vs vs1 : List Nat} (h : EvX te σ H) : EvX (tLc2 (iList K te) g tt wi1 g1 tt1 ta vs vs1) σ H := fun H1 x Q => h H1 x _
theorem sx_ret (h : EvX te σ H) : tRet te D σ H := h H (Ex.refl H) _
theorem vd_need {E : XK} (hf : fault d = none) (hB : BOk B H) (h : EvD B te σ H d) : EvD B (tCall (spNeed C) [] E (tCons te tNil)) σ H d := fun H1 x Q q => h H1 x _ fun v H2 x2 dv =>
  ⟨B, d, hB.ex (x.trans x2), .cons dv .nil, fun _ v H3 x3 dz => q v H3 (x2.trans x3) dz, fun p r hr => by rw [hf] at hr; cases hr⟩
theorem x_need {E : XK} {p : List Nat} {r : Res} (hf : fault d = some (p, r)) (hB : BOk B H) (h : EvD B te σ H d) (he : EBad C B H (pathD p) (.str r.str) E) : EvX (tCall (spNeed C) [] E (tCons te tNil)) σ H := fun H1 x Q => h H1 x _ fun v H2 x2 dv =>
  ⟨B, d, hB.ex (x.trans x2), .cons dv .nil, (fun hn => by rw [hf] at hn; cases hn), (fun p' r' hr => by rw [hf] at hr; cases hr; exact he.go (x.trans x2))⟩
/-- a call of a def of this kind -/
theorem vd_top {Pre : PyData → Prop} {F : PyData → PyData} {E : XK} (hf : fault d = none) (hp : Pre d) (hB : BOk B H) (h : EvD B te σ H d) : EvD B (tCall (spTop C Pre F) [] E (tCons te tNil)) σ H (F d) := fun H1 x Q q => h H1 x _ fun v H2 x2 dv =>
  ⟨B, d, hB.ex (x.trans x2), .cons dv .nil, fun _ => ⟨hp, fun v H3 x3 dz => q v H3 (x2.trans x3) dz⟩, fun p r hr => by rw [hf] at hr; cases hr⟩
end
def allHoles (d : PyData) : List Str := (elsOf d).flatMap fun e => holesIn e.2
theorem addHoles_nodup (p : List Nat) : ∀ (hs w : List Str), (addHoles p hs w none).2 = none → w.Nodup → (w ++ hs).Nodup
  | [], w, _, hn => by rw [List.append_nil]; exact hn
  | h :: r, w, e, hn => by
    have e' : (addHoles p r (w ++ [h]) (if h ∈ w then some p else none)).2 = none := e
    by_cases hm : h ∈ w
    · rw [if_pos hm, addHoles_some] at e'
      cases e'
    · rw [if_neg hm] at e'
      have q := addHoles_nodup p r (w ++ [h]) e' (by
        rw [List.nodup_append]
        refine ⟨hn, by simp, ?_⟩
        intro a ha b hb
        simp at hb
        subst hb
        intro z
        exact hm (z ▸ ha))
      rw [List.append_assoc] at q
      exact q
theorem walk_nodup : ∀ (k : Nat) (st : List Ent) (w : List Str), walkF k st w none = none → w.Nodup → (w ++ (walkL k st).flatMap fun e => holesIn e.2).Nodup
  | 0, [], w, _, hn => by simpa [walkL] using hn
  | k + 1, [], w, _, hn => by simpa [walkL] using hn
  | 0, (p, d) :: st, w, h, _ => by unfold walkF at h; cases h
  | k + 1, (p, d) :: st, w, h, hn => by
    obtain ⟨j, ej, hp, hi, _⟩ := Good.step (k := k + 1) (p := p) (d := d) (st := st) ⟨w, h⟩
    rw [walkF_go hp hi] at h
    have e2 : (addHoles p (holesIn d) w none).2 = none := by
      cases hh : (addHoles p (holesIn d) w none).2 with
      | none => rfl
      | some q => rw [hh] at h; exact absurd h (walkF_some q _ _ _)
    rw [e2, addHoles_fst] at h
    have q := walk_nodup k _ _ h (addHoles_nodup p _ w e2 hn)
    rw [walkL_cons, List.flatMap_cons, ← List.append_assoc]
    exact q
theorem allHoles_nodup {d : PyData} (h : fault d = none) : (allHoles d).Nodup := walk_nodup 60 [([], d)] [] h List.nodup_nil
/-- every element met in the walk is without a fault -/
theorem walk_items : ∀ (k : Nat) (st : List Ent), Good k st → ∀ e ∈ walkL k st, itemOf e.2 = none ∧ e.1.length < 8
  | 0, st, _, e, h => by cases st <;> cases h
  | k + 1, [], _, e, h => by cases h
  | k + 1, (p, d) :: st, g, e, h => by
    obtain ⟨j, ej, hp, hi, g'⟩ := g.step
    have : j = k := by omega
    subst this
    rw [walkL_cons] at h
    rcases List.mem_cons.mp h with q | q
    · rw [q]; exact ⟨hi, hp⟩
    · exact walk_items j _ g' e q
theorem walkL_len : ∀ (k : Nat) (st : List Ent), (walkL k st).length ≤ k
  | 0, st => by cases st <;> exact Nat.le_refl _
  | k + 1, [] => Nat.zero_le _
  | k + 1, (p, d) :: st => by
    rw [walkL_cons]
    have := walkL_len k (below p d ++ st)
    show _ + 1 ≤ k + 1
    omega
theorem els_items {d : PyData} (h : fault d = none) {e : Ent} (he : e ∈ elsOf d) : itemOf e.2 = none := (walk_items 60 _ (good_of h) e he).1
/-- few different texts -/
def Few (xs : List Str) : Prop := ∃ D : List Str, D.length < 64 ∧ ∀ x ∈ xs, x ∈ D
section
variable {P : Program} {w : World} {K : PySem.W.Frag} {mg : Str → Option Value} {base : Heap} {C gb fI : Addr} {fd : FuncData}
theorem ents_pair {es : List Ent} {x : PyData} (h : x ∈ es.map entD) : ∃ a b, x = .tuple [a, b] := by
  obtain ⟨e, _, rfl⟩ := List.mem_map.mp h
  exact ⟨_, _, rfl⟩
theorem c_holes (T : Txt K mg) (TB : BadX K mg C gb fI fd) : Cal P w K mg base (L2.CX P w) 7 "holes" (spTop C (fun d => Few (allHoles d) ∧ (allHoles d).length < 100000) fun d => .tuple ((srt (allHoles d)).map .str)) := by
  obtain ⟨f, fd2, Fn, hm, bnd⟩ := T.fholes.ex
  refine ⟨f, fd2, pholes, Fn.okX (k := 6) scholes (fun vs H Q E h => by obtain ⟨B, d, _, dv, _⟩ := h; rw [dv.length]; rfl) ?_, hm, Fn.kp, bnd⟩
  rintro cdv A outer s H vs Q E hr ⟨B, d, hB, dv, qn, qe⟩
  refine ⟨_, pss_one (ps_ret (pe_callTy call_tuple_of (by rfl) T.b_tuple (by decide +kernel) (pa_cons (pe_callB cr_sortedS (by rfl) T.b_sorted (by decide +kernel) (pa_cons
    (pe_lc2 (own := [("path", 1), ("own", 2), ("hole", 3)]) (vs1 := [3]) (g := gTup K 2 (gCons (gName 1) (gCons (gName 2) gNil))) (g1 := gName 3) (tt := tYes) (tt1 := tYes) (te := tVar 3) (wi1 := iList K (tCall (spEl fun d => .list ((holesIn d).map PyData.str)) [] E0 (tCons (tVar 2) tNil)))
      (by rfl) scholes.nd (pi_list (pe_cal (c_walked T) (hr.mono (by decide)) (pa_cons (pe_calX (c_need_part T TB) hr (passes_call (takes_of rfl rfl rfl rfl) (fun _ _ _ _ h => h)) (pa_cons (pv 0) pa_nil)) pa_nil)))
      (blkOk_by (own := [("path", 1), ("own", 2), ("hole", 3)]) (N := nholes) (sc := defScope sholes) (by decide +kernel)) (by decide)
      (fun _ _ _ _ _ => pg_tup (by rfl) (pgs_cons (pg_name (i := 1) scholes.nd rfl (Or.inl rfl)) (pgs_cons (pg_name (i := 2) scholes.nd rfl (Or.inl rfl)) pgs_nil))) (fun _ _ _ _ _ => pts_nil)
      (fun _ _ _ _ _ => pi_list (pe_cal (c_holes_in T) (hr.mono (by decide)) (pa_cons (pv 2) pa_nil)))
      (fun _ _ _ _ _ => pg_name (i := 3) scholes.nd rfl (Or.inl rfl)) (fun _ _ _ _ _ => pts_nil) (fun _ _ _ _ _ => pv 3)) pa_nil)) pa_nil))), ?_⟩
  obtain ⟨v0, rfl, d0⟩ := dv.one'
  cases hf : fault d with
  | some pr =>
    obtain ⟨p, r⟩ := pr
    exact sx_ret (x_cb (x_cb (x_lc2 (x_call (x_need hf hB (vd_var rfl d0) (qe p r hf))))))
  | none =>
    obtain ⟨⟨hfew, hlen⟩, q⟩ := qn hf
    have hin : ((elsOf d).map entD).flatMap (fun x => (holesIn (kid x 1)).map PyData.str) = (allHoles d).map PyData.str := by
      unfold allHoles
      rw [List.flatMap_map, List.map_flatMap]
      rfl
    refine sd_rt (B := B) q (Ex.refl H) (vd_tupOf hB (vd_sortedS hB (xs := allHoles d) (vd_is (vd_lc2 hB (src_lst (vd_call d hB (va_cons (vd_need hf hB (vd_var rfl d0)) va_nil) hf)) (fun x => (holesIn (kid x 1)).map PyData.str) id ?_ ?_) ?_) (allHoles_nodup hf) hfew)) rfl
    · rw [hin, List.length_map]
      omega
    · intro B' H1 up x hx y dy Q q
      obtain ⟨e, he, rfl⟩ := List.mem_map.mp hx
      refine g_pair (d := pathD e.1) (e := e.2) dy fun a b da db => q _ H1 (Ex.refl H1) rfl (src_lst (vd_call e.2 up.ok (va_cons (vd_var rfl db) va_nil) (els_items hf he))) ?_
      intro B2 H3 up3 z hz u du Q' q'
      exact q' _ H3 (Ex.refl H3) rfl (vd_var rfl du)
    · rw [hin, List.map_id]
theorem c_paths (T : Txt K mg) (TB : BadX K mg C gb fI fd) : Cal P w K mg base (L2.CX P w) 7 "paths" (spTop C (fun _ => True) fun d => .list ((elsOf d).map fun e => pathD e.1)) := by
  obtain ⟨f, fd2, Fn, hm, bnd⟩ := T.fpaths.ex
  refine ⟨f, fd2, ppaths, Fn.okX (k := 6) scpaths (fun vs H Q E h => by obtain ⟨B, d, _, dv, _⟩ := h; rw [dv.length]; rfl) ?_, hm, Fn.kp, bnd⟩
  rintro cdv A outer s H vs Q E hr ⟨B, d, hB, dv, qn, qe⟩
  refine ⟨_, pss_one (ps_ret (pe_lc (own := [("path", 1), ("own", 2)]) (g := gTup K 2 (gCons (gName 1) (gCons (gName 2) gNil))) (tt := tYes) (te := tVar 1)
      (by rfl) scpaths.nd (pi_list (pe_cal (c_walked T) (hr.mono (by decide)) (pa_cons (pe_calX (c_need_part T TB) hr (passes_call (takes_of rfl rfl rfl rfl) (fun _ _ _ _ h => h)) (pa_cons (pv 0) pa_nil)) pa_nil)))
      (blkOk_by (own := [("path", 1), ("own", 2)]) (N := npaths) (sc := defScope spaths) (by decide +kernel))
      (fun _ _ _ _ _ => pg_tup (by rfl) (pgs_cons (pg_name (i := 1) scpaths.nd rfl (Or.inl rfl)) (pgs_cons (pg_name (i := 2) scpaths.nd rfl (Or.inl rfl)) pgs_nil))) (fun _ _ _ _ _ => pts_nil)
      (fun _ _ _ _ _ => pv 1))), ?_⟩
  obtain ⟨v0, rfl, d0⟩ := dv.one'
  cases hf : fault d with
  | some pr =>
    obtain ⟨p, r⟩ := pr
    exact sx_ret (x_lc (x_call (x_need hf hB (vd_var rfl d0) (qe p r hf))))
  | none =>
    obtain ⟨_, q⟩ := qn hf
    refine sd_rt (B := B) q (Ex.refl H) (vd_lcP hB (src_lst (vd_call d hB (va_cons (vd_need hf hB (vd_var rfl d0)) va_nil) hf)) (fun _ => true) (fun x => kid x 0) ?_ (fun x hx => ents_pair hx) (fun _ _ => rfl) (fun _ H1 _ _ _ _ _ _ _ _ H2 e Q q => q H2 (Ex.refl H2)) ?_) ?_
    · rw [List.length_map]
      exact Nat.le_trans (walkL_len 60 _) (by decide)
    · intro B' H1 up a b hm _ x y dx dy
      exact vd_var rfl dx
    · show PyData.list _ = .list _
      rw [List.filter_eq_self.mpr (fun _ _ => rfl), List.map_map]
      rfl
end
end G
set_option maxHeartbeats 4000000
/-! prefixes_in, prefixes -/
namespace G
open PySem PySem.Spec PyProof.Rows L2 Evl
def pre1 (d : PyData) : List Str := strOf (kid (kid d 1) 0) :: (kids (kid d 2)).map keyS
def pre2 (d : PyData) : List Str := (kids (kid d 3)).map (fun p => strOf (kid (kid p 0) 0)) ++ (quotedIn d).map fun n => strOf (kid n 0)
def preOf (d : PyData) : List Str := pre1 d ++ pre2 d
def allPre (d : PyData) : List Str := (elsOf d).flatMap fun e => preOf e.2
theorem name_str {n : PyData} (h : isName n = true) : isTup n = true ∧ 0 < (kids n).length ∧ kid n 0 = .str (strOf (kid n 0)) := by
  have e := isName_tup h
  have ht : isTup n = true := by rw [e]; rfl
  have hl : (kids n).length = 2 := by rw [e]; rfl
  refine ⟨ht, by omega, ?_⟩
  unfold isName at h
  rw [Bool.and_eq_true, Bool.and_eq_true] at h
  exact str_of_isOf (Bool.and_eq_true_iff.mp h.2.1).1
theorem quoted_name {d n : PyData} (el : Elt d) (h : n ∈ quotedIn d) : isName n = true := by
  unfold quotedIn at h
  obtain ⟨p, hp, rfl⟩ := List.mem_map.mp h
  rw [List.mem_filter] at hp
  have q := (attr_mem el hp.1).2.2
  rw [Bool.or_eq_true] at q
  rcases q with q | q
  · have hs := isOf_str q
    cases hk : kid p 1 with
    | tuple xs => rw [hk] at hs; cases hs
    | _ => rw [hk] at hp; cases hp.2
  · exact q
section
variable {P : Program} {w : World} {K : PySem.W.Frag} {mg : Str → Option Value} {base : Heap} {C gb fI : Addr} {fd : FuncData}
theorem c_prefixes_in (T : Txt K mg) : Cal P w K mg base CX0 4 "prefixes_in" (spD (fun d => [d]) (fun d => fault d = none ∧ Few (allPre d) ∧ (allPre d).length < 100000) fun d => .list ((srt (allPre d)).map .str)) := by
  refine calD (k := 3) T.fprefixes_in scprefixes_in (fun _ => rfl) ?_
  rintro f cdv A outer s H vs E B d hr hB dv ⟨hf, hfew, hlen⟩ D q
  refine ⟨_, pss_cons (ps_set (i := 1) scprefixes_in.nd rfl (Or.inl rfl) (pe_lst pa_nil))
    (pss_cons (ps_for PassesOwn.never rfl (pi_list (pe_cal (c_walked T) hr (pa_cons (pv 0) pa_nil))) (pg_tup (by rfl) (pgs_cons (pg_name (i := 2) scprefixes_in.nd rfl (Or.inl rfl)) (pgs_cons (pg_name (i := 3) scprefixes_in.nd rfl (Or.inl rfl)) pgs_nil)))
      (pss_cons (ps_expr (e_ext (pv 1) (pe_op op_cat (pe_lst (pa_cons (pe_ix ix_tup (pe_ix ix_tup (pv 3) pe_int (fun _ _ => rfl)) pe_int (fun _ _ => rfl)) pa_nil))
        (pe_lc (own := [("prefix", 4), ("address", 5)]) (g := gTup K 2 (gCons (gName 4) (gCons (gName 5) gNil))) (tt := tYes) (te := tVar 4) (by rfl) scprefixes_in.nd (pi_tup (pe_ix ix_tup (pv 3) pe_int (fun _ _ => rfl)))
          (blkOk_by (own := [("prefix", 4), ("address", 5)]) (N := nprefixes_in) (sc := defScope sprefixes_in) (by decide +kernel))
          (fun _ _ _ _ _ => pg_tup (by rfl) (pgs_cons (pg_name (i := 4) scprefixes_in.nd rfl (Or.inl rfl)) (pgs_cons (pg_name (i := 5) scprefixes_in.nd rfl (Or.inl rfl)) pgs_nil))) (fun _ _ _ _ _ => pts_nil) (fun _ _ _ _ _ => pv 4)))))
      (pss_one (ps_expr (e_ext (pv 1) (pe_op op_cat
        (pe_lc (own := [("name", 6), ("value", 7)]) (g := gTup K 2 (gCons (gName 6) (gCons (gName 7) gNil))) (tt := tYes) (te := tOp (rIxT K) (tVar 6) (tC (.int 0))) (by rfl) scprefixes_in.nd (pi_tup (pe_ix ix_tup (pv 3) pe_int (fun _ _ => rfl)))
          (blkOk_by (own := [("name", 6), ("value", 7)]) (N := nprefixes_in) (sc := defScope sprefixes_in) (by decide +kernel))
          (fun _ _ _ _ _ => pg_tup (by rfl) (pgs_cons (pg_name (i := 6) scprefixes_in.nd rfl (Or.inl rfl)) (pgs_cons (pg_name (i := 7) scprefixes_in.nd rfl (Or.inl rfl)) pgs_nil))) (fun _ _ _ _ _ => pts_nil) (fun _ _ _ _ _ => pe_ix ix_tup (pv 6) pe_int (fun _ _ => rfl)))
        (pe_lc (own := [("name", 6)]) (g := gName 6) (tt := tYes) (te := tOp (rIxT K) (tVar 6) (tC (.int 0))) (by rfl) scprefixes_in.nd (pi_list (pe_cal (c_quoted_in T) (hr.mono (by decide)) (pa_cons (pv 3) pa_nil)))
          (blkOk_by (own := [("name", 6)]) (N := nprefixes_in) (sc := defScope sprefixes_in) (by decide +kernel))
          (fun _ _ _ _ _ => pg_name (i := 6) scprefixes_in.nd rfl (Or.inl rfl)) (fun _ _ _ _ _ => pts_nil) (fun _ _ _ _ _ => pe_ix ix_tup (pv 6) pe_int (fun _ _ => rfl)))))))))
    (pss_one (ps_ret (e_sortSet T (pv 1))))), ?_⟩
  obtain ⟨v0, rfl, d0⟩ := dv.one'
  refine z_asgN hB (ds := []) (vn_lst hB va_nil (by decide)) fun p xs0 H1 hp x1 hl up dx0 => ?_
  cases dx0
  show tSeq _ _ _ [some v0, some (.ref p), none, none, none, none, none, none] H1
  refine z_for (src_lst (vd_call d up.ok (va_cons (vd_var rfl (d0.up up)) va_nil) hf)) fun H2 x2 => ?_
  have up2 := up.ex x2
  refine ⟨fun i σ' H' => ∃ a b xs, σ' = [some v0, some (.ref p), a, b, none, none, none, none] ∧ Kp (Add B p) H2 H' ∧ Ex H H' ∧ H' p = some (.lst (xs.map V.str)) ∧ xs = ((elsOf d).take i).flatMap (fun e => preOf e.2) ∧ (∀ x ∈ xs, x.length ≤ 1000), ?_, ?_, ?_, ?_⟩
  · exact ⟨none, none, [], rfl, Kp.refl _, x1.trans x2, x2 p _ hl, rfl, fun x hx => by cases hx⟩
  · rintro i σ' H' ⟨a, b, xs, rfl, kp, _⟩
    exact ⟨_, (Up.refl up2.ok).kp kp⟩
  · rintro i e σ' H' H3 x hi ⟨a, b, xs, rfl, kp, ex, hpk, hxs, hsz⟩ x3 hx D1 hrt hnx hct hbk
    have up3 := (Up.refl up2.ok).kp kp
    have de := hx _ up3
    have ok3 := up3.ok.ex x3
    rw [List.getElem?_map] at hi
    obtain ⟨en, hen, rfl⟩ := Option.map_eq_some_iff.mp hi
    refine g_pair (d := pathD en.1) (e := en.2) de fun u o du dw => ?_
    show tSeq _ _ _ [some v0, some (.ref p), some u, some o, none, none, none, none] H3
    have el := elt_of (els_items hf (List.mem_of_getElem? hen))
    have l2 := dw.kidLen (i := 2) el.tup (kid_lt el.len (by omega)) el.decls.1
    have l3 := dw.kidLen (i := 3) el.tup (kid_lt el.len (by omega)) el.attrs.1
    have nm := name_str el.nm
    have htake := take_succ_of hen
    have hpre : (((elsOf d).take (i + 1)).flatMap fun e => preOf e.2) = xs ++ preOf en.2 := by
      rw [htake, List.flatMap_append, hxs]
      simp
    have htot : (xs ++ preOf en.2).length < 100000 := by
      rw [← hpre]
      have e := List.take_append_drop (i + 1) (elsOf d)
      have e2 : allPre d = ((elsOf d).take (i + 1)).flatMap (fun e => preOf e.2) ++ ((elsOf d).drop (i + 1)).flatMap (fun e => preOf e.2) := by
        unfold allPre
        rw [← List.flatMap_append, e]
      rw [e2, List.length_append] at hlen
      omega
    unfold preOf at htot
    rw [List.length_append, List.length_append] at htot
    have hp3 := x3 p _ hpk
    have q1 : (pre2 en.2).length = (kids (kid en.2 3)).length + (quotedIn en.2).length := by
      unfold pre2
      rw [List.length_append, List.length_map, List.length_map]
    have q0 : (pre1 en.2).length = (kids (kid en.2 2)).length + 1 := by
      unfold pre1
      rw [List.length_cons, List.length_map]
    have e2 := isTup_kids el.decls.1
    have e3 := isTup_kids el.attrs.1
    refine z_ext (ds := (pre1 en.2).map PyData.str) hp3 (ev_var rfl) (vd_is (vd_catL (ds := [kid (kid en.2 1) 0]) (es := (kids (kid en.2 2)).map fun p => .str (keyS p)) (vd_lst ok3 (va_cons (vd_kid (i := 0) (vd_kid (i := 1) (vd_var rfl dw) el.tup (kid_lt el.len (by omega))) nm.1 nm.2.1) va_nil) (by show 1 ≤ 100000; decide)) (vd_is (vd_lcP ok3 (src_tup (vd_is (vd_kid (i := 2) (vd_var rfl dw) el.tup (kid_lt el.len (by omega))) e2)) (fun _ => true) (fun p => .str (keyS p)) l2 (fun p hp => ⟨_, _, pair_of (decl_mem el hp).1⟩) (fun _ _ => rfl) (fun _ H1 _ _ _ _ _ _ _ _ H2 e Q q => q H2 (Ex.refl H2)) ?_) ?_) ok3 ?_) ?_) ?_ fun vs4 H4 x4 dvs4 => ?_
    · intro B' H4 up4 a b hm _ x y dx4 dy4
      have := (decl_mem el hm).2.1
      exact vd_is (vd_var rfl dx4) (str_of_isOf (d := a) (Bool.and_eq_true_iff.mp this).1)
    · rw [List.filter_eq_self.mpr (fun _ _ => rfl)]
    · rw [List.length_map]
      show 1 + _ ≤ 100000
      omega
    · unfold pre1
      rw [List.map_cons, List.map_map, ← nm.2.2]
      rfl
    · rw [List.length_map, List.length_map]
      omega
    have hv4 := dens_str' dvs4
    have s4 : ∀ x ∈ pre1 en.2, x.length ≤ 1000 := fun x hx => by
      obtain ⟨j, hj⟩ := List.getElem?_of_mem hx
      obtain ⟨v, _, dd⟩ := dvs4.get (i := j) (d := .str x) (by rw [List.getElem?_map, hj]; rfl)
      exact dd.len
    rw [hv4, ← List.map_append]
    have kw4 : Kp (Add B p) H3 (upd H4 p (.lst ((xs ++ pre1 en.2).map V.str))) := (Kp.of x4).wr (.inr rfl)
    have dw4 := dw.kp kw4
    have ok4 : BOk (Add B p) (upd H4 p (.lst ((xs ++ pre1 en.2).map V.str))) := ((Up.refl ok3).kp kw4).ok
    refine z_ext (tw := tNext) (ds := (pre2 en.2).map PyData.str) upd_same (ev_var rfl) (vd_is (vd_catL (ds := (kids (kid en.2 3)).map fun p => .str (strOf (kid (kid p 0) 0))) (es := (quotedIn en.2).map fun n => .str (strOf (kid n 0)))
      (vd_is (vd_lcP ok4 (src_tup (vd_is (vd_kid (i := 3) (vd_var rfl dw4) el.tup (kid_lt el.len (by omega))) e3)) (fun _ => true) (fun p => .str (strOf (kid (kid p 0) 0))) l3 (fun p hp => ⟨_, _, pair_of (attr_mem el hp).1⟩) (fun _ _ => rfl) (fun _ H1 _ _ _ _ _ _ _ _ H2 e Q q => q H2 (Ex.refl H2)) ?_) ?_)
      (vd_lcA ok4 (src_lst (vd_call en.2 ok4 (va_cons (vd_var rfl dw4) va_nil) (els_items hf (List.mem_of_getElem? hen)))) (fun n => .str (strOf (kid n 0))) ?_ (fun _ => rfl) ?_) ok4 ?_) ?_) ?_ fun vs5 H5 x5 dvs5 => ?_
    · intro B' H6 up6 a b hm _ x y dx6 dy6
      have hn := name_str (attr_mem el hm).2.1
      exact vd_is (vd_kid (i := 0) (vd_var rfl dx6) hn.1 hn.2.1) hn.2.2
    · rw [List.filter_eq_self.mpr (fun _ _ => rfl)]
    · omega
    · intro B' H6 up6 n hm x dx6
      have hn := name_str (quoted_name el hm)
      exact vd_is (vd_kid (i := 0) (vd_var rfl dx6) hn.1 hn.2.1) hn.2.2
    · rw [List.length_map, List.length_map]
      omega
    · unfold pre2
      rw [List.map_append, List.map_map, List.map_map]
      rfl
    · rw [List.length_map, List.length_map, List.length_append]
      omega
    have hv5 := dens_str' dvs5
    have s5 : ∀ x ∈ pre2 en.2, x.length ≤ 1000 := fun x hx => by
      obtain ⟨j, hj⟩ := List.getElem?_of_mem hx
      obtain ⟨v, _, dd⟩ := dvs5.get (i := j) (d := .str x) (by rw [List.getElem?_map, hj]; rfl)
      exact dd.len
    show D1.nx _ _
    rw [hnx, hv5, ← List.map_append]
    refine ⟨some u, some o, xs ++ pre1 en.2 ++ pre2 en.2, rfl, (kp.trans (.of x3)).trans (kw4.trans ((Kp.of x5).wr (.inr rfl))), (((ex.trans x3).trans x4).mut hp).trans x5 |>.mut hp, upd_same, ?_, ?_⟩
    · rw [hpre]
      unfold preOf
      rw [List.append_assoc]
    · intro x hx
      rcases List.mem_append.mp hx with h | h
      · rcases List.mem_append.mp h with h | h
        · exact hsz x h
        · exact s4 x h
      · exact s5 x h
  · rintro σ' H' ⟨a, b, xs, rfl, kp, ex, hpk, hxs, hsz⟩
    rw [List.length_map, List.take_length] at hxs
    subst hxs
    exact sd_rt (B := B) q ex (vd_sortSet (hB.ex ex) (ev_var rfl) hpk hsz hlen hfew) rfl
theorem c_prefixes (T : Txt K mg) (TB : BadX K mg C gb fI fd) : Cal P w K mg base (L2.CX P w) 7 "prefixes" (spTop C (fun d => Few (allPre d) ∧ (allPre d).length < 100000) fun d => .tuple ((srt (allPre d)).map .str)) := by
  obtain ⟨f, fd2, Fn, hm, bnd⟩ := T.fprefixes.ex
  refine ⟨f, fd2, pprefixes, Fn.okX (k := 6) scprefixes (fun vs H Q E h => by obtain ⟨B, d, _, dv, _⟩ := h; rw [dv.length]; rfl) ?_, hm, Fn.kp, bnd⟩
  rintro cdv A outer s H vs Q E hr ⟨B, d, hB, dv, qn, qe⟩
  refine ⟨_, pss_one (ps_ret (pe_callTy call_tuple_of (by rfl) T.b_tuple (by decide +kernel) (pa_cons (pe_cal (c_prefixes_in T) (hr.mono (by decide)) (pa_cons (pe_calX (c_need_part T TB) hr (passes_call (takes_of rfl rfl rfl rfl) (fun _ _ _ _ h => h)) (pa_cons (pv 0) pa_nil)) pa_nil)) pa_nil))), ?_⟩
  obtain ⟨v0, rfl, d0⟩ := dv.one'
  cases hf : fault d with
  | some pr =>
    obtain ⟨p, r⟩ := pr
    exact sx_ret (x_cb (x_call (x_need hf hB (vd_var rfl d0) (qe p r hf))))
  | none =>
    obtain ⟨hp, q⟩ := qn hf
    exact sd_rt (B := B) q (Ex.refl H) (vd_tupOf hB (vd_call d hB (va_cons (vd_need hf hB (vd_var rfl d0)) va_nil) ⟨hf, hp⟩)) rfl
end
end G
set_option maxHeartbeats 400000
/-! the law's questions of one thing -/
namespace G
open PySem PySem.Spec PyProof.Rows L2 Evl
section
variable {P : Program} {w : World} {K : PySem.W.Frag} {mg : Str → Option Value} {base : Heap}
theorem l_is_of (T : Txt K mg) : Cal P w K mg base CX0 1 "_law_is_of" isOfSp := by
  refine calD (k := 0) T.f_law_is_of sc_law_is_of (fun _ => rfl) ?_
  rintro f cdv A outer s H vs E B ⟨d, z, lo, hi⟩ hr hB dv _ D q
  refine ⟨_, pss_cons (ps_if (pw_or (pt_not (pt_val (e_isStr T (pv 0)))) (pw_or1 (pt_not (pt_chain op_le op_le (pv 2) (e_len T (pv 0)) (pv 3))))).pt (pss_one (ps_ret pe_bl)) pss_nil)
    (pss_one (ps_ret (pe_cmpR (op_eqE (hu0 hr)) (pe_lc (own := [("sign", 4)]) (g := gName 4) (by rfl) sc_law_is_of.nd (pi_str (pv 0)) (blkOk_by (own := [("sign", 4)]) (N := n_law_is_of) (sc := defScope s_law_is_of) (by decide +kernel))
      (fun _ _ _ _ _ => pg_name (i := 4) sc_law_is_of.nd rfl (Or.inl rfl)) (fun _ _ _ _ _ => pts_one (pt_cmpR op_notIn_sign (pv 4) (pv 1) (by rfl))) (te := tVar 4) (fun _ _ _ _ _ => pv 4)) (pe_lst pa_nil) (nomark _)))), ?_⟩
  obtain ⟨v0, r, rfl, d0, dv⟩ := dv.cons'
  obtain ⟨v1, r, rfl, d1, dv⟩ := dv.cons'
  obtain ⟨v2, r, rfl, d2, dv⟩ := dv.cons'
  obtain ⟨v3, r, rfl, d3, dv⟩ := dv.cons'
  cases dv
  refine z_when (b := !isStr d || !(decide (lo ≤ dlen d) && decide (dlen d ≤ hi))) (et_or (et_not (vt_B (vd_isStr (vd_var rfl d0)))) fun hs => et_not (vt_test (vd_chain (vd_var rfl d2) (vd_len (vd_var rfl d0) ?_ rfl) (fun _ => vd_var rfl d3) rd_leN rd_leN))) ?_ ?_
  · cases d <;> first | rfl | cases hs
  · intro hb H1 x1 D' hD
    refine sd_rt (B := B) (by rw [hD]; exact q) x1 vd_bl ?_
    show PyData.bool false = .bool (isOf d z lo hi)
    cases d with
    | str s =>
      have hb' : (!(decide (lo ≤ s.length) && decide (s.length ≤ hi))) = true := hb
      have e : isOf (.str s) z lo hi = (decide (lo ≤ s.length) && (decide (s.length ≤ hi) && allIn s z)) := rfl
      rw [e, ← Bool.and_assoc]
      revert hb'
      cases (decide (lo ≤ s.length) && decide (s.length ≤ hi)) <;> simp
    | _ => rfl
  · intro hb H1 x1
    cases d with
    | str s =>
      have hb' : (!(decide (lo ≤ s.length) && decide (s.length ≤ hi))) = false := hb
      have hsz := d0.len
      refine sd_rt (B := B) q x1 (vd_cmpE (neg := false) (vd_lcN (hB.ex x1) (src_str (vd_var rfl (d0.ex x1))) (fun c => !allIn (strOf c) z) id (by rw [signs_length]; omega) (fun _ => rfl) ?_ ?_)) ?_
      · intro B' H2 up d hd x dx
        obtain ⟨c, rfl⟩ := mem_signs hd
        have e : allIn (strOf (.str ⟨#[c]⟩)) z = decide (c ∈ z.cps.toList) := allIn_one
        rw [e]
        exact vt_test (vd_op (vd_var rfl dx) (vd_var rfl ((d1.ex x1).up up)) rd_notInSign)
      · intro B' H2 up d hd _ x dx
        exact vd_var rfl dx
      · show PyData.bool (((signs s).filter fun c => !allIn (strOf c) z).map id).isEmpty = .bool (decide (lo ≤ s.length) && (decide (s.length ≤ hi) && allIn s z))
        rw [← Bool.and_assoc]
        have e2 : (decide (lo ≤ s.length) && decide (s.length ≤ hi)) = true := by simpa using hb'
        rw [e2, List.map_id]
        congr 1
        have key : ∀ l : List Nat, ((l.map fun c => PyData.str ⟨#[c]⟩).filter fun c => !allIn (strOf c) z).isEmpty = l.all fun c => decide (c ∈ z.cps.toList) := by
          intro l
          induction l with
          | nil => rfl
          | cons c r ih =>
            rw [List.map_cons, List.filter_cons, List.all_cons]
            have e : allIn (strOf (.str ⟨#[c]⟩)) z = decide (c ∈ z.cps.toList) := allIn_one
            rw [e]
            cases h : decide (c ∈ z.cps.toList) with
            | true => exact ih
            | false => rfl
        exact key _
    | _ => cases hb
theorem l_is_word (T : Txt K mg) : Cal P w K mg base CX0 2 "_law_is_word" (spD (fun (a : PyData × Nat) => [a.1, .int (a.2 : Nat)]) (fun _ => True) fun a => .bool (isOf a.1 LET a.2 8 && !decide (strOf a.1 = BAR))) := by
  refine calD (k := 1) T.f_law_is_word sc_law_is_word (fun _ => rfl) ?_
  rintro f cdv A outer s H vs E B ⟨d, lo⟩ hr hB dv _ D q
  refine ⟨_, pss_one (ps_ret (pe_and (pe_cal (l_is_of T) hr (pa_cons (pv 0) (pa_cons pe_str (pa_cons (pv 1) (pa_cons pe_int pa_nil))))) (pe_one (pe_cmpR op_ne (pv 0) pe_str (nomark _))))), ?_⟩
  obtain ⟨v0, v1, rfl, d0, d1⟩ := dv.two'
  exact sd_rt q (Ex.refl H) (vd_andV (vd_call (d, LET, lo, 8) hB (va_cons (vd_var rfl d0) (va_cons vd_str (va_cons (vd_var rfl d1) (va_cons (vd_nat (n := 8)) va_nil)))) trivial) fun h => vd_neS (vd_is (vd_var rfl d0) (str_of_isOf h)) vd_str) rfl
theorem l_is_name (T : Txt K mg) : Cal P w K mg base CX0 3 "_law_is_name" (spB isName) := by
  refine calD (k := 2) T.f_law_is_name sc_law_is_name (fun _ => rfl) ?_
  intro f cdv A outer s H vs E B d hr hB dv _ D q
  refine ⟨_, pss_cons (ps_if (pw_or (pt_not (pt_val (e_isTup T (pv 0)))) (pw_or1 (pt_cmpR op_ne (e_len T (pv 0)) pe_int (nomark _)))).pt (pss_one (ps_ret pe_bl)) pss_nil)
    (pss_one (ps_ret (pe_and (pe_cal (l_is_word T) hr (pa_cons (pe_ix ix_tup (pv 0) pe_int (fun _ _ => rfl)) (pa_cons pe_int pa_nil))) (pe_one (pe_cal (l_is_word T) hr (pa_cons (pe_ix ix_tup (pv 0) pe_int (fun _ _ => rfl)) (pa_cons pe_int pa_nil))))))), ?_⟩
  obtain ⟨v0, rfl, d0⟩ := dv.one'
  refine z_when (b := !isTup d || !decide ((kids d).length = 2)) (et_or (et_not (vt_B (vd_isTup (vd_var rfl d0)))) fun h => vt_test (vd_neN (vd_lenK (vd_var rfl d0) (by simpa using h)) (vd_nat (n := 2)))) ?_ ?_
  · intro hb H1 x1 D' hD
    refine sd_rt (B := B) (by rw [hD]; exact q) x1 vd_bl ?_
    show PyData.bool false = .bool (isName d)
    unfold isName isPair
    revert hb
    cases isTup d <;> cases decide ((kids d).length = 2) <;> simp
  · intro hb H1 x1
    rw [Bool.or_eq_false_iff, Bool.not_eq_false', Bool.not_eq_false'] at hb
    have hl := of_decide_eq_true hb.2
    refine sd_rt (B := B) q x1 (vd_andV (vd_call (kid d 0, 0) (hB.ex x1) (va_cons (vd_kid (i := 0) (vd_var rfl (d0.ex x1)) hb.1 (by omega)) (va_cons (vd_nat (n := 0)) va_nil)) trivial) fun _ => vd_call (kid d 1, 1) (hB.ex x1) (va_cons (vd_kid (i := 1) (vd_var rfl (d0.ex x1)) hb.1 (by omega)) (va_cons (vd_nat (n := 1)) va_nil)) trivial) ?_
    show PyData.bool _ = .bool (isPair d && _)
    unfold isPair
    rw [hb.1, hb.2]
    rfl
theorem l_is_plain (T : Txt K mg) : Cal P w K mg base CX0 2 "_law_is_plain" (spB isPlain) := by
  refine calD (k := 1) T.f_law_is_plain sc_law_is_plain (fun _ => rfl) ?_
  intro f cdv A outer s H vs E B d hr hB dv _ D q
  refine ⟨_, pss_one (ps_ret (pe_cal (l_is_of T) hr (pa_cons (pv 0) (pa_cons pe_str (pa_cons pe_int (pa_cons pe_int pa_nil)))))), ?_⟩
  obtain ⟨v0, rfl, d0⟩ := dv.one'
  exact sd_rt q (Ex.refl H) (vd_call (d, PLN, 0, 20) hB (va_cons (vd_var rfl d0) (va_cons vd_str (va_cons (vd_nat (n := 0)) (va_cons (vd_nat (n := 20)) va_nil)))) trivial) rfl
theorem l_begins (T : Txt K mg) : Cal P w K mg base CX0 1 "_law_begins" (spBW begins) := by
  refine calD (k := 0) T.f_law_begins sc_law_begins (fun _ => rfl) ?_
  rintro f cdv A outer s H vs E B ⟨d, z⟩ hr hB dv _ D q
  refine ⟨_, pss_one (ps_ret (pe_and (e_isTup T (pv 0)) (pe_and (pe_cmpR op_gt (e_len T (pv 0)) pe_int (nomark _)) (pe_and (e_isStr T (pe_ix ix_tup (pv 0) pe_int (fun _ _ => rfl))) (pe_one (pe_cmpR op_eq (pe_ix ix_tup (pv 0) pe_int (fun _ _ => rfl)) (pv 1) (nomark _))))))), ?_⟩
  obtain ⟨v0, v1, rfl, d0, d1⟩ := dv.two'
  refine sd_rt q (Ex.refl H) (vd_andV (vd_isTup (vd_var rfl d0)) fun h => vd_andV (vd_gtN (vd_lenK (vd_var rfl d0) h) (vd_nat (n := 0))) fun h2 => vd_andV (vd_isStr (vd_kid (i := 0) (vd_var rfl d0) h (of_decide_eq_true h2))) fun h3 => vd_eqS (vd_is (vd_kid (i := 0) (vd_var rfl d0) h (of_decide_eq_true h2)) (isStr_of h3)) (vd_var rfl d1)) ?_
  show PyData.bool _ = .bool (begins d z)
  cases d with
  | tuple xs =>
    cases xs with
    | nil => rfl
    | cons x r =>
      cases x with
      | str s => rfl
      | _ => rfl
  | _ => rfl
theorem g_name {tu : TS} {D : Ends} {σ : L2.St} {H : Hp} {j : Nat} {x : V} (h : tu D (σ.set j (some x)) H) : gName j x σ H (fun σ2 H4 => tu D σ2 H4) := h
/-- _law_are_children: what was last, not whether it was a text -/
theorem l_are_children (T : Txt K mg) : Cal P w K mg base CX0 3 "_law_are_children" (spB areChildren) := by
  refine calD (k := 2) T.f_law_are_children sc_law_are_children (fun _ => rfl) ?_
  intro f cdv A outer s H vs E B d hr hB dv _ D q
  refine ⟨_, pss_cons (ps_if (pt_not (pt_val (e_isTup T (pv 0)))) (pss_one (ps_ret pe_bl)) pss_nil) (pss_cons (ps_set (i := 1) sc_law_are_children.nd rfl (Or.inl rfl) pe_non)
    (pss_cons (ps_for PassesOwn.never rfl (pi_tup (pv 0)) (pg_name (i := 2) sc_law_are_children.nd rfl (Or.inl rfl))
      (pss_cons (ps_if (pt_val (e_isStr T (pv 2)))
        (pss_one (ps_if (pw_or (pt_val (e_isStr T (pv 1))) (pw_or (pt_cmpR op_eq (pv 2) pe_str (nomark _)) (pw_or1 (pt_not (pt_val (pe_cal (l_is_plain T) hr (pa_cons (pv 2) pa_nil))))))).pt (pss_one (ps_ret pe_bl)) pss_nil))
        (pss_one (ps_if (pt_val (pe_cal (l_begins T) (hr.mono (by decide)) (pa_cons (pv 2) (pa_cons pe_str pa_nil))))
          (pss_one (ps_if (pw_or (pt_cmpR op_ne (e_len T (pv 2)) pe_int (nomark _)) (pw_or1 (pt_not (pt_val (pe_cal (l_is_of T) (hr.mono (by decide)) (pa_cons (pe_ix ix_tup (pv 2) pe_int (fun _ _ => rfl)) (pa_cons pe_str (pa_cons pe_int (pa_cons pe_int pa_nil))))))))).pt (pss_one (ps_ret pe_bl)) pss_nil))
          (pss_one (ps_if (pt_not (pt_val (pe_cal (l_begins T) (hr.mono (by decide)) (pa_cons (pv 2) (pa_cons pe_str pa_nil))))) (pss_one (ps_ret pe_bl)) pss_nil)))))
      (pss_one (ps_set (i := 1) sc_law_are_children.nd rfl (Or.inl rfl) (pv 2)))))
    (pss_one (ps_ret pe_bl)))), ?_⟩
  obtain ⟨v0, rfl, d0⟩ := dv.one'
  refine z_when (b := !isTup d) (et_not (vt_B (vd_isTup (vd_var rfl d0)))) ?_ ?_
  · intro hb H1 x1 D' hD
    refine sd_rt (B := B) (by rw [hD]; exact q) x1 vd_bl ?_
    show PyData.bool false = .bool (areChildren d)
    unfold areChildren
    cases h : isTup d with
    | true => rw [h] at hb; cases hb
    | false => rfl
  · intro hb H1 x1
    have ht : isTup d = true := by simpa using hb
    have ed := isTup_kids ht
    have hl : (kids d).length ≤ 100000 := by rw [ed] at d0; exact d0.lenT
    refine z_asg (B := B) vd_non fun u H1b x1b du => ?_
    rw [du.non']
    have xp : Ex H H1b := x1.trans x1b
    have d1 : Den B H1b v0 (.tuple (kids d)) := by rw [← ed]; exact d0.ex xp
    refine z_for (src_tup (vd_var rfl d1)) fun H2 x2 => ?_
    refine ⟨fun i σ' H' => ∃ lv ld y, σ' = [some v0, some lv, y] ∧ Ex H2 H' ∧ Den B H' lv ld ∧ childrenGo false (kids d) = childrenGo (isStr ld) ((kids d).drop i), ?_, ?_, ?_, ?_⟩
    · exact ⟨.non, .none, none, rfl, Ex.refl _, .non, rfl⟩
    · rintro i σ' H' ⟨lv, ld, y, rfl, ex, _⟩
      exact ⟨B, (Up.refl (hB.ex (xp.trans x2))).ex ex⟩
    · rintro i e σ' H' H3 x hi ⟨lv, ld, y, rfl, ex, dl, hgo⟩ x3 hx D1 hrt hnx hct hbk
      have up2 : Up B H2 B H' := (Up.refl (hB.ex (xp.trans x2))).ex ex
      have de : Den B H3 x e := hx _ up2
      have dl3 := dl.ex x3
      have ok3 := up2.ok.ex x3
      have exH : Ex H H3 := ((xp.trans x2).trans ex).trans x3
      refine g_name ?_
      rw [childrenGo_drop hi] at hgo
      have bad : ∀ H', Ex H3 H' → childOk (isStr ld) e = false → ∀ D' : Ends, D'.rt = D.rt → tRet (tC (.bl false)) D' [some v0, some lv, some x] H' := by
        intro H' x5 hf D' hD
        refine sd_rt (B := B) (f := .bool (areChildren d)) (fun v H5 x6 dv => ?_) (exH.trans x5) vd_bl ?_
        · rw [hD]
          exact q v H5 x6 dv
        · unfold areChildren
          rw [hgo, hf]
          simp
      have good : ∀ H', Ex H3 H' → childOk (isStr ld) e = true → tAsg (tVar 2) (gName 1) D1 [some v0, some lv, some x] H' := by
        intro H' x5 hok
        refine sd_asg (B := B) (vd_var rfl (de.ex x5)) fun u8 H8 x8 du8 => ?_
        rw [hnx]
        refine ⟨u8, e, some x, rfl, ((ex.trans x3).trans x5).trans x8, du8, ?_⟩
        rw [hgo, hok]
        rfl
      refine z_if (b := isStr e) (vt_B (vd_isStr (vd_var rfl de))) ?_ ?_
      · intro hs H4 x4
        have de4 := de.ex x4
        refine z_when (b := isStr ld || (decide (strOf e = Str.ofString "") || !isPlain e)) (et_or (vt_B (vd_isStr (vd_var rfl (dl3.ex x4)))) fun _ => et_or (vt_test (vd_eqS (vd_is (vd_var rfl de4) (isStr_of hs)) vd_str)) fun _ => et_not (vt_B (vd_call1 (ok3.ex x4) (vd_var rfl de4)))) ?_ ?_
        · intro hb1 H5 x5 D' hD
          refine bad H5 (x4.trans x5) ?_ _ (hD.trans hrt)
          unfold childOk
          rw [if_pos hs]
          have e1 : Str.empty = Str.ofString "" := rfl
          rw [e1]
          revert hb1
          cases isStr ld <;> cases decide (strOf e = Str.ofString "") <;> cases isPlain e <;> simp
        · intro hb1 H5 x5
          refine good H5 (x4.trans x5) ?_
          unfold childOk
          rw [if_pos hs]
          have e1 : Str.empty = Str.ofString "" := rfl
          rw [e1]
          revert hb1
          cases isStr ld <;> cases decide (strOf e = Str.ofString "") <;> cases isPlain e <;> simp
      · intro hs H4 x4
        have de4 := de.ex x4
        have ok4 := ok3.ex x4
        refine z_if (b := begins e HOL) (vt_B (vd_call (e, HOL) ok4 (va_cons (vd_var rfl de4) (va_cons vd_str va_nil)) trivial)) ?_ ?_
        · intro hh H5 x5
          have de5 := de4.ex x5
          have ok5 := ok4.ex x5
          have htp := begins_isTup hh
          refine z_when (b := !decide ((kids e).length = 2) || !isWord (kid e 1)) (et_or (vt_test (vd_neN (vd_lenK (vd_var rfl de5) htp) (vd_nat (n := 2)))) fun h2 => et_not (vt_B (vd_call (kid e 1, LET, 1, 8) ok5 (va_cons (vd_kid (i := 1) (vd_var rfl de5) htp (by
            have h3 : (kids e).length = 2 := by simpa using h2
            omega)) (va_cons vd_str (va_cons (vd_nat (n := 1)) (va_cons (vd_nat (n := 8)) va_nil)))) trivial))) ?_ ?_
          · intro hb1 H6 x6 D' hD
            refine bad H6 ((x4.trans x5).trans x6) ?_ _ (hD.trans hrt)
            unfold childOk
            rw [hs, hh]
            revert hb1
            cases decide ((kids e).length = 2) <;> cases isWord (kid e 1) <;> simp
          · intro hb1 H6 x6
            refine good H6 ((x4.trans x5).trans x6) ?_
            unfold childOk
            rw [hs, hh]
            revert hb1
            cases decide ((kids e).length = 2) <;> cases isWord (kid e 1) <;> simp
        · intro hh H5 x5
          have de5 := de4.ex x5
          have ok5 := ok4.ex x5
          refine z_when (b := !begins e ELE) (et_not (vt_B (vd_call (e, ELE) ok5 (va_cons (vd_var rfl de5) (va_cons vd_str va_nil)) trivial))) ?_ ?_
          · intro hb1 H6 x6 D' hD
            refine bad H6 ((x4.trans x5).trans x6) ?_ _ (hD.trans hrt)
            unfold childOk
            rw [hs, hh]
            rw [Bool.not_eq_true'] at hb1
            rw [hb1]
            rfl
          · intro hb1 H6 x6
            refine good H6 ((x4.trans x5).trans x6) ?_
            unfold childOk
            rw [hs, hh]
            rw [Bool.not_eq_false'] at hb1
            rw [hb1]
            rfl
    · rintro σ' H' ⟨lv, ld, y, rfl, ex, dl, hgo⟩
      rw [List.drop_length] at hgo
      refine sd_rt (B := B) q ((xp.trans x2).trans ex) vd_bl ?_
      show PyData.bool true = .bool (areChildren d)
      unfold areChildren
      rw [ht, hgo]
      rfl
end
end G
set_option maxHeartbeats 400000
/-! the law's numbers: _law_mixed, _law_draw, _law_of -/
namespace G
open PySem PySem.Spec PyProof.Rows L2 Evl
/-! ### whole numbers of any size -/
def EvI (te : TE) (σ : L2.St) (H : Hp) (φ : Int → Prop) : Prop := ∀ H1, Ex H H1 → ∀ Q : VK, (∀ i H2, Ex H1 H2 → φ i → Q (.int i) H2) → te σ H1 Q
section
variable {K : PySem.W.Frag} {σ : L2.St} {H H' : Hp} {te ta tb : TE} {φ ψ χ : Int → Prop}
theorem vi_c {i : Int} (h : φ i) : EvI (tC (.int i)) σ H φ := fun H1 x Q q => q i H1 (Ex.refl H1) h
theorem vi_var {k : Nat} {i : Int} (h : σ[k]? = some (some (.int i))) (hp : φ i) : EvI (tVar k) σ H φ := fun H1 x Q q => ⟨.int i, h, q i H1 (Ex.refl H1) hp⟩
theorem vi_op0 {g : Int → Int → Int} (ha : EvI ta σ H φ) (hb : EvI tb σ H ψ) (h : ∀ i j, φ i → ψ j → χ (g i j)) : EvI (tOp (rI0 fun i j => .int (g i j)) ta tb) σ H χ := fun H1 x Q q =>
  ha H1 x _ fun i H2 x2 hi => hb H2 (x.trans x2) _ fun j H3 x3 hj => ⟨i, j, rfl, rfl, q _ H3 (x2.trans x3) (h i j hi hj)⟩
theorem vi_op {C : Int → Int → Prop} {g : Int → Int → Int} (ha : EvI ta σ H φ) (hb : EvI tb σ H ψ) (hc : ∀ i j, φ i → ψ j → C i j) (h : ∀ i j, φ i → ψ j → χ (g i j)) : EvI (tOp (rI C fun i j => .int (g i j)) ta tb) σ H χ := fun H1 x Q q =>
  ha H1 x _ fun i H2 x2 hi => hb H2 (x.trans x2) _ fun j H3 x3 hj => ⟨i, j, rfl, rfl, hc i j hi hj, q _ H3 (x2.trans x3) (h i j hi hj)⟩
theorem vi_imp (h : EvI te σ H φ) (hp : ∀ i, φ i → ψ i) : EvI te σ H ψ := fun H1 x Q q => h H1 x Q fun i H2 x2 hi => q i H2 x2 (hp i hi)
/-- int(e), e a whole number -/
theorem vi_int (h : EvI te σ H φ) : EvI (tCB (fun xs H Q => (∃ i, xs = [V.int i] ∧ Q (.int i) H) ∨ ∃ k, xs = [V.bl k] ∧ Q (.int (if k = true then 1 else 0)) H) (tCons te tNil)) σ H φ := fun H1 x Q q =>
  h H1 x _ fun i H2 x2 hi => .inl ⟨i, rfl, q i H2 x2 hi⟩
theorem z_asgI {i : Nat} {D : Ends} {tw : TS} (h : EvI te σ H φ) (k : ∀ c H1, Ex H H1 → φ c → tw D (σ.set i (some (.int c))) H1) : tSeq (tAsg te (gName i)) tw D σ H := h H (Ex.refl H) _ k
theorem s_retI {D : Ends} (h : EvI te σ H φ) (k : ∀ c H1, Ex H H1 → φ c → D.rt (.int c) H1) : tRet te D σ H := h H (Ex.refl H) _ k
theorem z_ev {i : Nat} {v : V} {D : Ends} {tw : TS} (h : Ev te σ H v) (k : ∀ H1, Ex H H1 → tw D (σ.set i (some v)) H1) : tSeq (tAsg te (gName i)) tw D σ H := h H (Ex.refl H) _ k
theorem vi_ev {i : Int} (h : Ev te σ H (.int i)) (hp : φ i) : EvI te σ H φ := fun H1 x Q q => h H1 x _ fun H2 x2 => q i H2 x2 hp
theorem vi_lenL {p : Addr} {xs : List V} (h : Ev te σ H (.ref p)) (hx : H p = some (.lst xs)) (hp : φ (xs.length : Nat)) : EvI (tCB (rLenX K) (tCons te tNil)) σ H φ := fun H1 x Q q => h H1 x _ fun H2 x2 => .inl ⟨p, xs, rfl, .inl (SqL.of ((x.trans x2) p _ hx)), q _ H2 x2 hp⟩
theorem z_putS {i : Nat} {a : Addr} {kvs : List (Key × V)} {k : Str} {v : V} {D : Ends} {tw : TS} {tv : TE} (hv : Ev tv σ H v) (h : σ[i]? = some (some (.ref a))) (hd : H a = some (.dK kvs)) (hl : kvs.length ≤ 1000) (kk : ∀ H1, Ex H H1 → tw D σ (upd H1 a (.dK (putK kvs (.inr k) v)))) : tSeq (sDPut (tVar i) (tC (.str k)) tv) tw D σ H :=
  hv H (Ex.refl H) _ fun H1 x1 => ⟨_, h, a, _, rfl, DPut.k (k := .inr k) (x1 a _ hd) (small1000 hl), kk H1 x1⟩
end
def spMix : Sp := fun vs H Q _ => ∃ (c : Int) (k : Nat), vs = [.int c, .int (k : Nat)] ∧ k ≤ 1000000000 ∧ ∀ r H', Ex H H' → 0 ≤ r ∧ r < 2147483629 → Q (.int r) H'
theorem vi_mix {σ : L2.St} {H : Hp} {ta tb : TE} {φ : Int → Prop} {k : Nat} {E : XK} (ha : EvI ta σ H φ) (hb : EvI tb σ H fun j => j = (k : Nat)) (hk : k ≤ 1000000000) : EvI (tCall spMix [] E (tCons ta (tCons tb tNil))) σ H fun r => 0 ≤ r ∧ r < 2147483629 := fun H1 x Q q =>
  ha H1 x _ fun i H2 x2 hi => hb H2 (x.trans x2) _ fun j H3 x3 hj => ⟨i, k, by rw [hj]; rfl, hk, fun r H4 x4 hr => q r H4 ((x2.trans x3).trans x4) hr⟩
section
variable {P : Program} {w : World} {K : PySem.W.Frag} {mg : Str → Option Value} {base : Heap}
theorem r_mixed (T : Txt K mg) : Cal P w K mg base CX0 1 "_law_mixed" spMix := by
  refine cal_of (k := 0) T.f_law_mixed sc_law_mixed (fun vs H Q E h => by obtain ⟨c, k, rfl, _⟩ := h; rfl) ?_
  rintro f cdv A outer s H vs Q E hr ⟨c, k, rfl, hk, q⟩
  refine ⟨_, pss_cons (ps_set (i := 0) sc_law_mixed.nd rfl (Or.inl rfl) (pe_op op_mod (pe_callTy call_int1 (by rfl) T.b_int (by decide +kernel) (pa_cons (pv 0) pa_nil)) pe_int))
    (pss_one (ps_ret (pe_op op_mod (pe_op op_mul (pe_op op_mod (pe_op op_add (pe_op op_add (pe_op op_mul (pv 0) (pe_op op_add pe_int (pe_op op_mul (pe_op op_mul pe_int (pv 1)) (pv 1)))) (pe_op op_mul pe_int (pv 1))) pe_int) pe_int) pe_int) pe_int))), ?_⟩
  refine z_asgI (vi_op (φ := fun _ => True) (ψ := fun j => j = 2147483647) (χ := fun i => 0 ≤ i ∧ i < 2147483647) (vi_int (vi_var rfl trivial)) (vi_c rfl) ?_ ?_) fun c2 H1 x1 hc2 => ?_
  · rintro i j _ rfl
    decide
  · rintro i j _ rfl
    exact ⟨Int.emod_nonneg _ (by decide), Int.emod_lt_of_pos _ (by decide)⟩
  refine s_retI (vi_op (φ := fun _ => True) (ψ := fun j => j = 2147483629) (χ := fun i => 0 ≤ i ∧ i < 2147483629) (vi_op (φ := fun i => 0 ≤ i ∧ i < 2147483647) (ψ := fun _ => True) (vi_op (φ := fun _ => True) (ψ := fun j => j = 2147483647) (vi_op0 (φ := fun _ => True) (ψ := fun _ => True) (vi_op0 (φ := fun _ => True) (ψ := fun _ => True) (vi_op (φ := fun i => 0 ≤ i ∧ i < 2147483647) (ψ := fun _ => True) (vi_var rfl hc2)
    (vi_op0 (φ := fun _ => True) (ψ := fun _ => True) (vi_c trivial) (vi_op (φ := fun _ => True) (ψ := fun j => j = (k : Nat)) (vi_op (φ := fun i => i = 2) (ψ := fun _ => True) (vi_c rfl) (vi_var rfl trivial) ?_ fun _ _ _ _ => trivial) (vi_var rfl rfl) ?_ fun _ _ _ _ => trivial) fun _ _ _ _ => trivial) ?_ fun _ _ _ _ => trivial)
    (vi_op (φ := fun i => i = 69621) (ψ := fun _ => True) (vi_c rfl) (vi_var rfl trivial) ?_ fun _ _ _ _ => trivial) fun _ _ _ _ => trivial) (vi_c trivial) fun _ _ _ _ => trivial) (vi_c rfl) ?_ ?_) (vi_c trivial) ?_ fun _ _ _ _ => trivial) (vi_c rfl) ?_ ?_) fun r H2 x2 hr2 => q r H2 (x1.trans x2) hr2
  · rintro i j rfl _
    exact .inl ⟨by decide, by decide⟩
  · rintro i j _ rfl
    exact .inr ⟨by omega, by omega⟩
  · rintro i j hi _
    exact .inl ⟨by omega, by omega⟩
  · rintro i j rfl _
    exact .inl ⟨by decide, by decide⟩
  · rintro i j _ rfl
    decide
  · rintro i j _ rfl
    exact ⟨Int.emod_nonneg _ (by decide), Int.emod_lt_of_pos _ (by decide)⟩
  · rintro i j hi _
    exact .inl ⟨by omega, by omega⟩
  · rintro i j _ rfl
    decide
  · rintro i j _ rfl
    exact ⟨Int.emod_nonneg _ (by decide), Int.emod_lt_of_pos _ (by decide)⟩
end
end G
set_option maxHeartbeats 400000
/-! the state: _law_draw -/
namespace G
open PySem PySem.Spec PyProof.Rows L2 Evl
def stK (ca la : Addr) (n : Nat) : List (Key × V) := [(.inr "cells", .ref ca), (.inr "lefts", .ref la), (.inr "at", .int (n : Nat)), (.inr "room", .int 0)]
/-- the state at ds: its cells at ca, its lefts at la, n numbers drawn -/
structure StAt (ds ca la : Addr) (n : Nat) (H : Hp) : Prop where
  st : H ds = some (.dK (stK ca la n))
  ex : ∃ cs ls : List Int, H ca = some (.lst (cs.map V.int)) ∧ H la = some (.lst (ls.map V.int)) ∧ ls.length = cs.length ∧ 0 < cs.length
  n1 : ds ≠ ca
  n2 : ds ≠ la
  n3 : ca ≠ la
/-- what a draw changes -/
abbrev StB (ds la : Addr) : Addr → Prop := fun b => b = ds ∨ b = la
theorem stK_at (ca la : Addr) (n : Nat) (v : V) : putK (stK ca la n) (.inr "at") v = [(.inr "cells", .ref ca), (.inr "lefts", .ref la), (.inr "at", v), (.inr "room", .int 0)] := by
  have h1 : ¬ (Sum.inr (Str.ofString "cells") : Key) = .inr (Str.ofString "at") := by decide +kernel
  have h2 : ¬ (Sum.inr (Str.ofString "lefts") : Key) = .inr (Str.ofString "at") := by decide +kernel
  have h3 : ¬ (Sum.inr (Str.ofString "room") : Key) = .inr (Str.ofString "at") := by decide +kernel
  unfold putK stK
  rw [if_pos (by simp [h1, h2])]
  simp [h1, h2, h3]
theorem stK_cells (ca la : Addr) (n : Nat) : valV (stK ca la n) (.inr (Str.ofString "cells")) = some (.ref ca) := valV_pos rfl
theorem stK_lefts (ca la : Addr) (n : Nat) : valV (stK ca la n) (.inr (Str.ofString "lefts")) = some (.ref la) := by
  have h1 : ¬ (Sum.inr (Str.ofString "cells") : Key) = .inr (Str.ofString "lefts") := by decide +kernel
  exact (valV_neg h1).trans (valV_pos rfl)
theorem stK_n (ca la : Addr) (n : Nat) : valV (stK ca la n) (.inr (Str.ofString "at")) = some (.int (n : Nat)) := by
  have h1 : ¬ (Sum.inr (Str.ofString "cells") : Key) = .inr (Str.ofString "at") := by decide +kernel
  have h2 : ¬ (Sum.inr (Str.ofString "lefts") : Key) = .inr (Str.ofString "at") := by decide +kernel
  exact (valV_neg h1).trans ((valV_neg h2).trans (valV_pos rfl))
theorem ev_dgetS {σ : L2.St} {H : Hp} {i : Nat} {a : Addr} {kvs : List (Key × V)} {k : Str} {v : V} (h : σ[i]? = some (some (.ref a))) (hd : H a = some (.dK kvs)) (hv : valV kvs (.inr k) = some v) : Ev (tDGet (tVar i) (tC (.str k))) σ H v := fun H1 x Q q =>
  ⟨_, h, a, v, rfl, by rw [← hv]; exact DGet.k (k := .inr k) (x a _ hd), q H1 (Ex.refl H1)⟩
theorem StAt.kp {ds ca la : Addr} {n : Nat} {H H' : Hp} (h : StAt ds ca la n H) (k : Kp (fun _ => False) H H') : StAt ds ca la n H' := by
  obtain ⟨cs, ls, a, b, c, d⟩ := h.ex
  exact ⟨k.keep _ _ h.st id, ⟨cs, ls, k.keep _ _ a id, k.keep _ _ b id, c, d⟩, h.n1, h.n2, h.n3⟩
theorem StAt.exx {ds ca la : Addr} {n : Nat} {H H' : Hp} (h : StAt ds ca la n H) (k : Ex H H') : StAt ds ca la n H' := h.kp (.of k)
theorem Kp.ne {M : Addr → Prop} {H H' : Hp} {p : Addr} {o : HO} (k : Kp M H H') (h : H p = some o) (n : ¬ M p) : H' p = some o := k.keep p o h n
/-- _law_draw(state, many): some number below many -/
def spDraw : Sp := fun vs H Q _ => ∃ (ds ca la : Addr) (n m : Nat), vs = [.ref ds, .int (m : Nat)] ∧ StAt ds ca la n H ∧ n ≤ 100000000 ∧ 0 < m ∧ m ≤ 100000 ∧
  ∀ (r : Nat) H', r < m → Kp (StB ds la) H H' → StAt ds ca la (n + 1) H' → Q (.int (r : Nat)) H'
theorem emod_lt_nat {i : Int} {n : Nat} (h : 0 < n) : ∃ j : Nat, i % (n : Nat) = (j : Nat) ∧ j < n := by
  have h1 : 0 ≤ i % (n : Nat) := Int.emod_nonneg _ (by omega)
  have h2 : i % (n : Nat) < (n : Nat) := Int.emod_lt_of_pos _ (by omega)
  exact ⟨(i % (n : Nat)).toNat, by omega, by omega⟩
section
variable {P : Program} {w : World} {K : PySem.W.Frag} {mg : Str → Option Value} {base : Heap}
theorem r_draw (T : Txt K mg) : Cal P w K mg base CX0 2 "_law_draw" spDraw := by
  refine cal_of (k := 1) T.f_law_draw sc_law_draw (fun vs H Q E h => by obtain ⟨ds, ca, la, n, m, rfl, _⟩ := h; rfl) ?_
  rintro f cdv A outer s H vs Q E hr ⟨ds, ca, la, n, m, rfl, S, hn, hm0, hm1, q⟩
  have hu := hu_of hr
  refine ⟨_, pss_cons (ps_set (i := 2) sc_law_draw.nd rfl (Or.inl rfl) (pe_dget hu (pv 0) pe_str (fun _ _ => rfl)))
    (pss_cons (ps_dput hu (pv 0) pe_str (pe_op op_add (pv 2) pe_int) rfl)
    (pss_cons (ps_set (i := 3) sc_law_draw.nd rfl (Or.inl rfl) (pe_op op_mod (pe_callTy call_int1 (by rfl) T.b_int (by decide +kernel) (pa_cons (pv 2) pa_nil)) (e_len T (pe_dget hu (pv 0) pe_str (fun _ _ => rfl)))))
    (pss_cons (ps_set (i := 4) sc_law_draw.nd rfl (Or.inl rfl) (pe_ix ix_list (pe_dget hu (pv 0) pe_str (fun _ _ => rfl)) (pv 3) (fun _ _ => rfl)))
    (pss_cons (ps_if (pt_cmpR op_gt (pv 4) pe_int (nomark _))
      (pss_cons (ps_asg (pe_op op_fdivW (pv 4) (pv 1)) (pg_sub (pe_dget hu (pv 0) pe_str (fun _ _ => rfl)) (pv 3) set_list))
        (pss_one (ps_ret (pe_op op_mod (pe_callTy call_int1 (by rfl) T.b_int (by decide +kernel) (pa_cons (pv 4) pa_nil)) (pv 1))))) pss_nil)
    (pss_cons (ps_set (i := 5) sc_law_draw.nd rfl (Or.inl rfl) (pe_cal (r_mixed T) hr (pa_cons (pe_cal (r_mixed T) hr (pa_cons (pe_ix ix_list (pe_dget hu (pv 0) pe_str (fun _ _ => rfl)) (pv 3) (fun _ _ => rfl)) (pa_cons (pv 2) pa_nil))) (pa_cons (pe_op op_add pe_int (pv 2)) pa_nil))))
    (pss_one (ps_ret (pe_op op_mod (pe_op op_fdiv (pe_callTy call_int1 (by rfl) T.b_int (by decide +kernel) (pa_cons (pe_op op_add (pe_op op_mul (pv 5) pe_int) (pe_cal (r_mixed T) hr (pa_cons (pv 5) (pa_cons (pe_op op_add pe_int (pv 2)) pa_nil)))) pa_nil)) pe_int) (pv 1))))))))), ?_⟩
  obtain ⟨cs, ls, hc, hl, hlen, hpos⟩ := S.ex
  refine z_ev (ev_dgetS rfl S.st (stK_n ca la n)) fun H1 x1 => ?_
  refine z_putS (a := ds) (v := .int ((n + 1 : Nat) : Int)) (ev_is (ev_op (ev_var rfl) ev_c rv_I0) (by show V.int ((n : Int) + 1) = _; congr 1)) rfl (x1 ds _ S.st) (by show 4 ≤ 1000; decide) fun H2 x2 => ?_
  rw [stK_at]
  have S2 : StAt ds ca la (n + 1) (upd H2 ds (.dK (stK ca la (n + 1)))) := ⟨upd_same, ⟨cs, ls, by rw [upd_ne S.n1.symm]; exact x2 ca _ (x1 ca _ hc), by rw [upd_ne S.n2.symm]; exact x2 la _ (x1 la _ hl), hlen, hpos⟩, S.n1, S.n2, S.n3⟩
  have k2 : Kp (StB ds la) H (upd H2 ds (.dK (stK ca la (n + 1)))) := (Kp.of (x1.trans x2)).wr (.inl rfl)
  have hc2 : (upd H2 ds (.dK (stK ca la (n + 1)))) ca = some (.lst (cs.map V.int)) := by rw [upd_ne S.n1.symm]; exact x2 ca _ (x1 ca _ hc)
  have hl2 : (upd H2 ds (.dK (stK ca la (n + 1)))) la = some (.lst (ls.map V.int)) := by rw [upd_ne S.n2.symm]; exact x2 la _ (x1 la _ hl)
  show tSeq _ _ _ _ (upd H2 ds (.dK (stK ca la (n + 1))))
  generalize upd H2 ds (.dK (stK ca la (n + 1))) = G2 at S2 k2 hc2 hl2
  refine z_asgI (vi_op (φ := fun _ => True) (ψ := fun j => j = (cs.length : Nat)) (χ := fun i => ∃ j : Nat, i = (j : Nat) ∧ j < cs.length) (vi_int (vi_var rfl trivial)) (vi_lenL (ev_dgetS rfl S2.st (stK_cells _ _ _)) hc2 (by rw [List.length_map])) ?_ ?_) fun c H3 x3 hj => ?_
  · rintro i j _ rfl
    omega
  · rintro i j _ rfl
    obtain ⟨j, h1, h2⟩ := emod_lt_nat (i := i) hpos
    exact ⟨j, h1, h2⟩
  obtain ⟨j, rfl, hj⟩ := hj
  have hlj : (ls.map V.int)[j]? = some (.int (ls[j]'(by omega))) := by
    rw [List.getElem?_map, List.getElem?_eq_getElem (by omega)]
    rfl
  have hcj : (cs.map V.int)[j]? = some (.int cs[j]) := by
    rw [List.getElem?_map, List.getElem?_eq_getElem hj]
    rfl
  have S3 := S2.exx x3
  refine z_ev (ev_op (ev_dgetS rfl S3.st (stK_lefts _ _ _)) (ev_var rfl) (rv_ixL (sq_of (x3 la _ hl2)) (at_of rfl hlj))) fun H4 x4 => ?_
  have x34 := x3.trans x4
  have S4 := S2.exx x34
  refine z_when (b := decide (0 < ls[j]'(by omega))) (et_test (ev_op (ev_var rfl) ev_c rv_I0)) ?_ ?_
  · intro hb H5 x5 D' hD
    have x35 := x34.trans x5
    have S5 := S2.exx x35
    refine q_setL (j := j) (x35 la _ hl2) (ev_op (ev_var rfl) (ev_var rfl) (rv_I (wide_div (b := 20) (by omega) ?_ (by decide) (by decide)))) (ev_dgetS rfl S5.st (stK_lefts _ _ _)) (ev_var rfl) (by rw [List.length_map]; omega) fun H6 x6 => ?_
    · rw [Int.natAbs_natCast]
      exact Nat.lt_of_le_of_lt hm1 (by decide)
    have x36 := x35.trans x6
    refine s_retI (vi_op (φ := fun _ => True) (ψ := fun j => j = (m : Nat)) (χ := fun i => ∃ j : Nat, i = (j : Nat) ∧ j < m) (vi_int (vi_var rfl trivial)) (vi_var rfl rfl) ?_ ?_) fun r H7 x7 hr7 => ?_
    · rintro i j _ rfl
      omega
    · rintro i j _ rfl
      obtain ⟨j, h1, h2⟩ := emod_lt_nat (i := i) hm0
      exact ⟨j, h1, h2⟩
    obtain ⟨r, rfl, hrm⟩ := hr7
    rw [hD]
    refine q r H7 hrm ((k2.trans (.of x36)).wr (.inr rfl) |>.trans (.of x7)) (StAt.exx ?_ x7)
    refine ⟨by rw [upd_ne S.n2]; exact x36 ds _ S2.st, ⟨cs, ls.set j (ls[j]'(by omega) / (m : Nat)), by rw [upd_ne S.n3]; exact x36 ca _ hc2, ?_, by rw [List.length_set]; exact hlen, hpos⟩, S.n1, S.n2, S.n3⟩
    rw [upd_same, List.map_set]
  · intro hb H5 x5
    have x35 := x34.trans x5
    have S5 := S2.exx x35
    refine z_asgI (vi_mix (k := 40 + n) (vi_mix (k := n) (φ := fun _ => True) (vi_ev (ev_op (ev_dgetS rfl S5.st (stK_cells _ _ _)) (ev_var rfl) (rv_ixL (sq_of (x35 ca _ hc2)) (at_of rfl hcj))) trivial) (vi_var rfl rfl) (by omega)) (vi_op0 (φ := fun i => i = 40) (ψ := fun j => j = (n : Nat)) (vi_c rfl) (vi_var rfl rfl) ?_) (by omega)) fun c H6 x6 hc6 => ?_
    · rintro i j rfl rfl
      omega
    refine s_retI (vi_op (φ := fun _ => True) (ψ := fun j => j = (m : Nat)) (χ := fun i => ∃ j : Nat, i = (j : Nat) ∧ j < m) (vi_op (φ := fun _ => True) (ψ := fun j => j = 64) (vi_int (vi_op0 (φ := fun _ => True) (ψ := fun _ => True) (vi_op (φ := fun _ => True) (ψ := fun j => j = 2147483647) (vi_var rfl trivial) (vi_c rfl) ?_ fun _ _ _ _ => trivial)
      (vi_imp (vi_mix (k := 7 + n) (φ := fun _ => True) (vi_var rfl trivial) (vi_op0 (φ := fun i => i = 7) (ψ := fun j => j = (n : Nat)) (vi_c rfl) (vi_var rfl rfl) ?_) (by omega)) fun _ _ => trivial) fun _ _ _ _ => trivial)) (vi_c rfl) ?_ fun _ _ _ _ => trivial) (vi_var rfl rfl) ?_ ?_) fun r H7 x7 hr7 => ?_
    · rintro i j _ rfl
      exact .inr ⟨by decide, by decide⟩
    · rintro i j rfl rfl
      omega
    · rintro i j _ rfl
      exact ⟨by decide, by decide⟩
    · rintro i j _ rfl
      omega
    · rintro i j _ rfl
      obtain ⟨j, h1, h2⟩ := emod_lt_nat (i := i) hm0
      exact ⟨j, h1, h2⟩
    obtain ⟨r, rfl, hrm⟩ := hr7
    exact q r H7 hrm (k2.trans (.of ((x35.trans x6).trans x7))) (S2.exx ((x35.trans x6).trans x7))
end
end G
set_option maxHeartbeats 400000
/-! expressions that draw: _law_of, _law_prefix, _law_name -/
namespace G
open PySem PySem.Spec PyProof.Rows L2 Evl
/-- the bad ones are tracked, and none is a tuple -/
structure BN (B : Addr → Prop) (H : Hp) : Prop where
  ok : BOk B H
  nt : ∀ b xs, B b → H b ≠ some (.tup xs)
theorem BN.kpM {B M : Addr → Prop} {H H' : Hp} (h : BN B H) (k : Kp M H H') (m : ∀ b, M b → ∀ xs, H' b ≠ some (.tup xs)) : BN B H' := ⟨fun b q z => h.ok b q (k.dom b z), fun b xs q z => by
  by_cases hm : M b
  · exact m b hm xs z
  · cases e : H b with
    | none => exact h.ok b q e
    | some o =>
      rw [k.keep b o e hm] at z
      cases z
      exact h.nt b xs q e⟩
theorem BN.ex {B : Addr → Prop} {H H' : Hp} (h : BN B H) (x : Ex H H') : BN B H' := h.kpM (M := fun _ => False) (.of x) fun _ z => z.elim
theorem BN.kps {B : Addr → Prop} {ds ca la : Addr} {n : Nat} {H H' : Hp} (h : BN B H) (k : Kp (StB ds la) H H') (S : StAt ds ca la n H') : BN B H' := h.kpM k fun b hb xs z => by
  rcases hb with rfl | rfl
  · rw [S.st] at z; cases z
  · obtain ⟨cs, ls, _, e, _⟩ := S.ex
    rw [e] at z; cases z
theorem BN.add {B : Addr → Prop} {H : Hp} {p : Addr} {o : HO} (h : BN B H) (e : H p = some o) (n : ∀ xs, o ≠ .tup xs) : BN (Add B p) H := by
  constructor
  · intro b q z
    rcases q with q | q
    · exact h.ok b q z
    · rw [q, e] at z
      cases z
  · intro b xs q z
    rcases q with q | q
    · exact h.nt b xs q z
    · rw [q, e] at z
      cases z
      exact n xs rfl
/-- te draws at most c numbers and gives a datum of φ -/
def EvS (B : Addr → Prop) (ds ca la : Addr) (c : Nat) (te : TE) (σ : L2.St) (H : Hp) (φ : PyData → Prop) : Prop := ∀ n H1, Kp (StB ds la) H H1 → StAt ds ca la n H1 → n + c ≤ 100000000 → ∀ Q : VK,
  (∀ v d n' H2, Kp (StB ds la) H1 H2 → StAt ds ca la n' H2 → n' ≤ n + c → φ d → Den B H2 v d → Q v H2) → te σ H1 Q
/-- a def that draws at most c numbers; its arguments behind the state are data -/
def spS {α : Type} (c : Nat) (arg : α → List PyData) (Pre : α → Prop) (φ : α → PyData → Prop) : Sp := fun vs H Q _ => ∃ (B : Addr → Prop) (ds ca la : Addr) (n : Nat) (a : α) (ws : List V), vs = .ref ds :: ws ∧ BN B H ∧ (∀ b, StB ds la b → B b) ∧ StAt ds ca la n H ∧ n + c ≤ 100000000 ∧ Dens B H ws (arg a) ∧ Pre a ∧
  ∀ v d n' H', Kp (StB ds la) H H' → StAt ds ca la n' H' → n' ≤ n + c → φ a d → Den B H' v d → Q v H'
section
variable {K : PySem.W.Frag} {B : Addr → Prop} {ds ca la : Addr} {c c1 c2 : Nat} {σ : L2.St} {H H' : Hp} {te ta tb : TE} {φ ψ : PyData → Prop} {d : PyData} {D : Ends} {tw : TS}
theorem Kp.b {M : Addr → Prop} (k : Kp M H H') (h : ∀ b, M b → B b) : Kp B H H' := k.le h
theorem vs_pure (hφ : φ d) (h : ∀ H1, Kp (StB ds la) H H1 → EvD B te σ H1 d) : EvS B ds ca la c te σ H φ := fun n H1 k S hn Q q => h H1 k H1 (Ex.refl H1) Q fun v H2 x dv => q v d n H2 (.of x) (S.exx x) (by omega) hφ dv
theorem vs_imp (h : EvS B ds ca la c te σ H φ) (hp : ∀ d, φ d → ψ d) : EvS B ds ca la c te σ H ψ := fun n H1 k S hn Q q => h n H1 k S hn Q fun v d n' H2 k2 S2 hn2 hd dv => q v d n' H2 k2 S2 hn2 (hp d hd) dv
theorem EvS.kp (h : EvS B ds ca la c te σ H φ) (k : Kp (StB ds la) H H') : EvS B ds ca la c te σ H' φ := fun n H1 k1 S hn Q q => h n H1 (k.trans k1) S hn Q q
theorem BOk.kp' {M : Addr → Prop} (h : BOk B H) (k : Kp M H H') : BOk B H' := fun b q z => h b q (k.dom b z)
/-- a call of such a def -/
theorem vs_call {α : Type} {arg : α → List PyData} {Pre : α → Prop} {φ : α → PyData → Prop} {i : Nat} {tx : TA} {E : XK} (a : α) (hB : BN B H) (hS : ∀ b, StB ds la b → B b) (hσ : σ[i]? = some (some (.ref ds))) (h : ∀ H1, Kp (StB ds la) H H1 → EvAD B tx σ H1 (arg a)) (hp : Pre a) :
    EvS B ds ca la c (tCall (spS c arg Pre φ) [] E (tCons (tVar i) tx)) σ H (φ a) := fun n H1 k S hn Q q => ⟨_, hσ, h H1 k H1 (Ex.refl H1) _ fun ws H2 x2 dv =>
  ⟨B, ds, ca, la, n, a, ws, by rw [List.append_nil], (hB.kps k S).ex x2, hS, S.exx x2, hn, dv, hp, fun v d n' H3 k3 S3 hn3 hd dv => q v d n' H3 ((Kp.of x2).trans k3) S3 hn3 hd dv⟩⟩
/-- (e, f) -/
theorem vs_tup2 (hB : BOk B H) (hS : ∀ b, StB ds la b → B b) (h1 : EvS B ds ca la c1 ta σ H φ) (h2 : EvS B ds ca la c2 tb σ H ψ) : EvS B ds ca la (c1 + c2) (tTup (tCons ta (tCons tb tNil))) σ H fun d => ∃ x y, d = .tuple [x, y] ∧ φ x ∧ ψ y := fun n H1 k S hn Q q =>
  h1 n H1 k S (by omega) _ fun v d n1 H2 k2 S2 hn2 hd dv => h2 n1 H2 (k.trans k2) S2 (by omega) _ fun u e n2 H3 k3 S3 hn3 he du => ⟨by show 2 ≤ sizeLine; decide, fun p hp => by
    have dv3 := dv.kp (k3.le hS)
    have ok3 : BOk B H3 := ((hB.kp' k).kp' k2).kp' k3
    exact q _ _ n2 _ ((k2.trans k3).trans (.of (Ex.new hp))) (S3.exx (Ex.new hp)) (by omega) ⟨d, e, rfl, hd, he⟩ (.tup (by show 2 ≤ 100000; decide) upd_same (ok3.new hp) (.cons (dv3.ex (Ex.new hp)) (.cons (du.ex (Ex.new hp)) .nil)))⟩
theorem zs_asg {i : Nat} {n : Nat} (h : EvS B ds ca la c te σ H φ) (S : StAt ds ca la n H) (hn : n + c ≤ 100000000) (k : ∀ v d n' H1, Kp (StB ds la) H H1 → StAt ds ca la n' H1 → n' ≤ n + c → φ d → Den B H1 v d → tw D (σ.set i (some v)) H1) : tSeq (tAsg te (gName i)) tw D σ H := h n H (Kp.refl H) S hn _ k
theorem zs_ret {n : Nat} (h : EvS B ds ca la c te σ H φ) (S : StAt ds ca la n H) (hn : n + c ≤ 100000000) (k : ∀ v d n' H1, Kp (StB ds la) H H1 → StAt ds ca la n' H1 → n' ≤ n + c → φ d → Den B H1 v d → D.rt v H1) : tRet te D σ H := h n H (Kp.refl H) S hn _ k
/-- a number below m -/
theorem vs_draw {i m : Nat} {tm : TE} {E : XK} (hσ : σ[i]? = some (some (.ref ds))) (h : ∀ H1, Kp (StB ds la) H H1 → EvI tm σ H1 fun j => j = (m : Nat)) (h0 : 0 < m) (h1 : m ≤ 100000) : EvS B ds ca la 1 (tCall spDraw [] E (tCons (tVar i) (tCons tm tNil))) σ H fun d => ∃ r, r < m ∧ d = .int (r : Nat) := fun n H1 k S hn Q q =>
  ⟨_, hσ, h H1 k H1 (Ex.refl H1) _ fun j H2 x2 hj => ⟨ds, ca, la, n, m, by rw [hj]; rfl, S.exx x2, by omega, h0, h1, fun r H3 hr k3 S3 => q _ _ (n + 1) H3 ((Kp.of x2).trans k3) S3 (Nat.le_refl _) ⟨r, hr, rfl⟩ (.int _ (fit_nat (by omega)))⟩⟩
/-- xs[_law_draw(state, m)], xs a list just written -/
theorem vs_pick {xs : List PyData} (hS : ∀ b, StB ds la b → B b) (h : ∀ H1, Kp (StB ds la) H H1 → EvD B ta σ H1 (.list xs)) (hd : ∀ H1, Kp (StB ds la) H H1 → EvS B ds ca la c tb σ H1 fun d => ∃ r, r < xs.length ∧ d = .int (r : Nat)) : EvS B ds ca la c (tOp (rIxL K) ta tb) σ H fun d => d ∈ xs := fun n H1 k S hn Q q =>
  h H1 k H1 (Ex.refl H1) _ fun v H2 x2 dv => hd H1 k n H2 (.of x2) (S.exx x2) hn _ fun u e n' H3 k3 S3 hn3 he du => by
    obtain ⟨r, hr, rfl⟩ := he
    rw [du.int']
    obtain ⟨p, ys, rfl, hp, nb, rr⟩ := (dv.kp (k3.le hS)).lst'
    obtain ⟨z, hz, dz⟩ := rr.get (List.getElem?_eq_getElem hr)
    exact ⟨p, ys, (r : Nat), z, rfl, rfl, SqL.of hp, at_of rfl hz, q z _ n' H3 ((Kp.of x2).trans k3) S3 hn3 (List.getElem_mem hr) dz⟩
end
def PFX : List Str := ["", "p", "q", "p", "", "r", "pp"].map Str.ofString
def LOC : List Str := ["a", "b", "a", "c"].map Str.ofString
section
variable {P : Program} {w : World} {K : PySem.W.Frag} {mg : Str → Option Value} {base : Heap}
/-- wrapper: a def that draws -/
theorem calS {x : Str} {st : Stmt} {N ps : List Str} {k c : Nat} {α : Type} {arg : α → List PyData} {Pre : α → Prop} {φ : α → PyData → Prop} (T : FnT K mg x st ps) (S : FnScope N ps (defScope st)) (len : ∀ a, (arg a).length + 1 = ps.length)
    (hbody : ∀ (f : Addr) (cdv : Value) (A : Around) (outer : List Env) (s : Shared) (H : Hp) (ws : List V) (E : XK) (B : Addr → Prop) (ds ca la : Addr) (n : Nat) (a : α), Room k (A.deeper (envOfC x (defScope st) s.heap.objs.size f cdv)) → BN B H → (∀ b, StB ds la b → B b) → StAt ds ca la n H → n + c ≤ 100000000 → Dens B H ws (arg a) → Pre a →
      ∀ D : Ends, (∀ v d n' H', Kp (StB ds la) H H' → StAt ds ca la n' H' → n' ≤ n + c → φ a d → Den B H' v d → D.rt v H') →
      ∃ t, PSs (cxOf CX0 P w K mg base N x (defScope st) f cdv A outer s H E).nox (defBody st) t ∧ t D (start N (.ref ds :: ws)) H) : Cal P w K mg base CX0 (k + 1) x (spS c arg Pre φ) := by
  refine cal_of T S (fun vs H Q E h => by
    obtain ⟨B, ds, ca, la, n, a, ws, rfl, _, _, _, _, dv, _⟩ := h
    rw [List.length_cons, dv.length]
    exact len a) ?_
  rintro f cdv A outer s H vs Q E hr ⟨B, ds, ca, la, n, a, ws, rfl, hB, hS, St, hn, dv, hp, q⟩
  exact hbody f cdv A outer s H ws E B ds ca la n a hr hB hS St hn dv hp _ q
theorem r_of (T : Txt K mg) : Cal P w K mg base CX0 3 "_law_of" (spS 1 (fun (xs : List PyData) => [.list xs]) (fun xs => 0 < xs.length) fun xs d => d ∈ xs) := by
  refine calS (k := 2) T.f_law_of sc_law_of (fun _ => rfl) ?_
  intro f cdv A outer s H ws E B ds ca la n xs hr hB hS St hn dv hp D q
  refine ⟨_, pss_one (ps_ret (pe_ix ix_list (pv 1) (pe_cal (r_draw T) hr (pa_cons (pv 0) (pa_cons (e_len T (pv 1)) pa_nil))) (fun _ _ => rfl))), ?_⟩
  obtain ⟨v1, rfl, d1⟩ := dv.one'
  have hl := d1.lenL
  refine zs_ret (vs_pick hS (xs := xs) (fun H1 k => vd_var rfl (d1.kp (k.le hS))) fun H1 k => vs_draw rfl (fun H2 k2 => fun H3 x3 Q q => ?_) hp hl) St hn q
  exact vd_len (vd_var rfl ((d1.kp (k.le hS)).kp (k2.le hS))) rfl rfl H3 x3 Q fun v H4 x4 dv4 => by rw [dv4.int']; exact q _ H4 x4 rfl
theorem r_prefix (T : Txt K mg) : Cal P w K mg base CX0 3 "_law_prefix" (spS 1 (fun (_ : Unit) => []) (fun _ => True) fun _ d => ∃ s ∈ PFX, d = .str s) := by
  refine calS (k := 2) T.f_law_prefix sc_law_prefix (fun _ => rfl) ?_
  intro f cdv A outer s H ws E B ds ca la n xs hr hB hS St hn dv hp D q
  refine ⟨_, pss_one (ps_ret (pe_ix ix_list (pe_lst (pa_cons pe_str (pa_cons pe_str (pa_cons pe_str (pa_cons pe_str (pa_cons pe_str (pa_cons pe_str (pa_cons pe_str pa_nil)))))))) (pe_cal (r_draw T) hr (pa_cons (pv 0) (pa_cons pe_int pa_nil))) (fun _ _ => rfl))), ?_⟩
  cases dv
  refine zs_ret (vs_imp (vs_pick hS (xs := PFX.map PyData.str) (fun H1 k => vd_lst (hB.ok.kp' k) (va_cons vd_str (va_cons vd_str (va_cons vd_str (va_cons vd_str (va_cons vd_str (va_cons vd_str (va_cons vd_str va_nil))))))) (by decide)) fun H1 k => vs_draw (m := 7) rfl (fun H2 k2 => vi_c rfl) (by decide) (by decide)) ?_) St hn q
  intro d hd
  obtain ⟨s, hs, rfl⟩ := List.mem_map.mp hd
  exact ⟨s, hs, rfl⟩
/-- a name as the law makes it -/
def NameD (d : PyData) : Prop := ∃ p q, p ∈ PFX ∧ q ∈ LOC ∧ d = .tuple [.str p, .str q]
theorem r_name (T : Txt K mg) : Cal P w K mg base CX0 4 "_law_name" (spS 2 (fun (_ : Unit) => []) (fun _ => True) fun _ d => NameD d) := by
  refine calS (k := 3) T.f_law_name sc_law_name (fun _ => rfl) ?_
  intro f cdv A outer s H ws E B ds ca la n xs hr hB hS St hn dv hp D q
  refine ⟨_, pss_one (ps_ret (pe_tup (pa_cons (pe_cal (r_prefix T) hr (pa_cons (pv 0) pa_nil)) (pa_cons (pe_ix ix_list (pe_lst (pa_cons pe_str (pa_cons pe_str (pa_cons pe_str (pa_cons pe_str pa_nil))))) (pe_cal (r_draw T) (hr.mono (by decide)) (pa_cons (pv 0) (pa_cons pe_int pa_nil))) (fun _ _ => rfl)) pa_nil)))), ?_⟩
  cases dv
  refine zs_ret (vs_imp (vs_tup2 hB.ok hS (vs_call () hB hS rfl (fun H1 k => va_nil) trivial) (vs_pick hS (xs := LOC.map PyData.str) (fun H1 k => vd_lst (hB.ok.kp' k) (va_cons vd_str (va_cons vd_str (va_cons vd_str (va_cons vd_str va_nil)))) (by decide)) fun H1 k => vs_draw (m := 4) rfl (fun H2 k2 => vi_c rfl) (by decide) (by decide))) ?_) St hn q
  rintro d ⟨x, y, rfl, ⟨p, hp, rfl⟩, hy⟩
  obtain ⟨s, hs, rfl⟩ := List.mem_map.mp hy
  exact ⟨p, s, hp, hs, rfl⟩
end
end G
set_option maxHeartbeats 400000
/-! a dict's items; _law_declarations, _law_attributes -/
namespace G
open PySem PySem.Spec PyProof.Rows L2 Evl
section
variable {κ : Type} [DecidableEq κ]
theorem keys_put (kvs : List (κ × V)) (k : κ) (v : V) (h : (kvs.map Prod.fst).Nodup) : ((putK kvs k v).map Prod.fst).Nodup := by
  unfold putK
  by_cases a : (kvs.any fun kv => decide (kv.1 = k)) = true
  · rw [if_pos a, List.map_map]
    have e : (Prod.fst ∘ fun (kv : κ × V) => if kv.1 = k then (kv.1, v) else kv) = Prod.fst := by
      funext kv
      show (if kv.1 = k then (kv.1, v) else kv).1 = kv.1
      split <;> rfl
    rw [e]
    exact h
  · rw [if_neg a, List.map_append, List.nodup_append]
    refine ⟨h, by simp, ?_⟩
    intro x hx y hy z
    simp at hy
    subst hy
    subst z
    obtain ⟨kv, hm, e⟩ := List.mem_map.mp hx
    exact a (List.any_eq_true.mpr ⟨kv, hm, decide_eq_true e⟩)
theorem mem_put {kvs : List (κ × V)} {k : κ} {v : V} {kv : κ × V} (h : kv ∈ putK kvs k v) : kv = (k, v) ∨ kv ∈ kvs := by
  unfold putK at h
  split at h
  · obtain ⟨x, hx, e⟩ := List.mem_map.mp h
    by_cases hk : x.1 = k
    · rw [if_pos hk, hk] at e
      exact .inl e.symm
    · rw [if_neg hk] at e
      exact .inr (e ▸ hx)
  · rcases List.mem_append.mp h with q | q
    · exact .inr q
    · exact .inl (by simpa using q)
theorem valV_get : ∀ {kvs : List (κ × V)} {i : Nat} {k : κ} {v : V}, (kvs.map Prod.fst).Nodup → kvs[i]? = some (k, v) → valV kvs k = some v
  | p :: r, 0, k, v, _, h => by
    have e : p = (k, v) := by simpa using h
    rw [e]
    exact valV_pos rfl
  | p :: r, i + 1, k, v, hn, h => by
    have h' : r[i]? = some (k, v) := by simpa using h
    rw [List.map_cons, List.nodup_cons] at hn
    have hne : ¬ p.1 = k := fun e => hn.1 (e ▸ List.mem_map.mpr ⟨(k, v), List.mem_of_getElem? h', rfl⟩)
    rw [valV_neg hne]
    exact valV_get hn.2 h'
end
section
variable {B : Addr → Prop} {H H' : Hp}
mutual
theorem Den.keepF {v : V} {d : PyData} (k : ∀ b o, H b = some o → ¬ B b → (∀ od u, o ≠ .frz od u) → H' b = some o) : Den B H v d → Den B H' v d
  | .non => .non
  | .bl b => .bl b
  | .int i h => .int i h
  | .str s h => .str s h
  | .tup l h n r => .tup l (k _ _ h n fun _ _ z => by cases z) n (Dens.keepF k r)
  | .lst l h n r => .lst l (k _ _ h n fun _ _ z => by cases z) n (Dens.keepF k r)
  | .dic h n => .dic (k _ _ h n fun _ _ z => by cases z) n
theorem Dens.keepF {vs : List V} {ds : List PyData} (k : ∀ b o, H b = some o → ¬ B b → (∀ od u, o ≠ .frz od u) → H' b = some o) : Dens B H vs ds → Dens B H' vs ds
  | .nil => .nil
  | .cons a r => .cons (Den.keepF k a) (Dens.keepF k r)
end
end
section
variable {K : PySem.W.Frag} {B : Addr → Prop} {σ : L2.St} {H H' : Hp} {i j : Nat} {p : Addr} {od : Obj}
theorem vd_itemsK {kvs : List (Key × V)} {ds : List PyData} (hB : BOk B H) (hσ : ∀ x, ((wipe σ [j]).set j (some x))[i]? = some (some (.ref p))) (hj : ∀ x, ((wipe σ [j]).set j (some x))[j]? = some (some x)) (hσ0 : σ[i]? = some (some (.ref p))) (hw : ∀ x, wipe ((wipe σ [j]).set j (some x)) [j] = wipe σ [j])
    (hH : H p = some (.frz od (.dK kvs))) (hnd : (kvs.map Prod.fst).Nodup) (hl : ds.length = kvs.length) (hn : kvs.length ≤ 1000) (hd : ∀ (a : Nat) (k : Key) (v : V), kvs[a]? = some (k, v) → ∃ (s : Str) (d : PyData), k = .inr s ∧ s.length ≤ 1000 ∧ Den B H v d ∧ ds[a]? = some (.tuple [.str s, d])) :
    EvD B (tLc (iKeys (tVar i)) (gName j) tYes (tTup (tCons (tVar j) (tCons (tDGet (tVar i) (tVar j)) tNil))) [j]) σ H (.list ds) := fun H1 x Q q => ⟨_, hσ0, p, od, rfl, .inl ⟨kvs, x p _ hH, fun D hD => by
    have hB1 := hB.ex x
    refine lc_it walk_keys (fun a H3 => Ex H1 H3 ∧ ∃ acc, H3 D = some (.lst acc) ∧ Dens (Add B D) H3 acc (ds.take a)) ⟨Ex.new hD, [], upd_same, .nil⟩ (fun a H3 _ pp => pp.1 p _ (x p _ hH)) ?_ ?_
    · rintro a y H3 H4 ha ⟨x3, acc, hacc, dacc⟩ ⟨rfl, k, v, hkv, rfl⟩
      obtain ⟨s, d, rfl, hs, dv, hds⟩ := hd a k v hkv
      refine ⟨hw _, ?_⟩
      unfold tYes
      simp only [if_true]
      have up3 := upAdd hB1 x3 hD hacc
      have x13 := x.trans x3
      refine ⟨_, hj _, _, hσ _, _, hj _, p, v, rfl, ?_, by show 2 ≤ sizeLine; decide, fun t ht => ⟨acc, Ex.new ht D _ hacc, ?_, ?_⟩⟩
      · rw [← valV_get hnd hkv]
        exact .inl ⟨kvs, .inr s, .inr ⟨od, x13 p _ hH⟩, rfl, rfl⟩
      · rw [dacc.length]
        exact Nat.lt_of_le_of_lt (show _ ≤ 1000 by rw [List.length_take]; omega) (by decide)
      · have kw : Kp (Add B D) (upd H4 t (.tup [.str s, v])) (upd (upd H4 t (.tup [.str s, v])) D (.lst (acc ++ [.ref t]))) := (Kp.refl _).wr (.inr rfl)
        refine ⟨(x3.trans (Ex.new ht)).mut hD, _, upd_same, ?_⟩
        rw [take_succ_of hds]
        have dvD := (dv.ex x).up up3
        exact ((dacc.ex (Ex.new ht)).kp kw).append (.cons (Den.kp kw (.tup (by show 2 ≤ 100000; decide) upd_same (up3.ok.new ht) (.cons (.str s hs) (.cons (dvD.ex (Ex.new ht)) .nil)))) .nil)
    · rintro H3 ⟨x3, acc, hacc, dacc⟩
      rw [← hl, List.take_length] at dacc
      exact q _ H3 x3 (.lst (by rw [dacc.length]; omega) hacc (hB1.new hD) (dacc.le fun b h => .inl h))⟩⟩
theorem vd_itemsT {kvs : List (List Key × V)} {ds : List PyData} (hB : BN B H) (hσ : ∀ x, ((wipe σ [j]).set j (some x))[i]? = some (some (.ref p))) (hj : ∀ x, ((wipe σ [j]).set j (some x))[j]? = some (some x)) (hσ0 : σ[i]? = some (some (.ref p))) (hw : ∀ x, wipe ((wipe σ [j]).set j (some x)) [j] = wipe σ [j])
    (hH : H p = some (.frz od (.dT kvs))) (hnd : (kvs.map Prod.fst).Nodup) (hl : ds.length = kvs.length) (hn : kvs.length ≤ 1000) (hd : ∀ (a : Nat) (k : List Key) (v : V), kvs[a]? = some (k, v) → ∃ (s z : Str) (d : PyData), k = kT s z ∧ s.length ≤ 1000 ∧ z.length ≤ 1000 ∧ Den B H v d ∧ ds[a]? = some (.tuple [.tuple [.str s, .str z], d])) :
    EvD B (tLc (iKeys (tVar i)) (gName j) tYes (tTup (tCons (tVar j) (tCons (tDGet (tVar i) (tVar j)) tNil))) [j]) σ H (.list ds) := fun H1 x Q q => ⟨_, hσ0, p, od, rfl, .inr ⟨kvs, x p _ hH, fun D hD => by
    have hB1 := hB.ok.ex x
    refine lc_it walk_keysT (fun a H3 => Ex H1 H3 ∧ ∃ acc, H3 D = some (.lst acc) ∧ Dens (Add B D) H3 acc (ds.take a)) ⟨Ex.new hD, [], upd_same, .nil⟩ (fun a H3 _ pp => pp.1 p _ (x p _ hH)) ?_ ?_
    · rintro a y H3 H4 ha ⟨x3, acc, hacc, dacc⟩ ⟨rfl, k, v, kq, hkv, rfl, hkq⟩
      obtain ⟨s, z, d, rfl, hs, hz, dv, hds⟩ := hd a k v hkv
      refine ⟨hw _, ?_⟩
      unfold tYes
      simp only [if_true]
      have up3 := upAdd hB1 x3 hD hacc
      have x13 := x.trans x3
      have nkq : ¬ Add B D kq := fun c => by
        rcases c with c | c
        · exact (hB.ex x13).nt kq _ c hkq
        · rw [c, hacc] at hkq
          cases hkq
      refine ⟨_, hj _, _, hσ _, _, hj _, p, v, rfl, ?_, by show 2 ≤ sizeLine; decide, fun t ht => ⟨acc, Ex.new ht D _ hacc, ?_, ?_⟩⟩
      · rw [← valV_get hnd hkv]
        exact .inr ⟨kvs, kT s z, kq, .inr ⟨od, x13 p _ hH⟩, rfl, hkq, rfl⟩
      · rw [dacc.length]
        exact Nat.lt_of_le_of_lt (show _ ≤ 1000 by rw [List.length_take]; omega) (by decide)
      · have kw : Kp (Add B D) (upd H4 t (.tup [.ref kq, v])) (upd (upd H4 t (.tup [.ref kq, v])) D (.lst (acc ++ [.ref t]))) := (Kp.refl _).wr (.inr rfl)
        refine ⟨(x3.trans (Ex.new ht)).mut hD, _, upd_same, ?_⟩
        rw [take_succ_of hds]
        have dvD := (dv.ex x).up up3
        have dk : Den (Add B D) H4 (.ref kq) (.tuple [.str s, .str z]) := .tup (by show 2 ≤ 100000; decide) hkq nkq (.cons (.str s hs) (.cons (.str z hz) .nil))
        exact ((dacc.ex (Ex.new ht)).kp kw).append (.cons (Den.kp kw (.tup (by show 2 ≤ 100000; decide) upd_same (up3.ok.new ht) (.cons (dk.ex (Ex.new ht)) (.cons (dvD.ex (Ex.new ht)) .nil)))) .nil)
    · rintro H3 ⟨x3, acc, hacc, dacc⟩
      rw [← hl, List.take_length] at dacc
      exact q _ H3 x3 (.lst (by rw [dacc.length]; omega) hacc (hB1.new hD) (dacc.le fun b h => .inl h))⟩⟩
/-- the dict at p locked meanwhile -/
theorem vd_lock {t : TE} {u : HO} {d : PyData} (hp : H p = some u) (hm : Mut (some u)) (h : ∀ od, EvD B t σ (upd H p (.frz od u)) d) (Q : VK) (q : ∀ v H1, Ex H H1 → Den B H1 v d → Q v H1) : tLockE t σ H Q := by
  refine ⟨p, u, hp, hm, fun od => h od _ (Ex.refl _) _ fun v H1 x dv => ⟨x p _ upd_same, q v _ ?_ (dv.keepF fun b o hb _ nf => ?_)⟩⟩
  · intro b o hb
    by_cases e : b = p
    · rw [e] at hb ⊢
      rw [upd_same, ← hp]
      exact hb
    · rw [upd_ne e]
      exact x b o (by rw [upd_ne e]; exact hb)
  · by_cases e : b = p
    · rw [e, x p _ upd_same] at hb
      exact absurd (Option.some.inj hb).symm (nf od u)
    · rw [upd_ne e]
      exact hb
end
end G
set_option maxHeartbeats 400000
/-! _law_declarations, _law_attributes -/
namespace G
open PySem PySem.Spec PyProof.Rows L2 Evl
section
variable {K : PySem.W.Frag} {B : Addr → Prop} {ds ca la : Addr} {c c1 c2 : Nat} {σ : L2.St} {H H' : Hp} {te ta tb tv ty : TE} {φ ψ : PyData → Prop} {d : PyData} {D : Ends} {tw tu : TS}
/-- for k in range(e), e drawn -/
theorem zs_forR {m j n : Nat} (h : EvS B ds ca la c te σ H fun d => ∃ r, r < m ∧ d = .int (r : Nat)) (hm : m ≤ 100000) (S : StAt ds ca la n H) (hn : n + c ≤ 100000000)
    (k : ∀ r n' H1, r < m → Kp (StB ds la) H H1 → StAt ds ca la n' H1 → n' ≤ n + c → ∃ Pv : Nat → L2.St → Hp → Prop, Pv 0 σ H1 ∧
      (∀ i σ' H', i < r → Pv i σ' H' → ∀ D' : Ends, D'.rt = D.rt → D'.nx = Pv (i + 1) → D'.ct = Pv (i + 1) → tu D' (σ'.set j (some (.int (i : Nat)))) H') ∧ (∀ σ' H', Pv r σ' H' → tw D σ' H')) : tSeq (tFor (iRng1 (tCons te tNil)) (gName j) tu) tw D σ H :=
  h n H (Kp.refl H) S hn _ fun v d n' H1 k1 S1 hn1 hd dv => by
    obtain ⟨r, hr, rfl⟩ := hd
    rw [dv.int']
    refine ⟨(r : Nat), rfl, by omega, by omega, ?_⟩
    obtain ⟨Pv, p0, pt, pd⟩ := k r n' H1 hr k1 S1 hn1
    refine for_it (n := r) (by exact walk_range) Pv p0 (fun _ _ _ _ _ => trivial) ?_ pd
    rintro i x σ' H2 H3 hi p ⟨rfl, rfl⟩
    have e : (0 : Int) + (i : Nat) = (i : Nat) := Int.zero_add _
    show tu _ (σ'.set j (some (.int ((0 : Int) + (i : Nat))))) H3
    rw [e]
    exact pt i σ' H3 hi p _ rfl rfl rfl
theorem zs_dputK {i n : Nat} {a : Addr} {kvs : List (Key × V)} {L : List Str} (hv : EvS B ds ca la c1 tv σ H φ) (hk : EvS B ds ca la c2 ty σ H fun d => ∃ s ∈ L, d = .str s) (hσ : σ[i]? = some (some (.ref a))) (ha : H a = some (.dK kvs)) (na : ¬ StB ds la a) (hl : kvs.length ≤ 1000)
    (hS : ∀ b, StB ds la b → B b) (S : StAt ds ca la n H) (hn : n + (c1 + c2) ≤ 100000000)
    (k : ∀ v d s n' H1, Kp (StB ds la) H H1 → StAt ds ca la n' H1 → n' ≤ n + (c1 + c2) → φ d → Den B H1 v d → s ∈ L → H1 a = some (.dK kvs) → D.nx σ (upd H1 a (.dK (putK kvs (.inr s) v)))) : sDPut (tVar i) ty tv D σ H :=
  hv n H (Kp.refl H) S (by omega) _ fun v d n1 H1 k1 S1 hn1 hd dv => ⟨_, hσ, hk n1 H1 k1 S1 (by omega) _ fun u e n2 H2 k2 S2 hn2 he du => by
    obtain ⟨s, hs, rfl⟩ := he
    rw [du.str']
    have h2 := (k1.trans k2).ne ha na
    exact ⟨a, _, rfl, DPut.k (k := .inr s) h2 (small1000 hl), k v d s n2 H2 (k1.trans k2) S2 (by omega) hd (dv.kp (k2.le hS)) hs h2⟩⟩
theorem zs_dputT {i n : Nat} {a : Addr} {kvs : List (List Key × V)} (hv : EvS B ds ca la c1 tv σ H φ) (hk : EvS B ds ca la c2 ty σ H NameD) (hσ : σ[i]? = some (some (.ref a))) (ha : H a = some (.dT kvs)) (na : ¬ StB ds la a) (hl : kvs.length ≤ 1000)
    (hS : ∀ b, StB ds la b → B b) (S : StAt ds ca la n H) (hn : n + (c1 + c2) ≤ 100000000)
    (k : ∀ v d s z n' H1, Kp (StB ds la) H H1 → StAt ds ca la n' H1 → n' ≤ n + (c1 + c2) → φ d → Den B H1 v d → s ∈ PFX → z ∈ LOC → H1 a = some (.dT kvs) → D.nx σ (upd H1 a (.dT (putK kvs (kT s z) v)))) : sDPut (tVar i) ty tv D σ H :=
  hv n H (Kp.refl H) S (by omega) _ fun v d n1 H1 k1 S1 hn1 hd dv => ⟨_, hσ, hk n1 H1 k1 S1 (by omega) _ fun u e n2 H2 k2 S2 hn2 he du => by
    obtain ⟨s, z, hs, hz, rfl⟩ := he
    obtain ⟨b, rfl, hb⟩ := tupKey du
    have h2 := (k1.trans k2).ne ha na
    exact ⟨a, _, rfl, DPut.t (k := kT s z) h2 hb (small1000 hl), k v d s z n2 H2 (k1.trans k2) S2 (by omega) hd (dv.kp (k2.le hS)) hs hz h2⟩⟩
theorem vs_more (h : EvS B ds ca la c te σ H φ) (hc : c ≤ c1) : EvS B ds ca la c1 te σ H φ := fun n H1 k S hn Q q => h n H1 k S (by omega) Q fun v d n' H2 k2 S2 hn2 hd dv => q v d n' H2 k2 S2 (by omega) hd dv
theorem vs_if {t : TT} {b : Bool} (h : ∀ H1, Kp (StB ds la) H H1 → EvT t σ H1 b) (h1 : b = true → EvS B ds ca la c ta σ H φ) (h2 : b = false → EvS B ds ca la c tb σ H φ) : EvS B ds ca la c (tIf t ta tb) σ H φ := fun n H1 k S hn Q q => h H1 k H1 (Ex.refl H1) _ fun H2 x2 => by
  cases b with
  | true => exact iteT (h1 rfl n H2 (k.trans (.of x2)) (S.exx x2) hn Q fun v d n' H3 k3 S3 hn3 hd dv => q v d n' H3 ((Kp.of x2).trans k3) S3 hn3 hd dv)
  | false => exact iteF (h2 rfl n H2 (k.trans (.of x2)) (S.exx x2) hn Q fun v d n' H3 k3 S3 hn3 hd dv => q v d n' H3 ((Kp.of x2).trans k3) S3 hn3 hd dv)
end
theorem StAt.updP {ds ca la p : Addr} {n : Nat} {H : Hp} {o : HO} (h : StAt ds ca la n H) (h1 : p ≠ ds) (h2 : p ≠ ca) (h3 : p ≠ la) : StAt ds ca la n (upd H p o) := by
  obtain ⟨cs, ls, a, b, c, d⟩ := h.ex
  exact ⟨by rw [upd_ne h1.symm]; exact h.st, ⟨cs, ls, by rw [upd_ne h2.symm]; exact a, by rw [upd_ne h3.symm]; exact b, c, d⟩, h.n1, h.n2, h.n3⟩
theorem BN.updP {B : Addr → Prop} {H : Hp} {p : Addr} {o : HO} (h : BN B H) (n : ∀ xs, o ≠ .tup xs) : BN B (upd H p o) := by
  constructor
  · intro b q z
    by_cases e : b = p
    · rw [e, upd_same] at z; cases z
    · rw [upd_ne e] at z; exact h.ok b q z
  · intro b xs q z
    by_cases e : b = p
    · rw [e, upd_same] at z; cases z; exact n xs rfl
    · rw [upd_ne e] at z; exact h.nt b xs q z
theorem BOk.lockP {B : Addr → Prop} {H : Hp} {p : Addr} {u o : HO} (h : BOk B H) (hp : H p = some u) : BOk B (upd H p o) := fun b q z => by
  by_cases e : b = p
  · rw [e, upd_same] at z; cases z
  · rw [upd_ne e] at z; exact h b q z
theorem vd_lockD {B : Addr → Prop} {σ : L2.St} {H : Hp} {p : Addr} {t : TE} {u : HO} {d : PyData} (hp : H p = some u) (hm : Mut (some u)) (h : ∀ H1, Ex H H1 → ∀ od, EvD B t σ (upd H1 p (.frz od u)) d) : EvD B (tLockE t) σ H d := fun H1 x Q q => vd_lock (x p _ hp) hm (h H1 x) Q q
def ADV : List Str := ["u", "v", "u", "w.x", "", "u:1"].map Str.ofString
def VAL : List Str := ["", "x", "x y", "1"].map Str.ofString
def DeclD (m : Nat) (d : PyData) : Prop := ∃ ps : List (Str × Str), d = .tuple (ps.map fun p => .tuple [.str p.1, .str p.2]) ∧ (ps.map Prod.fst).Nodup ∧ (∀ p ∈ ps, p.1 ∈ PFX ∧ p.2 ∈ ADV) ∧ ps.length ≤ m
def ValD (d : PyData) : Prop := NameD d ∨ ∃ s ∈ VAL, d = .str s
def AttrD (m : Nat) (d : PyData) : Prop := ∃ ps : List ((Str × Str) × PyData), d = .tuple (ps.map fun p => .tuple [.tuple [.str p.1.1, .str p.1.2], p.2]) ∧ (ps.map Prod.fst).Nodup ∧ (∀ p ∈ ps, p.1.1 ∈ PFX ∧ p.1.2 ∈ LOC ∧ ValD p.2) ∧ ps.length ≤ m
theorem short_of {L : List Str} (h : (L.all fun s => decide (s.length ≤ 1000)) = true) {s : Str} (hs : s ∈ L) : s.length ≤ 1000 := of_decide_eq_true (List.all_eq_true.mp h s hs)
theorem shP {s : Str} (h : s ∈ PFX) : s.length ≤ 1000 := short_of (by decide +kernel) h
theorem shL {s : Str} (h : s ∈ LOC) : s.length ≤ 1000 := short_of (by decide +kernel) h
theorem shA {s : Str} (h : s ∈ ADV) : s.length ≤ 1000 := short_of (by decide +kernel) h
/-- the list form of what a dict holds -/
theorem list_of {α β : Type} {R : α → β → Prop} : ∀ {xs : List α}, (∀ x ∈ xs, ∃ y, R x y) → ∃ ys : List β, ys.length = xs.length ∧ ∀ (i : Nat) (x : α), xs[i]? = some x → ∃ y, ys[i]? = some y ∧ R x y
  | [], _ => ⟨[], rfl, fun i x h => by simp at h⟩
  | x :: r, h => by
    obtain ⟨y, hy⟩ := h x (List.mem_cons_self ..)
    obtain ⟨ys, h1, h2⟩ := list_of (xs := r) fun z hz => h z (List.mem_cons_of_mem _ hz)
    refine ⟨y :: ys, by rw [List.length_cons, h1]; rfl, fun i z hz => ?_⟩
    cases i with
    | zero =>
      have e : x = z := by simpa using hz
      exact ⟨y, rfl, e ▸ hy⟩
    | succ i =>
      obtain ⟨u, a, b⟩ := h2 i z (by simpa using hz)
      exact ⟨u, by simpa using a, b⟩
section
variable {P : Program} {w : World} {K : PySem.W.Frag} {mg : Str → Option Value} {base : Heap}
theorem r_declarations (T : Txt K mg) : Cal P w K mg base CX0 4 "_law_declarations" (spS 5 (fun (_ : Unit) => [.int 2]) (fun _ => True) fun _ d => DeclD 2 d) := by
  refine calS (k := 3) T.f_law_declarations sc_law_declarations (fun _ => rfl) ?_
  intro f cdv A outer s H ws E B ds ca la n _ hr hB hS St hn dv hp D q
  have hu := hu_of hr
  refine ⟨_, pss_cons (ps_set (i := 2) sc_law_declarations.nd rfl (Or.inr rfl) pe_dnewK)
    (pss_cons (ps_for PassesOwn.never rfl (pi_range1 (by rfl) T.b_range (pa_cons (pe_cal (r_draw T) (hr.mono (by decide)) (pa_cons (pv 0) (pa_cons (pe_op op_add (pv 1) pe_int) pa_nil))) pa_nil)) (pg_name (i := 3) sc_law_declarations.nd rfl (Or.inl rfl))
      (pss_one (ps_dput hu (pv 2) (pe_cal (r_prefix T) hr (pa_cons (pv 0) pa_nil)) (pe_ix ix_list (pe_lst (pa_cons pe_str (pa_cons pe_str (pa_cons pe_str (pa_cons pe_str (pa_cons pe_str (pa_cons pe_str pa_nil))))))) (pe_cal (r_draw T) (hr.mono (by decide)) (pa_cons (pv 0) (pa_cons pe_int pa_nil))) (fun _ _ => rfl)) rfl)))
    (pss_one (ps_ret (pe_callTy call_tuple_of (by rfl) T.b_tuple (by decide +kernel) (pa_cons (pe_lock (pe_lc (own := [("prefix", 4)]) (g := gName 4) (tt := tYes) (te := tTup (tCons (tVar 4) (tCons (tDGet (tVar 2) (tVar 4)) tNil))) (by rfl) sc_law_declarations.nd (pi_keys (pv 2))
      (blkOk_by (own := [("prefix", 4)]) (N := n_law_declarations) (sc := defScope s_law_declarations) (by decide +kernel)) (fun _ _ _ _ _ => pg_name (i := 4) sc_law_declarations.nd rfl (Or.inl rfl)) (fun _ _ _ _ _ => pts_nil)
      (fun _ _ _ _ _ => pe_tup (pa_cons (pv 4) (pa_cons (pe_dget hu (pv 2) (pv 4) (fun _ _ => rfl)) pa_nil))))) pa_nil))))), ?_⟩
  obtain ⟨v1, rfl, d1⟩ := dv.one'
  rw [d1.int']
  intro p hp0
  have nds : ds ≠ p := ne_of_none St.st hp0
  obtain ⟨cs, ls, hca, hla, _, _⟩ := St.ex
  have nla : la ≠ p := ne_of_none hla hp0
  have nca : ca ≠ p := ne_of_none hca hp0
  have St1 := St.exx (Ex.new (o := .dK []) hp0)
  have hS1 : ∀ b, StB ds la b → Add B p b := fun b h => .inl (hS b h)
  have hB1 : BN (Add B p) (upd H p (.dK [])) := (hB.ex (Ex.new hp0)).add upd_same fun xs z => by cases z
  have np : ¬ StB ds la p := fun z => z.elim (fun e => nds e.symm) fun e => nla e.symm
  show tSeq _ _ D [some (.ref ds), some (.int 2), some (.ref p), none, none] _
  refine zs_forR (B := Add B p) (m := 3) (vs_draw (m := 3) rfl (fun H1 k1 => vi_op0 (φ := fun i => i = 2) (ψ := fun j => j = 1) (vi_var rfl rfl) (vi_c rfl) (by rintro i j rfl rfl; rfl)) (by decide) (by decide)) (by decide) St1 (by omega) fun r n1 H1 hr1 k1 S1 hn1 => ?_
  refine ⟨fun i σ' H' => ∃ y kvs n', σ' = [some (.ref ds), some (.int 2), some (.ref p), y, none] ∧ Kp (fun b => StB ds la b ∨ b = p) (upd H p (.dK [])) H' ∧ StAt ds ca la n' H' ∧ n' ≤ n + 1 + 2 * i ∧ H' p = some (.dK kvs) ∧ kvs.length ≤ i ∧ (kvs.map Prod.fst).Nodup ∧ (∀ kv ∈ kvs, ∃ s e, s ∈ PFX ∧ e ∈ ADV ∧ kv = (.inr s, .str e)) ∧ BN (Add B p) H', ?_, ?_, ?_⟩
  · exact ⟨none, [], n1, rfl, k1.le fun b h => .inl h, S1, by omega, k1.ne upd_same np, Nat.le_refl _, List.nodup_nil, (fun kv h => by cases h), hB1.kps k1 S1⟩
  · rintro i σ' H' hi ⟨y, kvs, n', rfl, kk, S', hn', hH, hl, hnd, hall, hBN⟩ D' hrt hnx hct
    refine zs_dputK (B := Add B p) (φ := fun d => d ∈ ADV.map PyData.str) (L := PFX) (c1 := 1) (c2 := 1) (vs_pick hS1 (xs := ADV.map PyData.str) (fun H2 k2 => vd_lst (hBN.ok.kp' k2) (va_cons vd_str (va_cons vd_str (va_cons vd_str (va_cons vd_str (va_cons vd_str (va_cons vd_str va_nil)))))) (by decide)) fun H2 k2 => vs_draw (m := 6) rfl (fun H3 k3 => vi_c rfl) (by decide) (by decide))
      (vs_call () hBN hS1 rfl (fun H2 k2 => va_nil) trivial) rfl hH np (by omega) hS1 S' (by omega) fun v d s n2 H2 k2 S2 hn2 hd dv hs hH2 => ?_
    obtain ⟨e, he, rfl⟩ := List.mem_map.mp hd
    rw [dv.str', hnx]
    refine ⟨some (.int (i : Nat)), putK kvs (.inr s) (.str e), n2, rfl, (kk.trans (k2.le fun b h => .inl h)).wr (.inr rfl), ?_, by omega, upd_same, ?_, keys_put _ _ _ hnd, ?_, ?_⟩
    · exact S2.updP (fun e => nds e.symm) (fun e => nca e.symm) fun e => nla e.symm
    · have := length_putK kvs (Sum.inr s) (.str e)
      omega
    · intro kv hkv
      rcases mem_put hkv with q | q
      · exact ⟨s, e, hs, he, q⟩
      · exact hall kv q
    · exact (hBN.kps k2 S2).updP fun xs z => by cases z
  · rintro σ' H' ⟨y, kvs, n', rfl, kk, S', hn', hH, hl, hnd, hall, hBN⟩
    have hlen : kvs.length ≤ 2 := by omega
    obtain ⟨ps, hpl, hps⟩ := list_of (R := fun (kv : Key × V) (q : Str × Str) => q.1 ∈ PFX ∧ q.2 ∈ ADV ∧ kv = (.inr q.1, .str q.2)) (xs := kvs) fun kv h => by
      obtain ⟨s, e, h1, h2, h3⟩ := hall kv h
      exact ⟨(s, e), h1, h2, h3⟩
    have hkey : kvs.map Prod.fst = ps.map fun q => Sum.inr q.1 := by
      apply List.ext_getElem?
      intro i
      rw [List.getElem?_map, List.getElem?_map]
      cases e : kvs[i]? with
      | none =>
        have : ps[i]? = none := by rw [List.getElem?_eq_none_iff] at e ⊢; omega
        rw [this]; rfl
      | some kv =>
        obtain ⟨q, h1, h2⟩ := hps i kv e
        rw [h1, h2.2.2]; rfl
    have hBB : BOk B H' := fun b hb => hBN.ok b (.inl hb)
    have kH : Kp (StB ds la) H H' := ⟨fun b o h nb => kk.keep b o (by rw [upd_ne (ne_of_none h hp0)]; exact h) fun z => z.elim nb (ne_of_none h hp0), fun b h => by
      have := kk.dom b h
      by_cases e : b = p
      · rw [e]; exact hp0
      · rw [upd_ne e] at this; exact this⟩
    refine (vd_tupOf hBB (vd_lockD hH trivial fun H1 x1 od => vd_itemsK (ds := ps.map fun q => .tuple [.str q.1, .str q.2]) ((hBB.ex x1).lockP (x1 p _ hH)) (fun _ => rfl) (fun _ => rfl) rfl (fun _ => rfl) upd_same hnd (by rw [List.length_map, hpl]) (by omega) ?_)) H' (Ex.refl H') _ fun v H2 x2 dv => q v _ n' H2 (kH.trans (.of x2)) (S'.exx x2) (by omega) ?_ dv
    · intro a k v hkv
      obtain ⟨q, h1, h2, h3, h4⟩ := hps a _ hkv
      cases h4
      exact ⟨q.1, .str q.2, rfl, shP h2, .str _ (shA h3), by rw [List.getElem?_map, h1]; rfl⟩
    · refine ⟨ps, rfl, ?_, ?_, by omega⟩
      · rw [hkey] at hnd
        have e : ps.map (fun q => (Sum.inr q.1 : Key)) = (ps.map Prod.fst).map Sum.inr := by rw [List.map_map]; rfl
        rw [e] at hnd
        exact List.Pairwise.imp (fun h z => h (by rw [z])) (List.pairwise_map.mp hnd)
      · intro pq hpq
        obtain ⟨i, hi⟩ := List.getElem?_of_mem hpq
        have : i < kvs.length := by rw [← hpl]; exact (List.getElem?_eq_some_iff.mp hi).1
        obtain ⟨q2, h1, h2, h3, _⟩ := hps i _ (List.getElem?_eq_getElem this)
        rw [hi] at h1
        cases h1
        exact ⟨h2, h3⟩
theorem vs_eqI {B : Addr → Prop} {ds ca la : Addr} {c m : Nat} {σ : L2.St} {H : Hp} {te : TE} {j : Int} (h : EvS B ds ca la c te σ H fun d => ∃ r, r < m ∧ d = .int (r : Nat)) : EvS B ds ca la c (tOp rEq te (tC (.int j))) σ H fun d => ∃ b, d = .bool b := fun n H1 k S hn Q q =>
  h n H1 k S hn _ fun v d n' H2 k2 S2 hn2 hd dv => by
    obtain ⟨r, _, rfl⟩ := hd
    rw [dv.int']
    refine ⟨rfl, ?_⟩
    rw [dec_int, Bool.beq_eq_decide_eq]
    exact q _ _ n' H2 k2 S2 hn2 ⟨_, rfl⟩ (.bl _)
theorem shV {s : Str} (h : s ∈ VAL) : s.length ≤ 1000 := short_of (by decide +kernel) h
theorem r_attributes (T : Txt K mg) : Cal P w K mg base CX0 5 "_law_attributes" (spS 11 (fun (_ : Unit) => [.int 2]) (fun _ => True) fun _ d => AttrD 2 d) := by
  refine calS (k := 4) T.f_law_attributes sc_law_attributes (fun _ => rfl) ?_
  intro f cdv A outer s H ws E B ds ca la n _ hr hB hS St hn dv hp D q
  have hu := hu_of hr
  refine ⟨_, pss_cons (ps_set (i := 2) sc_law_attributes.nd rfl (Or.inr rfl) pe_dnewT)
    (pss_cons (ps_for PassesOwn.never rfl (pi_range1 (by rfl) T.b_range (pa_cons (pe_cal (r_draw T) (hr.mono (by decide)) (pa_cons (pv 0) (pa_cons (pe_op op_add (pv 1) pe_int) pa_nil))) pa_nil)) (pg_name (i := 3) sc_law_attributes.nd rfl (Or.inl rfl))
      (pss_cons (ps_set (i := 4) sc_law_attributes.nd rfl (Or.inl rfl) (pe_cmpR op_eq (pe_cal (r_draw T) (hr.mono (by decide)) (pa_cons (pv 0) (pa_cons pe_int pa_nil))) pe_int (nomark _)))
      (pss_one (ps_dput hu (pv 2) (pe_cal (r_name T) hr (pa_cons (pv 0) pa_nil)) (pe_ifExp (pt_val (pv 4)) (pe_cal (r_name T) hr (pa_cons (pv 0) pa_nil)) (pe_ix ix_list (pe_lst (pa_cons pe_str (pa_cons pe_str (pa_cons pe_str (pa_cons pe_str pa_nil))))) (pe_cal (r_draw T) (hr.mono (by decide)) (pa_cons (pv 0) (pa_cons pe_int pa_nil))) (fun _ _ => rfl))) rfl))))
    (pss_one (ps_ret (pe_callTy call_tuple_of (by rfl) T.b_tuple (by decide +kernel) (pa_cons (pe_lock (pe_lc (own := [("name", 5)]) (g := gName 5) (tt := tYes) (te := tTup (tCons (tVar 5) (tCons (tDGet (tVar 2) (tVar 5)) tNil))) (by rfl) sc_law_attributes.nd (pi_keys (pv 2))
      (blkOk_by (own := [("name", 5)]) (N := n_law_attributes) (sc := defScope s_law_attributes) (by decide +kernel)) (fun _ _ _ _ _ => pg_name (i := 5) sc_law_attributes.nd rfl (Or.inl rfl)) (fun _ _ _ _ _ => pts_nil)
      (fun _ _ _ _ _ => pe_tup (pa_cons (pv 5) (pa_cons (pe_dget hu (pv 2) (pv 5) (fun _ _ => rfl)) pa_nil))))) pa_nil))))), ?_⟩
  obtain ⟨v1, rfl, d1⟩ := dv.one'
  rw [d1.int']
  intro p hp0
  have nds : ds ≠ p := ne_of_none St.st hp0
  obtain ⟨cs, ls, hca, hla, _, _⟩ := St.ex
  have nla : la ≠ p := ne_of_none hla hp0
  have nca : ca ≠ p := ne_of_none hca hp0
  have St1 := St.exx (Ex.new (o := .dT []) hp0)
  have hS1 : ∀ b, StB ds la b → Add B p b := fun b h => .inl (hS b h)
  have hB1 : BN (Add B p) (upd H p (.dT [])) := (hB.ex (Ex.new hp0)).add upd_same fun xs z => by cases z
  have np : ¬ StB ds la p := fun z => z.elim (fun e => nds e.symm) fun e => nla e.symm
  show tSeq _ _ D [some (.ref ds), some (.int 2), some (.ref p), none, none, none] _
  refine zs_forR (B := Add B p) (m := 3) (vs_draw (m := 3) rfl (fun H1 k1 => vi_op0 (φ := fun i => i = 2) (ψ := fun j => j = 1) (vi_var rfl rfl) (vi_c rfl) (by rintro i j rfl rfl; rfl)) (by decide) (by decide)) (by decide) St1 (by omega) fun r n1 H1 hr1 k1 S1 hn1 => ?_
  refine ⟨fun i σ' H' => ∃ y y2 kvs n', σ' = [some (.ref ds), some (.int 2), some (.ref p), y, y2, none] ∧ Kp (fun b => StB ds la b ∨ b = p) (upd H p (.dT [])) H' ∧ StAt ds ca la n' H' ∧ n' ≤ n + 1 + 5 * i ∧ H' p = some (.dT kvs) ∧ kvs.length ≤ i ∧ (kvs.map Prod.fst).Nodup ∧ (∀ kv ∈ kvs, ∃ s z d, s ∈ PFX ∧ z ∈ LOC ∧ kv.1 = kT s z ∧ Den (Add B p) H' kv.2 d ∧ ValD d) ∧ BN (Add B p) H', ?_, ?_, ?_⟩
  · exact ⟨none, none, [], n1, rfl, k1.le fun b h => .inl h, S1, by omega, k1.ne upd_same np, Nat.le_refl _, List.nodup_nil, (fun kv h => by cases h), hB1.kps k1 S1⟩
  · rintro i σ' H' hi ⟨y, y2, kvs, n', rfl, kk, S', hn', hH, hl, hnd, hall, hBN⟩ D' hrt hnx hct
    refine zs_asg (B := Add B p) (vs_eqI (m := 3) (vs_draw (m := 3) rfl (fun H2 k2 => vi_c rfl) (by decide) (by decide))) S' (by omega) fun v d n2 H2 k2 S2 hn2 hd dv => ?_
    obtain ⟨bq, rfl⟩ := hd
    rw [dv.bl']
    have hBN2 := hBN.kps k2 S2
    have hH2 := k2.ne hH np
    refine zs_dputT (B := Add B p) (φ := ValD) (c1 := 2) (c2 := 2) (vs_if (b := bq) (fun H3 k3 => et_B (ev_var rfl)) (fun _ => vs_imp (vs_call () hBN2 hS1 rfl (fun H3 k3 => va_nil) trivial) fun d h => .inl h)
      (fun _ => vs_imp (φ := fun d => d ∈ VAL.map PyData.str) (vs_more (c := 1) (vs_pick hS1 (xs := VAL.map PyData.str) (fun H3 k3 => vd_lst (hBN2.ok.kp' k3) (va_cons vd_str (va_cons vd_str (va_cons vd_str (va_cons vd_str va_nil)))) (by decide)) fun H3 k3 => vs_draw (m := 4) rfl (fun H4 k4 => vi_c rfl) (by decide) (by decide)) (by decide)) fun d h => by
        obtain ⟨e, he, rfl⟩ := List.mem_map.mp h
        exact .inr ⟨e, he, rfl⟩))
      (vs_call () hBN2 hS1 rfl (fun H3 k3 => va_nil) trivial) rfl hH2 np (by omega) hS1 S2 (by omega) fun v d s z n3 H3 k3 S3 hn3 hd dv hs hz hH3 => ?_
    rw [hnx]
    have kw : Kp (Add B p) H3 (upd H3 p (.dT (putK kvs (kT s z) v))) := (Kp.refl H3).wr (.inr rfl)
    refine ⟨some (.int (i : Nat)), some (.bl bq), putK kvs (kT s z) v, n3, rfl, ((kk.trans (k2.le fun b h => .inl h)).trans (k3.le fun b h => .inl h)).wr (.inr rfl), ?_, by omega, upd_same, ?_, keys_put _ _ _ hnd, ?_, ?_⟩
    · exact S3.updP (fun e => nds e.symm) (fun e => nca e.symm) fun e => nla e.symm
    · have := length_putK kvs (kT s z) v
      omega
    · intro kv hkv
      rcases mem_put hkv with e | e
      · exact ⟨s, z, d, hs, hz, by rw [e], by rw [e]; exact dv.kp kw, hd⟩
      · obtain ⟨s', z', d', a1, a2, a3, a4, a5⟩ := hall kv e
        exact ⟨s', z', d', a1, a2, a3, ((a4.kp (k2.le hS1)).kp (k3.le hS1)).kp kw, a5⟩
    · exact (hBN2.kps k3 S3).updP fun xs z => by cases z
  · rintro σ' H' ⟨y, y2, kvs, n', rfl, kk, S', hn', hH, hl, hnd, hall, hBN⟩
    have hlen : kvs.length ≤ 2 := by omega
    obtain ⟨ps, hpl, hps⟩ := list_of (R := fun (kv : List Key × V) (q : (Str × Str) × PyData) => q.1.1 ∈ PFX ∧ q.1.2 ∈ LOC ∧ kv.1 = kT q.1.1 q.1.2 ∧ Den (Add B p) H' kv.2 q.2 ∧ ValD q.2) (xs := kvs) fun kv h => by
      obtain ⟨s, z, d, h1, h2, h3, h4, h5⟩ := hall kv h
      exact ⟨((s, z), d), h1, h2, h3, h4, h5⟩
    have hkey : kvs.map Prod.fst = (ps.map Prod.fst).map fun q => kT q.1 q.2 := by
      apply List.ext_getElem?
      intro i
      rw [List.getElem?_map, List.getElem?_map, List.getElem?_map]
      cases e : kvs[i]? with
      | none =>
        have : ps[i]? = none := by rw [List.getElem?_eq_none_iff] at e ⊢; omega
        rw [this]; rfl
      | some kv =>
        obtain ⟨q, h1, h2⟩ := hps i kv e
        rw [h1]
        show some kv.1 = some (kT q.1.1 q.1.2)
        rw [h2.2.2.1]
    have hBB : BN B H' := ⟨fun b hb => hBN.ok b (.inl hb), fun b xs hb => hBN.nt b xs (.inl hb)⟩
    have kH : Kp (StB ds la) H H' := ⟨fun b o h nb => kk.keep b o (by rw [upd_ne (ne_of_none h hp0)]; exact h) fun z => z.elim nb (ne_of_none h hp0), fun b h => by
      have := kk.dom b h
      by_cases e : b = p
      · rw [e]; exact hp0
      · rw [upd_ne e] at this; exact this⟩
    refine (vd_tupOf hBB.ok (vd_lockD hH trivial fun H1 x1 od => vd_itemsT (ds := ps.map fun q => .tuple [.tuple [.str q.1.1, .str q.1.2], q.2]) ((hBB.ex x1).updP fun xs z => by cases z) (fun _ => rfl) (fun _ => rfl) rfl (fun _ => rfl) upd_same hnd (by rw [List.length_map, hpl]) (by omega) ?_)) H' (Ex.refl H') _ fun v H2 x2 dv => q v _ n' H2 (kH.trans (.of x2)) (S'.exx x2) (by omega) ?_ dv
    · intro a k v hkv
      obtain ⟨q, h1, h2, h3, h4, h5, h6⟩ := hps a _ hkv
      refine ⟨q.1.1, q.1.2, q.2, h4, shP h2, shL h3, ?_, by rw [List.getElem?_map, h1]; rfl⟩
      have dB : Den B H1 v q.2 := (h5.ex x1).le fun b h => .inl h
      have pn : H1 p = some (.dT kvs) := x1 p _ hH
      exact h5.ex x1 |>.keep' fun b o hb nb => ⟨by rw [upd_ne fun e => nb (.inr e)]; exact hb, fun z => nb (.inl z)⟩
    · refine ⟨ps, rfl, ?_, ?_, by omega⟩
      · rw [hkey] at hnd
        exact List.Pairwise.imp (fun h z => h (by rw [z])) (List.pairwise_map.mp hnd)
      · intro pq hpq
        obtain ⟨i, hi⟩ := List.getElem?_of_mem hpq
        have : i < kvs.length := by rw [← hpl]; exact (List.getElem?_eq_some_iff.mp hi).1
        obtain ⟨q2, h1, h2, h3, _, _, h6⟩ := hps i _ (List.getElem?_eq_getElem this)
        rw [hi] at h1
        cases h1
        exact ⟨h2, h3, h6⟩
end
end G
set_option maxHeartbeats 400000
/-! a tree of elements has no fault; sizes -/
namespace G
open PySem PySem.Spec PyProof.Rows L2 Evl
mutual
/-- k levels at most, n elements, the holes -/
inductive Gt : Nat → PyData → Nat → List Str → Prop
  | mk {k n : Nat} {d : PyData} {hs : List Str} : itemOf d = none → Gts k (kids (kid d 4)) n hs → Gt (k + 1) d (n + 1) hs
inductive Gts : Nat → List PyData → Nat → List Str → Prop
  | nil {k : Nat} : Gts k [] 0 []
  | text {k n : Nat} {c : PyData} {r : List PyData} {hs : List Str} : begins c ELE = false → begins c HOL = false → Gts k r n hs → Gts k (c :: r) n hs
  | hole {k n : Nat} {c : PyData} {r : List PyData} {hs : List Str} : begins c HOL = true → Gts k r n hs → Gts k (c :: r) n (strOf (kid c 1) :: hs)
  | elem {k m n : Nat} {c : PyData} {r : List PyData} {h1 h2 : List Str} : begins c ELE = true → Gt k c m h1 → Gts k r n h2 → Gts k (c :: r) (m + n) (h1 ++ h2)
end
inductive Sk : List Ent → Nat → List Str → Prop
  | nil : Sk [] 0 []
  | cons {k n m : Nat} {p : List Nat} {d : PyData} {st : List Ent} {h1 h2 : List Str} : Gt k d n h1 → p.length + k ≤ 8 → Sk st m h2 → Sk ((p, d) :: st) (n + m) (h1 ++ h2)
theorem sk_below {k : Nat} {p : List Nat} {st : List Ent} {m : Nat} {h2 : List Str} (hp : p.length + 1 + k ≤ 8) (hst : Sk st m h2) : ∀ {ds : List PyData} {n : Nat} {hs : List Str} (i : Nat), Gts k ds n hs → ∃ hs', Sk (((inside i ds).map fun e => (p ++ [e.1], e.2)) ++ st) (n + m) (hs' ++ h2) ∧ hs.Perm (holesOf ds ++ hs')
  | [], _, _, i, g => by
    cases g
    exact ⟨[], by rw [Nat.zero_add]; exact hst, List.Perm.refl _⟩
  | c :: r, _, _, i, g => by
    cases g with
    | text h1 h3 g' =>
      obtain ⟨hs', a, b⟩ := sk_below hp hst (i + 1) g'
      refine ⟨hs', ?_, ?_⟩
      · unfold inside
        rw [if_neg (by rw [h1]; simp)]
        exact a
      · unfold holesOf
        rw [if_neg (by rw [h3]; simp)]
        exact b
    | @hole _ _ _ _ hs0 h1 g' =>
      obtain ⟨hs', a, b⟩ := sk_below hp hst (i + 1) g'
      refine ⟨hs', ?_, ?_⟩
      · unfold inside
        rw [if_neg (by rw [begins_other h1 ele_hol.symm]; simp)]
        exact a
      · unfold holesOf
        rw [if_pos h1]
        exact b.cons _
    | @elem _ m1 n1 _ _ ha hb h1 gc g' =>
      obtain ⟨hs', a, b⟩ := sk_below hp hst (i + 1) g'
      refine ⟨ha ++ hs', ?_, ?_⟩
      · unfold inside
        rw [if_pos h1, Nat.add_assoc, List.append_assoc]
        exact Sk.cons gc (by rw [List.length_append]; show p.length + 1 + k ≤ 8; exact hp) a
      · unfold holesOf
        rw [if_neg (by rw [begins_other h1 ele_hol]; simp)]
        exact (b.append_left ha).trans (by
          rw [← List.append_assoc, ← List.append_assoc]
          exact (List.perm_append_comm).append_right hs')
theorem addHoles_ok (p : List Nat) : ∀ (hs w : List Str), (w ++ hs).Nodup → addHoles p hs w none = (w ++ hs, none)
  | [], w, _ => by rw [List.append_nil]; rfl
  | h :: r, w, hn => by
    have hm : h ∉ w := fun z => (List.nodup_append.mp hn).2.2 h z h (List.mem_cons_self ..) rfl
    show addHoles p r (w ++ [h]) (if h ∈ w then some p else none) = _
    rw [if_neg hm]
    have e : w ++ h :: r = w ++ [h] ++ r := by simp
    rw [e] at hn ⊢
    exact addHoles_ok p r _ hn
theorem sk_walk : ∀ (N m : Nat) (st : List Ent) (hs w : List Str), Sk st m hs → m ≤ N → (w ++ hs).Nodup → walkF N st w none = none
  | N, m, [], hs, w, _, _, _ => by cases N <;> rfl
  | N, m, (p, d) :: st, hs, w, s, hm, hn => by
    cases s with
    | @cons k n m' _ _ _ h1 h2 g hp s' =>
      cases g with
      | @mk k' n' _ _ hi gs =>
        cases N with
        | zero => omega
        | succ N =>
          obtain ⟨hs', a, b⟩ := sk_below (p := p) (by omega) s' 0 gs
          have e1 : (w ++ (h1 ++ h2)).Perm (w ++ holesIn d ++ (hs' ++ h2)) := by
            have := (b.append_right h2).append_left w
            simpa [List.append_assoc, holesIn] using this
          have hn2 := e1.nodup_iff.mp hn
          have hn3 : (w ++ holesIn d).Nodup := (List.nodup_append.mp hn2).1
          rw [walkF_go (by omega) hi, addHoles_ok p _ _ hn3]
          exact sk_walk N (n' + m') _ _ _ a (by omega) hn2
theorem gt_fault {k n : Nat} {d : PyData} {hs : List Str} (g : Gt k d n hs) (hk : k ≤ 8) (hn : n ≤ 60) (hh : hs.Nodup) : fault d = none := by
  have s : Sk [([], d)] (n + 0) (hs ++ []) := Sk.cons g (by show 0 + k ≤ 8; omega) Sk.nil
  rw [List.append_nil] at s
  exact sk_walk 60 _ _ _ [] s (by omega) (by simpa using hh)
theorem Gts.append {k : Nat} : ∀ {a b : List PyData} {n m : Nat} {h1 h2 : List Str}, Gts k a n h1 → Gts k b m h2 → Gts k (a ++ b) (n + m) (h1 ++ h2)
  | [], b, _, m, _, h2, ga, gb => by
    cases ga
    rw [Nat.zero_add]
    exact gb
  | c :: r, b, _, m, _, h2, ga, gb => by
    cases ga with
    | text h1 h3 g' => exact .text h1 h3 (g'.append gb)
    | hole h1 g' => exact .hole h1 (g'.append gb)
    | elem h1 gc g' =>
      rw [Nat.add_assoc, List.append_assoc]
      exact .elem h1 gc (g'.append gb)
theorem Gt.mono : ∀ {k k' n : Nat} {d : PyData} {hs : List Str}, Gt k d n hs → k ≤ k' → Gt k' d n hs := by
  intro k
  induction k with
  | zero => intro k' n d hs g; cases g
  | succ k ih =>
    intro k' n d hs g hk
    cases g with
    | @mk _ n' _ _ hi gs =>
      obtain ⟨j, rfl⟩ : ∃ j, k' = j + 1 := ⟨k' - 1, by omega⟩
      refine .mk hi ?_
      have key : ∀ {ds : List PyData} {m : Nat} {hs : List Str}, Gts k ds m hs → Gts j ds m hs := by
        intro ds
        induction ds with
        | nil => intro m hs g; cases g; exact .nil
        | cons c r ihr =>
          intro m hs g
          cases g with
          | text h1 h3 g' => exact .text h1 h3 (ihr g')
          | hole h1 g' => exact .hole h1 (ihr g')
          | elem h1 gc g' => exact .elem h1 (ih gc (by omega)) (ihr g')
      exact key gs
end G
set_option maxHeartbeats 400000
/-! what is made: leaves, sizes; elements as the law makes them -/
namespace G
open PySem PySem.Spec PyProof.Rows L2 Evl
def SS : List Str := ["", "p", "q", "r", "pp", "a", "b", "c", "u", "v", "w.x", "u:1", "x", "x y", "1", "t", "some text", "-", "h", "hole", "xmlns", "abcdefgh", "k", "element", "A", "abcdefghi", "xxxxxxxxxxxxxxxxxxxx", "xxxxxxxxxxxxxxxxxxxxx", "H", "n"].map Str.ofString
mutual
/-- the leaves are of those that the law writes -/
def lv : PyData → Bool
  | .none => true
  | .bool _ => true
  | .int i => decide (i = 5) || decide (i = 10 ^ 30)
  | .str s => decide (s ∈ SS)
  | .list xs => lvs xs
  | .tuple xs => lvs xs
  | .dict kvs => kvs.isEmpty
def lvs : List PyData → Bool
  | [] => true
  | x :: r => lv x && lvs r
end
theorem lvs_all : ∀ xs : List PyData, lvs xs = xs.all lv
  | [] => rfl
  | x :: r => by
    show (lv x && lvs r) = (lv x && r.all lv)
    rw [lvs_all r]
/-- sizes of a list of data -/
structure Szs (n k : Nat) (ds : List PyData) : Prop where
  l : lvs ds = true
  b : PyData.bulkAll ds ≤ n
  d : PyData.depthAll ds ≤ k
structure Sz (n k : Nat) (d : PyData) : Prop where
  l : lv d = true
  b : d.bulk ≤ n
  d : d.depth ≤ k
theorem bulk_cons (x : PyData) (r : List PyData) : PyData.bulkAll (x :: r) = x.bulk + 1 + PyData.bulkAll r := by rw [PyData.bulkAll]
theorem depth_cons (x : PyData) (r : List PyData) : PyData.depthAll (x :: r) = max x.depth (PyData.depthAll r) := by rw [PyData.depthAll]
theorem Szs.nil {k : Nat} : Szs 0 k [] := ⟨rfl, Nat.le_of_eq (by rw [PyData.bulkAll]), by rw [PyData.depthAll]; exact Nat.zero_le _⟩
theorem Szs.cons {n m k : Nat} {d : PyData} {ds : List PyData} (h : Sz n k d) (r : Szs m k ds) : Szs (n + 1 + m) k (d :: ds) := ⟨by
    show (lv d && lvs ds) = true
    rw [h.l, r.l]; rfl, by
    have := h.b
    have := r.b
    rw [bulk_cons]
    omega, by
    have := h.d
    have := r.d
    rw [depth_cons]
    omega⟩
theorem Szs.le {n m k j : Nat} {ds : List PyData} (h : Szs n k ds) (a : n ≤ m) (b : k ≤ j) : Szs m j ds := ⟨h.l, Nat.le_trans h.b a, Nat.le_trans h.d b⟩
theorem Sz.le {n m k j : Nat} {d : PyData} (h : Sz n k d) (a : n ≤ m) (b : k ≤ j) : Sz m j d := ⟨h.l, Nat.le_trans h.b a, Nat.le_trans h.d b⟩
theorem bulk_app : ∀ a b : List PyData, PyData.bulkAll (a ++ b) = PyData.bulkAll a + PyData.bulkAll b
  | [], b => by rw [List.nil_append, PyData.bulkAll, Nat.zero_add]
  | x :: r, b => by
    rw [List.cons_append, bulk_cons, bulk_cons, bulk_app r b]
    omega
theorem depth_app : ∀ a b : List PyData, PyData.depthAll (a ++ b) = max (PyData.depthAll a) (PyData.depthAll b)
  | [], b => by rw [List.nil_append, PyData.depthAll]; omega
  | x :: r, b => by
    rw [List.cons_append, depth_cons, depth_cons, depth_app r b]
    omega
theorem lvs_app (a b : List PyData) : lvs (a ++ b) = (lvs a && lvs b) := by rw [lvs_all, lvs_all, lvs_all, List.all_append]
theorem Szs.app {n m k : Nat} {a b : List PyData} (h : Szs n k a) (r : Szs m k b) : Szs (n + m) k (a ++ b) := ⟨by rw [lvs_app, h.l, r.l]; rfl, by
    have := h.b
    have := r.b
    rw [bulk_app]
    omega, by
    have := h.d
    have := r.d
    rw [depth_app]
    omega⟩
theorem Szs.tup {n k : Nat} {ds : List PyData} (h : Szs n k ds) : Sz n (k + 1) (.tuple ds) := ⟨h.l, by rw [PyData.bulk]; exact h.b, by rw [PyData.depth]; have := h.d; omega⟩
theorem Szs.lst {n k : Nat} {ds : List PyData} (h : Szs n k ds) : Sz n (k + 1) (.list ds) := ⟨h.l, by rw [PyData.bulk]; exact h.b, by rw [PyData.depth]; have := h.d; omega⟩
theorem sz_str {s : Str} {n k : Nat} (h : s ∈ SS) (hn : s.cps.size ≤ n) : Sz n k (.str s) := ⟨by show decide (s ∈ SS) = true; exact decide_eq_true h, by rw [PyData.bulk]; exact hn, by rw [PyData.depth]; exact Nat.zero_le _⟩
theorem of_all {L : List Str} {f : Str → Bool} (h : L.all f = true) {s : Str} (hs : s ∈ L) : f s = true := List.all_eq_true.mp h s hs
theorem szPx {s : Str} {k : Nat} (h : s ∈ PFX) : Sz 2 k (.str s) := by
  have q := of_all (L := PFX) (f := fun s => decide (s ∈ SS) && decide (s.cps.size ≤ 2)) (by decide +kernel) h
  rw [Bool.and_eq_true, decide_eq_true_eq, decide_eq_true_eq] at q
  exact sz_str q.1 q.2
theorem szLo {s : Str} {k : Nat} (h : s ∈ LOC) : Sz 1 k (.str s) := by
  have q := of_all (L := LOC) (f := fun s => decide (s ∈ SS) && decide (s.cps.size ≤ 1)) (by decide +kernel) h
  rw [Bool.and_eq_true, decide_eq_true_eq, decide_eq_true_eq] at q
  exact sz_str q.1 q.2
theorem szAd {s : Str} {k : Nat} (h : s ∈ ADV) : Sz 3 k (.str s) := by
  have q := of_all (L := ADV) (f := fun s => decide (s ∈ SS) && decide (s.cps.size ≤ 3)) (by decide +kernel) h
  rw [Bool.and_eq_true, decide_eq_true_eq, decide_eq_true_eq] at q
  exact sz_str q.1 q.2
theorem szVl {s : Str} {k : Nat} (h : s ∈ VAL) : Sz 3 k (.str s) := by
  have q := of_all (L := VAL) (f := fun s => decide (s ∈ SS) && decide (s.cps.size ≤ 3)) (by decide +kernel) h
  rw [Bool.and_eq_true, decide_eq_true_eq, decide_eq_true_eq] at q
  exact sz_str q.1 q.2
theorem szName {d : PyData} (h : NameD d) : Sz 5 1 d := by
  obtain ⟨p, q, hp, hq, rfl⟩ := h
  exact (Szs.cons (szPx hp) (Szs.cons (szLo hq) Szs.nil)).tup
theorem pairs_sz {α : Type} {f : α → PyData} {b k : Nat} : ∀ {ps : List α}, (∀ p ∈ ps, Sz b k (f p)) → Szs (ps.length * (b + 1)) k (ps.map f)
  | [], _ => by
    rw [List.length_nil, Nat.zero_mul]
    exact Szs.nil
  | p :: r, h => by
    rw [List.map_cons, List.length_cons, Nat.add_mul, Nat.one_mul, Nat.add_comm]
    exact Szs.cons (h p (List.mem_cons_self ..)) (pairs_sz fun q hq => h q (List.mem_cons_of_mem _ hq))
theorem szDecl {d : PyData} (h : DeclD 2 d) : Sz 20 2 d := by
  obtain ⟨ps, rfl, _, hp, hl⟩ := h
  have q : Szs (ps.length * (7 + 1)) 1 (ps.map fun p => PyData.tuple [.str p.1, .str p.2]) := pairs_sz fun p h => (Szs.cons (szPx (hp p h).1) (Szs.cons (szAd (hp p h).2) Szs.nil)).tup
  exact q.tup.le (by omega) (Nat.le_refl _)
theorem szAttr {d : PyData} (h : AttrD 2 d) : Sz 30 3 d := by
  obtain ⟨ps, rfl, _, hp, hl⟩ := h
  have q : Szs (ps.length * (12 + 1)) 2 (ps.map fun p => PyData.tuple [.tuple [.str p.1.1, .str p.1.2], p.2]) := pairs_sz fun p h => by
    obtain ⟨h1, h2, h3⟩ := hp p h
    have hv : Sz 5 1 p.2 := by
      rcases h3 with h3 | ⟨s, hs, e⟩
      · exact szName h3
      · rw [e]
        exact (szVl (k := 1) hs).le (by omega) (by omega)
    exact (Szs.cons (szName ⟨_, _, h1, h2, rfl⟩) (Szs.cons hv Szs.nil)).tup
  exact q.tup.le (by omega) (Nat.le_refl _)
/-! they are as an element wants them -/
theorem nameOk {d : PyData} (h : NameD d) : isName d = true := by
  obtain ⟨p, q, hp, hq, rfl⟩ := h
  have h1 := of_all (L := PFX) (f := fun s => isPrefix (.str s)) (by decide +kernel) hp
  have h2 := of_all (L := LOC) (f := fun s => isLocal (.str s)) (by decide +kernel) hq
  show (isPair _ && (isPrefix (.str p) && isLocal (.str q))) = true
  rw [h1, h2]
  rfl
theorem declsOk {d : PyData} (h : DeclD 2 d) : areDecls d = true := by
  obtain ⟨ps, rfl, hn, hp, _⟩ := h
  unfold areDecls
  have e1 : (kids (.tuple (ps.map fun p => .tuple [.str p.1, .str p.2]))).all declOk = true := by
    show (ps.map fun p => PyData.tuple [.str p.1, .str p.2]).all declOk = true
    rw [List.all_map, List.all_eq_true]
    intro p h
    have h1 := of_all (L := PFX) (f := fun s => isPrefix (.str s)) (by decide +kernel) (hp p h).1
    have h2 := of_all (L := ADV) (f := fun s => isAddrOr (.str s)) (by decide +kernel) (hp p h).2
    have e : declOk (.tuple [.str p.1, .str p.2]) = (isPair (.tuple [.str p.1, .str p.2]) && (isPrefix (.str p.1) && isAddrOr (.str p.2))) := rfl
    show declOk (.tuple [.str p.1, .str p.2]) = true
    rw [e, h1, h2]
    rfl
  have e2 : (kids (.tuple (ps.map fun p => .tuple [.str p.1, .str p.2]))).map keyS = ps.map Prod.fst := by
    show (ps.map fun p => PyData.tuple [.str p.1, .str p.2]).map keyS = _
    rw [List.map_map]
    rfl
  rw [e1, e2, decide_eq_true hn]
  rfl
theorem attrsOk {d : PyData} (h : AttrD 2 d) : areAttrs d = true := by
  obtain ⟨ps, rfl, hn, hp, _⟩ := h
  unfold areAttrs
  have e1 : (kids (.tuple (ps.map fun p => .tuple [.tuple [.str p.1.1, .str p.1.2], p.2]))).all attrOk = true := by
    show (ps.map fun p => PyData.tuple [.tuple [.str p.1.1, .str p.1.2], p.2]).all attrOk = true
    rw [List.all_map, List.all_eq_true]
    intro p h
    obtain ⟨h1, h2, h3⟩ := hp p h
    have hn := nameOk ⟨_, _, h1, h2, rfl⟩
    have hv : (isPlain p.2 || isName p.2) = true := by
      rcases h3 with h3 | ⟨s, hs, e⟩
      · rw [nameOk h3, Bool.or_true]
      · have := of_all (L := VAL) (f := fun s => isPlain (.str s)) (by decide +kernel) hs
        rw [e]
        show (isPlain (.str s) || _) = true
        rw [this]
        rfl
    have e : attrOk (.tuple [.tuple [.str p.1.1, .str p.1.2], p.2]) = (isPair (.tuple [.tuple [.str p.1.1, .str p.1.2], p.2]) && (isName (.tuple [.str p.1.1, .str p.1.2]) && (isPlain p.2 || isName p.2))) := rfl
    show attrOk (.tuple [.tuple [.str p.1.1, .str p.1.2], p.2]) = true
    rw [e, hn, hv]
    rfl
  have e2 : (kids (.tuple (ps.map fun p => .tuple [.tuple [.str p.1.1, .str p.1.2], p.2]))).map keyN = ps.map Prod.fst := by
    show (ps.map fun p => PyData.tuple [.tuple [.str p.1.1, .str p.1.2], p.2]).map keyN = _
    rw [List.map_map]
    rfl
  rw [e1, e2, decide_eq_true hn]
  rfl
def mkEl (n d a : PyData) (cs : List PyData) : PyData := .tuple [.str ELE, n, d, a, .tuple cs]
theorem mkEl_item {n d a : PyData} {cs : List PyData} (hn : NameD n) (hd : DeclD 2 d) (ha : AttrD 2 a) (hc : childrenGo false cs = true) : itemOf (mkEl n d a cs) = none := by
  unfold itemOf
  have h1 : begins (mkEl n d a cs) ELE = true := by
    show decide (ELE = ELE) = true
    exact decide_eq_true rfl
  have h2 : decide ((kids (mkEl n d a cs)).length = 5) = true := rfl
  have h3 : isName (kid (mkEl n d a cs) 1) = true := nameOk hn
  have h4 : areDecls (kid (mkEl n d a cs) 2) = true := declsOk hd
  have h5 : areAttrs (kid (mkEl n d a cs) 3) = true := attrsOk ha
  have h6 : areChildren (kid (mkEl n d a cs) 4) = true := by
    show areChildren (.tuple cs) = true
    unfold areChildren
    show (isTup (.tuple cs) && childrenGo false cs) = true
    rw [hc]
    rfl
  rw [h1, h2, h3, h4, h5, h6]
  rfl
theorem mkEl_sz {n d a : PyData} {cs : List PyData} {b k : Nat} (hn : NameD n) (hd : DeclD 2 d) (ha : AttrD 2 a) (hc : Szs b k cs) (hk : 2 ≤ k) : Sz (80 + b) (k + 2) (mkEl n d a cs) := by
  have he : Sz 7 (k + 1) (.str ELE) := sz_str (by decide +kernel) (by decide +kernel)
  have := Szs.cons he (Szs.cons ((szName hn).le (Nat.le_refl _) (show 1 ≤ k + 1 by omega)) (Szs.cons ((szDecl hd).le (Nat.le_refl _) (show 2 ≤ k + 1 by omega)) (Szs.cons ((szAttr ha).le (Nat.le_refl _) (show 3 ≤ k + 1 by omega)) (Szs.cons hc.tup Szs.nil))))
  exact this.tup.le (by omega) (Nat.le_refl _)
/-- whether the last one is a text -/
def lastS (b : Bool) (ds : List PyData) : Bool := match ds.getLast? with
  | none => b
  | some x => isStr x
theorem children_snoc : ∀ (b : Bool) (ds : List PyData) (c : PyData), childrenGo b (ds ++ [c]) = (childrenGo b ds && childOk (lastS b ds) c)
  | b, [], c => by
    show (childOk b c && true) = (true && childOk b c)
    rw [Bool.and_true, Bool.true_and]
  | b, x :: r, c => by
    show (childOk b x && childrenGo (isStr x) (r ++ [c])) = (childOk b x && childrenGo (isStr x) r && childOk (lastS b (x :: r)) c)
    rw [children_snoc (isStr x) r c, Bool.and_assoc]
    have e : lastS b (x :: r) = lastS (isStr x) r := by
      unfold lastS
      cases r with
      | nil => rfl
      | cons y s => rw [List.getLast?_cons_cons]; cases h : (y :: s).getLast? with
        | none => simp at h
        | some z => rfl
    rw [e]
def eN : Nat → Nat → Nat
  | 0, _ => 0
  | d + 1, m => 1 + m * eN d m
def bN : Nat → Nat → Nat
  | 0, _ => 0
  | d + 1, m => 80 + m * (16 + bN d m)
def cN : Nat → Nat → Nat
  | 0, _ => 0
  | d + 1, m => 20 + m * (2 + cN d m)
end G
set_option maxHeartbeats 1000000
/-! _law_element, _law_grown -/
namespace G
open PySem PySem.Spec PyProof.Rows L2 Evl
def SPR : List Str := ["h", "hole", "xmlns", "abcdefgh", "k"].map Str.ofString
def TXT : List Str := ["t", "some text", "-"].map Str.ofString
theorem szSp {s : Str} {k : Nat} (h : s ∈ SPR) : Sz 8 k (.str s) := by
  have q := of_all (L := SPR) (f := fun s => decide (s ∈ SS) && decide (s.cps.size ≤ 8)) (by decide +kernel) h
  rw [Bool.and_eq_true, decide_eq_true_eq, decide_eq_true_eq] at q
  exact sz_str q.1 q.2
theorem szTx {s : Str} {k : Nat} (h : s ∈ TXT) : Sz 9 k (.str s) := by
  have q := of_all (L := TXT) (f := fun s => decide (s ∈ SS) && decide (s.cps.size ≤ 9)) (by decide +kernel) h
  rw [Bool.and_eq_true, decide_eq_true_eq, decide_eq_true_eq] at q
  exact sz_str q.1 q.2
theorem txtOk {s : Str} (h : s ∈ TXT) : childOk false (.str s) = true := of_all (L := TXT) (f := fun s => childOk false (.str s)) (by decide +kernel) h
theorem txtNo {s : Str} : begins (.str s) ELE = false ∧ begins (.str s) HOL = false := ⟨rfl, rfl⟩
def holeD (s : Str) : PyData := .tuple [.str HOL, .str s]
theorem holeOk {s : Str} (h : s ∈ SPR) (b : Bool) : childOk b (holeD s) = true := of_all (L := SPR) (f := fun s => childOk b (holeD s)) (by cases b <;> decide +kernel) h
theorem shS {s : Str} (h : s ∈ SPR) : s.length ≤ 1000 := short_of (by decide +kernel) h
theorem elOk {e : PyData} (h : begins e ELE = true) (b : Bool) : childOk b e = true := by
  unfold childOk
  have hs : isStr e = false := by
    obtain ⟨r, rfl⟩ := begins_tup h
    rfl
  rw [hs, begins_other h ele_hol, h]
  rfl
/-- _law_element(state, d, m, spare) -/
def spElem (d m : Nat) : Sp := fun vs H Q _ => 1 ≤ d ∧ ∃ (B : Addr → Prop) (ds ca la sp : Addr) (n : Nat) (xs : List Str), vs = [.ref ds, .int (d : Nat), .int (m : Nat), .ref sp] ∧ BN B H ∧ (∀ b, StB ds la b → B b) ∧ B sp ∧ StAt ds ca la n H ∧ n + cN d m ≤ 100000000 ∧
  H sp = some (.lst (xs.map V.str)) ∧ sp ≠ ds ∧ sp ≠ ca ∧ sp ≠ la ∧ (∀ x ∈ xs, x ∈ SPR) ∧
  ∀ v e n' xs' hs k H', Kp (fun b => StB ds la b ∨ b = sp) H H' → StAt ds ca la n' H' → n' ≤ n + cN d m → H' sp = some (.lst (xs'.map V.str)) → xs.Perm (xs' ++ hs) → Gt d e k hs → k ≤ eN d m → Sz (bN d m) (2 * d + 2) e → begins e ELE = true → BN B H' → Den B H' v e → Q v H'
section
variable {K : PySem.W.Frag} {B : Addr → Prop} {ds ca la : Addr} {c : Nat} {σ : L2.St} {H H' : Hp} {te : TE} {φ : PyData → Prop} {D : Ends}
/-- xs.append(e), e drawn -/
theorem zs_app {i n : Nat} {p : Addr} {xs : List V} (hσ : σ[i]? = some (some (.ref p))) (hp : H p = some (.lst xs)) (np : ¬ StB ds la p) (h : EvS B ds ca la c te σ H φ) (S : StAt ds ca la n H) (hn : n + c ≤ 100000000) (hz : xs.length ≤ 100000)
    (k : ∀ v d n' H1, Kp (StB ds la) H H1 → StAt ds ca la n' H1 → n' ≤ n + c → φ d → Den B H1 v d → H1 p = some (.lst xs) → D.nx σ (upd H1 p (.lst (xs ++ [v])))) : tDrop (tBM K "list" rAppend (tVar i) (tCons te tNil)) D σ H :=
  ⟨_, hσ, Or.inl ⟨rfl, xs, sq_of hp⟩, h n H (Kp.refl H) S hn _ fun v d n' H1 k1 S1 hn1 hd dv => ⟨p, xs, v, rfl, rfl, k1.ne hp np, Nat.lt_of_le_of_lt hz (by decide), k v d n' H1 k1 S1 hn1 hd dv (k1.ne hp np)⟩⟩
theorem zs_par {c1 c2 i j n : Nat} {ta tb : TE} {ψ : PyData → Prop} {tw : TS} (hS : ∀ b, StB ds la b → B b) (h1 : EvS B ds ca la c1 ta σ H φ) (h2 : ∀ n1 H1, Kp (StB ds la) H H1 → StAt ds ca la n1 H1 → EvS B ds ca la c2 tb σ H1 ψ) (S : StAt ds ca la n H) (hn : n + (c1 + c2) ≤ 100000000)
    (k : ∀ v u d e n' H1, Kp (StB ds la) H H1 → StAt ds ca la n' H1 → n' ≤ n + (c1 + c2) → φ d → ψ e → Den B H1 v d → Den B H1 u e → tw D ((σ.set i (some v)).set j (some u)) H1) : tSeq (tPar i j (tCons ta (tCons tb tNil))) tw D σ H :=
  h1 n H (Kp.refl H) S (by omega) _ fun v d n1 H1 k1 S1 hn1 hd dv => h2 n1 H1 k1 S1 n1 H1 (Kp.refl H1) S1 (by omega) _ fun u e n2 H2 k2 S2 hn2 he du => ⟨v, u, rfl, k v u d e n2 H2 (k1.trans k2) S2 (by omega) hd he (dv.kp (k2.le hS)) du⟩
theorem zs_elt {n p : Nat} {s : Str} {dn da : PyData} {v7 v8 : V} {vs : List V} {cds : List PyData} (hB : BN B H) (hS : ∀ b, StB ds la b → B b) (h : EvS (Add B p) ds ca la c te σ H φ) (h7 : σ[7]? = some (some v7)) (h8 : σ[8]? = some (some v8)) (h4 : σ[4]? = some (some (.ref p))) (d7 : Den B H v7 dn) (d8 : Den B H v8 da) (hp : H p = some (.lst vs)) (np : ¬ StB ds la p) (hd : Dens (Add B p) H vs cds) (hl : vs.length ≤ 100000) (hs : s.length ≤ 1000)
    (S : StAt ds ca la n H) (hn : n + c ≤ 100000000) (k : ∀ v e n' H1, Kp (StB ds la) H H1 → StAt ds ca la n' H1 → n' ≤ n + c → φ e → BN B H1 → Den B H1 v (.tuple [.str s, e, dn, da, .tuple cds]) → D.rt v H1) :
    tRet (tTup (tCons (tC (.str s)) (tCons te (tCons (tVar 7) (tCons (tVar 8) (tCons (tCB (fun xs H Q => ∃ p ys, xs = [V.ref p] ∧ ((SqL K H p ys ∧ ∀ l, H l = none → Q (.ref l) (upd H l (.tup ys))) ∨ (SqT K H p ys ∧ Q (.ref p) H))) (tCons (tVar 4) tNil)) tNil)))))) D σ H :=
  h n H (Kp.refl H) S hn _ fun v e n1 H1 k1 S1 hn1 he dv => ⟨v7, h7, v8, h8, _, h4, p, vs, rfl, .inl ⟨SqL.of (k1.ne hp np), fun l hl0 => ⟨by show 5 ≤ sizeLine; decide, fun t ht => by
    have kB : Kp B H H1 := k1.le hS
    have kA : Kp (Add B p) H H1 := k1.le fun b h => .inl (hS b h)
    have b1 := hB.kps k1 S1
    have x2 : Ex H1 (upd (upd H1 l (.tup vs)) t (.tup [.str s, v, v7, v8, .ref l])) := (Ex.new hl0).trans (Ex.new ht)
    have b2 : BOk B (upd H1 l (.tup vs)) := b1.ok.ex (Ex.new hl0)
    refine k (.ref t) e n1 _ (k1.trans (.of x2)) (S1.exx x2) hn1 he (b1.ex x2) (.tup (by show 5 ≤ 100000; decide) upd_same (b2.new ht) (.cons (.str s hs) (.cons ((dv.le fun b h => .inl h).ex x2) (.cons ((d7.kp kB).ex x2) (.cons ((d8.kp kB).ex x2) (.cons (.tup hl (Ex.new ht l _ upd_same) (b1.ok.new hl0) (((hd.kp kA).le fun b h => .inl h).ex x2)) .nil))))))⟩⟩⟩
/-- xs[-1] of a list of one's own -/
theorem vd_lastL {i : Nat} {p : Addr} {xs : List V} {es : List PyData} {d : PyData} (hσ : σ[i]? = some (some (.ref p))) (hp : H p = some (.lst xs)) (hd : Dens B H xs es) (hl : es.getLast? = some d) : EvD B (tOp (rIxL K) (tVar i) (tUn (rU fun i => .int (-i)) (tC (.int 1)))) σ H d := fun H1 x Q q => by
  have hx := hd.length
  rw [List.getLast?_eq_getElem?] at hl
  obtain ⟨v, hv, dv⟩ := hd.get hl
  have hpos : 0 < xs.length := by
    have := (List.getElem?_eq_some_iff.mp hl).1
    omega
  refine ⟨_, hσ, 1, rfl, p, xs, -1, v, rfl, rfl, SqL.of (x p _ hp), ?_, q v H1 (Ex.refl H1) (dv.ex x)⟩
  unfold atI ixN
  rw [if_neg (by omega), if_pos (by omega)]
  show xs[((-1 : Int) + xs.length).toNat]? = some v
  rw [show ((-1 : Int) + xs.length).toNat = es.length - 1 by omega]
  exact hv
end
section
variable {P : Program} {w : World} {K : PySem.W.Frag} {mg : Str → Option Value} {base : Heap}
/-- .. of any of these levels -/
def spElemU (D : Nat) : Sp := fun vs H Q E => ∃ d m, d ≤ D ∧ m ≤ 100 ∧ spElem d m vs H Q E
theorem r_element (T : Txt K mg) : ∀ D : Nat, D ≤ 8 → Cal P w K mg base CX0 (6 + D) "_law_element" (spElemU D) := by
  intro D
  induction D with
  | zero =>
    intro _
    obtain ⟨f, fd, Fn, hm, bnd⟩ := T.f_law_element.ex
    exact ⟨f, fd, _, ⟨fun vs H Q E h => by obtain ⟨d, m, h1, h2, h3, _⟩ := h; omega, fun A outer s H args us vs Q E _ _ _ _ h => by obtain ⟨d, m, h1, h2, h3, _⟩ := h; omega⟩, hm, Fn.kp, bnd⟩
  | succ D ih =>
    intro hd8
    have IH := ih (by omega)
    refine cal_of (k := 6 + D) T.f_law_element sc_law_element (fun vs H Q E h => by obtain ⟨_, _, _, _, _, B, ds, ca, la, sp, n, xs, rfl, _⟩ := h; rfl) ?_
    rintro f cdv A outer s H vs Q E hr ⟨d', m, hd', hm, hd1', B, ds, ca, la, sp, n, xs, rfl, hB, hS, hsp, St, hn, hH, ne1, ne2, ne3, hxs, q⟩
    obtain ⟨d, rfl⟩ : ∃ d, d' = d + 1 := ⟨d' - 1, by omega⟩
    refine ⟨_, pss_cons (ps_set (i := 4) sc_law_element.nd rfl (Or.inl rfl) (pe_lst pa_nil))
      (pss_cons (ps_for PassesOwn.never rfl (pi_range1 (by rfl) T.b_range (pa_cons (pe_ifExp (pt_cmpR op_gt (pv 1) pe_int (nomark _)) (pe_cal (r_draw T) (hr.mono (by omega)) (pa_cons (pv 0) (pa_cons (pe_op op_add (pv 2) pe_int) pa_nil))) pe_int) pa_nil)) (pg_name (i := 5) sc_law_element.nd rfl (Or.inl rfl))
        (pss_cons (ps_set (i := 6) sc_law_element.nd rfl (Or.inl rfl) (pe_cal (r_draw T) (hr.mono (by omega)) (pa_cons (pv 0) (pa_cons pe_int pa_nil))))
        (pss_one (ps_if (pw_and (pt_cmpR op_eq (pv 6) pe_int (nomark _)) (pw_and1 (pw_or (pt_cmpR (op_eqE (hu0 hr)) (pv 4) (pe_lst pa_nil) (nomark _)) (pw_or1 (pt_not (pt_val (e_isStr T (pe_ix ix_list (pv 4) (pe_un un_neg pe_int) (fun _ _ => rfl))))))).pt)).pt
          (pss_one (ps_expr (e_app (pv 4) (pe_ix ix_list (pe_lst (pa_cons pe_str (pa_cons pe_str (pa_cons pe_str pa_nil)))) (pe_cal (r_draw T) (hr.mono (by omega)) (pa_cons (pv 0) (pa_cons pe_int pa_nil))) (fun _ _ => rfl)))))
          (pss_one (ps_if (pw_and (pt_cmpR op_eq (pv 6) pe_int (nomark _)) (pw_and1 (pt_cmpR (op_neE (hu0 hr)) (pv 3) (pe_lst pa_nil) (nomark _)))).pt
            (pss_one (ps_expr (e_app (pv 4) (pe_tup (pa_cons pe_str (pa_cons (e_pop (pv 3)) pa_nil))))))
            (pss_one (ps_expr (e_app (pv 4) (pe_cal IH hr (pa_cons (pv 0) (pa_cons (pe_op op_sub (pv 1) pe_int) (pa_cons (pv 2) (pa_cons (pv 3) pa_nil)))))))))))))
      )
      (pss_cons (ps_par (i := 7) (j := 8) (by rfl) sc_law_element.nd rfl rfl (by decide) rfl rfl (pa_cons (pe_cal (r_declarations T) (hr.mono (by omega)) (pa_cons (pv 0) (pa_cons pe_int pa_nil))) (pa_cons (pe_cal (r_attributes T) (hr.mono (by omega)) (pa_cons (pv 0) (pa_cons pe_int pa_nil))) pa_nil)) (by rfl))
      (pss_one (ps_ret (pe_tup (pa_cons pe_str (pa_cons (pe_cal (r_name T) (hr.mono (by omega)) (pa_cons (pv 0) pa_nil)) (pa_cons (pv 7) (pa_cons (pv 8) (pa_cons (pe_callTy call_tuple_of (by rfl) T.b_tuple (by decide +kernel) (pa_cons (pv 4) pa_nil)) pa_nil)))))))))), ?_⟩
    refine z_asgN hB.ok (ds := []) (vn_lst hB.ok va_nil (by decide)) fun p vs0 H1 hp0 x1 hl1 up1 dv0 => ?_
    cases dv0
    obtain ⟨cs, ls, hca, hla, _, _⟩ := St.ex
    have nds : p ≠ ds := (ne_of_none St.st hp0).symm
    have nca : p ≠ ca := (ne_of_none hca hp0).symm
    have nla : p ≠ la := (ne_of_none hla hp0).symm
    have nsp : p ≠ sp := (ne_of_none hH hp0).symm
    have S1 := St.exx x1
    have hB1 : BN (Add B p) H1 := (hB.ex x1).add hl1 fun xs z => by cases z
    have hS1 : ∀ b, StB ds la b → Add B p b := fun b h => .inl (hS b h)
    have np : ¬ StB ds la p := fun z => z.elim nds nla
    have nspS : ¬ StB ds la sp := fun z => z.elim ne1 ne3
    have hcost : cN (d + 1) m = 20 + m * (2 + cN d m) := rfl
    have fitd : ((d + 1 : Nat) : Int).natAbs < 10 ^ 39 := fit_nat (by omega)
    have hmM : ∀ i, i ≤ m → i * (2 + cN d m) ≤ m * (2 + cN d m) := fun i h => Nat.mul_le_mul_right _ h
    show tSeq _ _ _ [some (.ref ds), some (.int ((d + 1 : Nat) : Int)), some (.int (m : Nat)), some (.ref sp), some (.ref p), none, none, none, none] H1
    refine zs_forR (B := Add B p) (m := if 1 < d + 1 then m + 1 else 1) (vs_if (b := decide (1 < d + 1)) (fun H2 k2 => vt_test (B := B) (vd_gtN (vd_var rfl (.int _ fitd)) (vd_nat (n := 1))))
      (fun hb => vs_imp (vs_draw (m := m + 1) rfl (fun H3 k3 => vi_op0 (φ := fun i => i = (m : Nat)) (ψ := fun j => j = 1) (vi_var rfl rfl) (vi_c rfl) (by rintro i j rfl rfl; rfl)) (by omega) (by omega)) fun e he => by rw [if_pos (of_decide_eq_true hb)]; exact he)
      (fun hb => vs_pure (d := .int ((0 : Nat) : Int)) ⟨0, by rw [if_neg (of_decide_eq_false hb)]; exact Nat.zero_lt_one, rfl⟩ fun H3 k3 => vd_nat (n := 0))) (by split <;> omega) S1 (by omega) fun r n1 H2 hr1 k2 S2 hn2 => ?_
    have hrm : r ≤ m ∧ (0 < r → 1 ≤ d) := by
      by_cases h : 1 < d + 1
      · rw [if_pos h] at hr1
        exact ⟨by omega, fun _ => by omega⟩
      · rw [if_neg h] at hr1
        exact ⟨by omega, fun z => by omega⟩
    refine ⟨fun i σ' H' => ∃ y5 y6 vs cds xs' hs k n', σ' = [some (.ref ds), some (.int ((d + 1 : Nat) : Int)), some (.int (m : Nat)), some (.ref sp), some (.ref p), y5, y6, none, none] ∧ Kp (fun b => StB ds la b ∨ b = sp ∨ b = p) H H' ∧ StAt ds ca la n' H' ∧ n' ≤ n + 1 + i * (2 + cN d m) ∧ H' sp = some (.lst (xs'.map V.str)) ∧ xs.Perm (xs' ++ hs) ∧
      H' p = some (.lst vs) ∧ Dens (Add B p) H' vs cds ∧ Gts d cds k hs ∧ k ≤ i * eN d m ∧ childrenGo false cds = true ∧ Szs (i * (16 + bN d m)) (2 * d + 2) cds ∧ cds.length ≤ i ∧ BN (Add B p) H', ?_, ?_, ?_⟩
    · exact ⟨none, none, [], [], xs, [], 0, n1, rfl, (Kp.of x1).trans (k2.le fun b h => .inl h), S2, by omega, k2.ne (x1 sp _ hH) nspS, by rw [List.append_nil], k2.ne hl1 np, .nil, .nil, Nat.zero_le _, rfl, (Szs.nil).le (Nat.zero_le _) (Nat.le_refl _), Nat.le_refl _, hB1.kps k2 S2⟩
    · rintro i σ' H3 hi ⟨y5, y6, vs, cds, xs', hs, k, n', rfl, kk, S3, hn3, hsp3, hperm, hp3, dvs, gts, hk, hgo, hsz, hlen, hB3⟩ D' hrt hnx hct
      have hd1 : 1 ≤ d := hrm.2 (by omega)
      have hxs' : ∀ x ∈ xs', x ∈ SPR := fun x hx => hxs x (hperm.mem_iff.mpr (List.mem_append_left _ hx))
      have hstep : i * (2 + cN d m) + (2 + cN d m) ≤ m * (2 + cN d m) := by
        have := hmM (i + 1) (by omega)
        rw [Nat.add_mul, Nat.one_mul] at this
        exact this
      -- what a turn adds
      have fin : ∀ (c : PyData) (v : V) (H5 : Hp) (xs2 : List Str) (hs2 : List Str) (k2' n2 : Nat) (y : Option V), Kp (fun b => StB ds la b ∨ b = sp ∨ b = p) H3 H5 → StAt ds ca la n2 H5 → n2 ≤ n' + (2 + cN d m) → H5 sp = some (.lst (xs2.map V.str)) → xs'.Perm (xs2 ++ hs2) → Dens (Add B p) H5 vs cds → Den (Add B p) H5 v c → Gts d [c] k2' hs2 → k2' ≤ eN d m → childOk (lastS false cds) c = true →
          Szs (16 + bN d m) (2 * d + 2) [c] → BN (Add B p) H5 → D'.nx [some (.ref ds), some (.int ((d + 1 : Nat) : Int)), some (.int (m : Nat)), some (.ref sp), some (.ref p), some (.int (i : Nat)), y, none, none] (upd H5 p (.lst (vs ++ [v]))) := by
        intro c v H5 xs2 hs2 k2' n2 y k5 S5 hn5 hsp5 hperm5 dvs5 dv5 g5 hk5 hok5 hsz5 hB5
        rw [hnx]
        have kw : Kp (Add B p) H5 (upd H5 p (.lst (vs ++ [v]))) := (Kp.refl H5).wr (.inr rfl)
        refine ⟨_, y, vs ++ [v], cds ++ [c], xs2, hs ++ hs2, k + k2', n2, rfl, (kk.trans k5).wr (.inr (.inr rfl)), S5.updP nds nca nla, ?_, by rw [upd_ne nsp.symm]; exact hsp5, ?_, upd_same, (dvs5.kp kw).append (.cons (dv5.kp kw) .nil), gts.append g5, ?_, ?_, ?_, by rw [List.length_append]; show cds.length + 1 ≤ i + 1; omega, hB5.updP fun xs z => by cases z⟩
        · rw [Nat.add_mul, Nat.one_mul]
          omega
        · have e1 : (xs' ++ hs).Perm ((xs2 ++ hs2) ++ hs) := hperm5.append_right hs
          have e2 : ((xs2 ++ hs2) ++ hs).Perm (xs2 ++ (hs ++ hs2)) := by
            rw [List.append_assoc]
            exact (List.perm_append_comm).append_left xs2
          exact (hperm.trans e1).trans e2
        · rw [Nat.add_mul, Nat.one_mul]
          omega
        · rw [children_snoc, hgo, hok5]
          rfl
        · have := hsz.app hsz5
          rw [Nat.add_mul, Nat.one_mul]
          exact this
      refine zs_asg (B := Add B p) (vs_draw (m := 6) rfl (fun H4 k4 => vi_c rfl) (by decide) (by decide)) S3 (by omega) fun v4 d4 n4 H4 k4 S4 hn4 hd4 dv4 => ?_
      obtain ⟨w4, hw4, rfl⟩ := hd4
      rw [dv4.int']
      have hB4 := hB3.kps k4 S4
      have hp4 := k4.ne hp3 np
      have hsp4 := k4.ne hsp3 nspS
      have dvs4 := dvs.kp (k4.le hS1)
      have fit4 : ((w4 : Nat) : Int).natAbs < 10 ^ 39 := fit_nat (by omega)
      have hvl : vs.length ≤ 100000 := by
        rw [dvs.length]
        omega
      refine s_if (b := decide (w4 = 0) && (cds.isEmpty || !lastS false cds)) (et_and (vt_test (B := Add B p) (vd_eqN (vd_var rfl (.int _ fit4)) (vd_nat (n := 0)))) fun _ => et_or (vt_test (vd_is (vd_cmpL (B := Add B p) (neg := false) (ev_var rfl) (SqL.of hp4)) (by rw [← isEmpty_len dvs.length]; rfl))) fun hne => et_not ?_) ?_ ?_
      · obtain ⟨x, hx⟩ : ∃ x, cds.getLast? = some x := by
          cases h : cds.getLast? with
          | none =>
            rw [List.getLast?_eq_none_iff] at h
            rw [h] at hne
            cases hne
          | some x => exact ⟨x, rfl⟩
        have e : lastS false cds = isStr x := by
          unfold lastS
          rw [hx]
        rw [e]
        exact vt_B (vd_isStr (vd_lastL rfl hp4 dvs4 hx))
      · intro hb H5 x5
        have hl0 : lastS false cds = false := by
          rw [Bool.and_eq_true, Bool.or_eq_true] at hb
          rcases hb.2 with h | h
          · rw [List.isEmpty_iff] at h
            rw [h]; rfl
          · simpa using h
        refine zs_app (B := Add B p) (φ := fun d => d ∈ TXT.map PyData.str) rfl (x5 p _ hp4) np (vs_pick hS1 (xs := TXT.map PyData.str) (fun H6 k6 => vd_lst ((hB4.ok.ex x5).kp' k6) (va_cons vd_str (va_cons vd_str (va_cons vd_str va_nil))) (by decide)) fun H6 k6 => vs_draw (m := 3) rfl (fun H7 k7 => vi_c rfl) (by decide) (by decide)) (S4.exx x5) (by omega) hvl fun v6 d6 n6 H6 k6 S6 hn6 hd6 dv6 hp6 => ?_
        obtain ⟨t, ht, rfl⟩ := List.mem_map.mp hd6
        have k46 : Kp (StB ds la) H4 H6 := (Kp.of x5).trans k6
        refine fin (.str t) v6 H6 xs' [] 0 n6 _ ((k4.trans k46).le fun b h => .inl h) S6 (by omega) (k46.ne hsp4 nspS) (by rw [List.append_nil]) (dvs4.kp (k46.le hS1)) dv6 (.text rfl rfl .nil) (Nat.zero_le _) (by rw [hl0]; exact txtOk ht) ?_ (hB4.kps k46 S6)
        exact (Szs.cons (szTx ht) Szs.nil).le (by omega) (Nat.le_refl _)
      · intro hb H5 x5
        refine s_if (b := decide (w4 = 1) && !xs'.isEmpty) (et_and (vt_test (B := Add B p) (vd_eqN (vd_var rfl (.int _ fit4)) (vd_nat (n := 1)))) fun _ => vt_test (vd_is (vd_cmpL (B := Add B p) (neg := true) (ev_var rfl) (SqL.of (x5 sp _ hsp4))) (by show PyData.bool (!(xs'.map V.str).isEmpty) = _; rw [isEmpty_len (List.length_map _)]))) ?_ ?_
        · intro hb2 H6 x6
          have x46 := x5.trans x6
          rw [Bool.and_eq_true] at hb2
          obtain ⟨ys, w, rfl⟩ : ∃ ys w, xs' = ys ++ [w] := by
            rcases List.eq_nil_or_concat xs' with h | ⟨ys, w, h⟩
            · rw [h] at hb2
              cases hb2.2
            · exact ⟨ys, w, by simpa using h⟩
          have hw : w ∈ SPR := hxs' w (by simp)
          have hsp6 := x46 sp _ hsp4
          refine ⟨_, rfl, Or.inl ⟨rfl, _, sq_of (x46 p _ hp4)⟩, ?_⟩
          refine ⟨_, rfl, Or.inl ⟨rfl, _, sq_of hsp6⟩, sp, _, .str w, rfl, rfl, hsp6, by simp, by show 2 ≤ sizeLine; decide, fun t ht => ?_⟩
          rw [List.map_append]
          have edl : (ys.map V.str ++ [w].map V.str).dropLast = ys.map V.str := List.dropLast_concat
          rw [List.map_append, edl] at ht
          rw [edl]
          have k6 : Kp (fun b => StB ds la b ∨ b = sp ∨ b = p) H4 (upd (upd H6 sp (.lst (ys.map V.str))) t (.tup [.str HOL, .str w])) := ((Kp.of x46).wr (.inr (.inl rfl))).trans (.of (Ex.new ht))
          have kB : Kp (Add B p) H4 (upd (upd H6 sp (.lst (ys.map V.str))) t (.tup [.str HOL, .str w])) := ((Kp.of x46).wr (.inl hsp)).trans (.of (Ex.new ht))
          have hp6 : (upd (upd H6 sp (.lst (ys.map V.str))) t (.tup [.str HOL, .str w])) p = some (.lst vs) := Ex.new ht p _ (by rw [upd_ne nsp]; exact x46 p _ hp4)
          refine ⟨p, vs, .ref t, rfl, rfl, hp6, Nat.lt_of_le_of_lt hvl (by decide), ?_⟩
          have hB6 : BN (Add B p) (upd (upd H6 sp (.lst (ys.map V.str))) t (.tup [.str HOL, .str w])) := ((hB4.ex x46).updP fun xs z => by cases z).ex (Ex.new ht)
          have S6 : StAt ds ca la n4 (upd (upd H6 sp (.lst (ys.map V.str))) t (.tup [.str HOL, .str w])) := ((S4.exx x46).updP ne1 ne2 ne3).exx (Ex.new ht)
          have hok6 : BOk (Add B p) (upd H6 sp (.lst (ys.map V.str))) := ((hB4.ex x46).updP fun xs z => by cases z).ok
          refine fin (holeD w) (.ref t) _ ys [w] 0 n4 _ ((k4.le fun b h => .inl h).trans k6) S6 (by omega) (Ex.new ht sp _ upd_same) (List.Perm.refl _) (dvs4.kp kB) (.tup (by show 2 ≤ 100000; decide) upd_same (hok6.new ht) (.cons (.str _ (by decide +kernel)) (.cons (.str w (shS hw)) .nil))) ?_ (Nat.zero_le _) (holeOk hw _) ?_ hB6
          · exact .hole (decide_eq_true rfl : decide (HOL = HOL) = true) .nil
          · have q1 : Sz 4 1 (.str HOL) := sz_str (by decide +kernel) (by decide +kernel)
            exact (Szs.cons ((Szs.cons (q1.le (Nat.le_refl _) (Nat.le_refl _)) (Szs.cons (szSp hw) Szs.nil)).tup) Szs.nil).le (by omega) (by omega)
        · intro hb2 H6 x6
          have x46 := x5.trans x6
          refine ⟨_, rfl, Or.inl ⟨rfl, _, sq_of (x46 p _ hp4)⟩, ?_⟩
          refine ⟨_, rfl, _, rfl, _, 1, rfl, rfl, _, rfl, _, rfl, d, m, by omega, hm, hd1, Add B p, ds, ca, la, sp, n4, xs', ?_, hB4.ex x46, hS1, .inl hsp, S4.exx x46, by omega, x46 sp _ hsp4, ne1, ne2, ne3, hxs', fun v e n7 xs7 hs7 k7 H7 kk7 S7 hn7 hsp7 hperm7 g7 hk7 hsz7 hbe hB7 dv7 => ?_⟩
          · rw [List.append_nil]
            have e : ((d + 1 : Nat) : Int) - 1 = (d : Nat) := by omega
            show [V.ref ds, .int (((d + 1 : Nat) : Int) - 1), .int (m : Nat), .ref sp] = _
            rw [e]
          · have hp7 : H7 p = some (.lst vs) := kk7.ne (x46 p _ hp4) fun z => z.elim np nsp
            have k47 : Kp (fun b => StB ds la b ∨ b = sp ∨ b = p) H4 H7 := (Kp.of x46).trans (kk7.le fun b h => h.elim .inl fun h => .inr (.inl h))
            have kB : Kp (Add B p) H4 H7 := (Kp.of x46).trans (kk7.le fun b h => h.elim (hS1 b) fun h => .inl (h ▸ hsp))
            refine ⟨p, vs, v, rfl, rfl, hp7, Nat.lt_of_le_of_lt hvl (by decide), ?_⟩
            refine fin e v H7 xs7 hs7 k7 n7 _ ((k4.le fun b h => .inl h).trans k47) S7 (by omega) hsp7 hperm7 (dvs4.kp kB) dv7 ?_ hk7 (elOk hbe _) ((Szs.cons hsz7 Szs.nil).le (by omega) (Nat.le_refl _)) hB7
            have := Gts.elem hbe g7 (Gts.nil (k := d))
            rw [List.append_nil] at this
            exact this
    · rintro σ' H3 ⟨y5, y6, vs, cds, xs', hs, k, n', rfl, kk, S3, hn3, hsp3, hperm, hp3, dvs, gts, hk, hgo, hsz, hlen, hB3⟩
      have hr2 := hmM r hrm.1
      have hBB : BN B H3 := ⟨fun b hb => hB3.ok b (.inl hb), fun b xs hb => hB3.nt b xs (.inl hb)⟩
      have hvl : vs.length ≤ 100000 := by
        rw [dvs.length]
        omega
      refine zs_par (B := B) (c1 := 5) (c2 := 11) hS (vs_call () hBB hS rfl (fun H4 k4 => va_cons vd_int va_nil) trivial) (fun n4 H4 k4 S4 => vs_call () (hBB.kps k4 S4) hS rfl (fun H5 k5 => va_cons vd_int va_nil) trivial) S3 (by omega) fun v7 v8 d7 d8 n4 H4 k4 S4 hn4 hd7 hd8 dv7 dv8 => ?_
      have hB4 := hBB.kps k4 S4
      have dvs4 := dvs.kp (k4.le hS1)
      have hBA4 : BN (Add B p) H4 := hB3.kps k4 S4
      refine zs_elt (c := 2) (φ := NameD) hB4 hS (vs_call () hBA4 hS1 rfl (fun H5 k5 => va_nil) trivial) rfl rfl rfl dv7 dv8 (k4.ne hp3 np) np dvs4 hvl (by decide +kernel) S4 (by omega) fun v9 e n5 H5 k5 S5 hn5 he hB5 dv9 => ?_
      have k35 := k4.trans k5
      have kH5 : Kp (fun b => StB ds la b ∨ b = sp) H H5 := by
        constructor
        · intro b o h nb
          refine (kk.trans (k35.le fun b h => .inl h)).keep b o h fun z => ?_
          rcases z with z | z | z
          · exact nb (.inl z)
          · exact nb (.inr z)
          · rw [z, hp0] at h
            cases h
        · exact fun b h => kk.dom b (k35.dom b h)
      have hle : r * eN d m ≤ m * eN d m := Nat.mul_le_mul_right _ hrm.1
      have hbe : begins (mkEl e d7 d8 cds) ELE = true := decide_eq_true (rfl : ELE = ELE)
      refine q v9 (mkEl e d7 d8 cds) n5 xs' hs (k + 1) H5 kH5 S5 (by omega) (k35.ne hsp3 nspS) hperm (.mk (mkEl_item he hd7 hd8 hgo) gts) ?_ ?_ hbe hB5 dv9
      · show k + 1 ≤ 1 + m * eN d m
        omega
      · exact mkEl_sz he hd7 hd8 (hsz.le (Nat.mul_le_mul_right _ hrm.1) (Nat.le_refl _)) (by omega)
end
end G
set_option maxHeartbeats 1000000
/-! _law_grown -/
namespace G
open PySem PySem.Spec PyProof.Rows L2 Evl
theorem Kp.from {M : Addr → Prop} {H H' : Hp} (k : Kp M H H') (M' : Addr → Prop) (h : ∀ b, M b → M' b ∨ H b = none) : Kp M' H H' := by
  constructor
  · intro b o hb nb
    refine k.keep b o hb fun z => ?_
    rcases h b z with q | q
    · exact nb q
    · rw [q] at hb
      cases hb
  · exact k.dom
section
variable {K : PySem.W.Frag} {B : Addr → Prop} {ds ca la : Addr} {c : Nat} {σ : L2.St} {H H' : Hp} {te : TE} {ta : TA} {D : Ends} {tw : TS}
theorem cutV_sub (xs : List V) (a b : Option Int) : ∃ i j, cutV xs a b = (xs.drop i).take j := ⟨_, _, rfl⟩
/-- x = [texts][:n], n drawn -/
theorem zs_cut {i n m : Nat} {L : List Str} (hB : BN B H) (ha : EvAD B ta σ H (L.map PyData.str)) (hl : L.length ≤ 1000) (h : EvS B ds ca la c te σ H fun d => ∃ r, r < m ∧ d = .int (r : Nat)) (S : StAt ds ca la n H) (hn : n + c ≤ 100000000)
    (k : ∀ (p : Addr) (ys : List Str) (n' : Nat) (H1 : Hp), H p = none → Kp (StB ds la) H H1 → StAt ds ca la n' H1 → n' ≤ n + c → H1 p = some (.lst (ys.map V.str)) → ys.Sublist L → BN B H1 → tw D (σ.set i (some (.ref p))) H1) : tSeq (tAsg (tSl (rSlL K) (tLst ta) tNoPart (tPart te)) (gName i)) tw D σ H :=
  ha H (Ex.refl H) _ fun vs H1 x1 dv => ⟨by rw [dv.length, List.length_map]; exact sz_of (by omega), fun q hq => by
    have e := dens_str' dv
    have S1 : StAt ds ca la n (upd H1 q (.lst vs)) := (S.exx x1).exx (Ex.new hq)
    have k1 : Kp (StB ds la) H (upd H1 q (.lst vs)) := .of (x1.trans (Ex.new hq))
    have nq : ¬ StB ds la q := fun z => by
      rcases z with rfl | rfl
      · exact ne_of_none (S.exx x1).st hq rfl
      · obtain ⟨_, _, _, hla, _⟩ := (S.exx x1).ex
        exact ne_of_none hla hq rfl
    refine h n _ k1 S1 hn _ fun v d n' H2 k2 S2 hn2 hd dv2 => ?_
    obtain ⟨r, hr, rfl⟩ := hd
    refine ⟨(r : Nat), dv2.int', q, vs, rfl, SqL.of (k2.ne upd_same nq), fun p hp => ?_⟩
    obtain ⟨a, b, hcut⟩ := cutV_sub vs none (some (r : Nat))
    have k12 := k1.trans k2
    refine k p ((L.drop a).take b) n' _ (k12.dom p hp) (k12.trans (.of (Ex.new hp))) (S2.exx (Ex.new hp)) hn2 ?_ ((List.take_sublist _ _).trans (List.drop_sublist _ _)) ((hB.kps k12 S2).ex (Ex.new hp))
    rw [upd_same, hcut, e, List.map_take, List.map_drop]⟩
end
/-- a part as it is grown -/
structure GrownD (d : PyData) : Prop where
  ok : fault d = none
  sz : Sz 30000 18 d
  el : begins d ELE = true
abbrev t2 (a b : Nat) : PyData := .tuple [.int (a : Nat), .int (b : Nat)]
def OPT : List (Nat × Nat) := [(4, 3), (8, 1), (2, 40), (3, 5)]
theorem opt_ok {a : Nat × Nat} (h : a ∈ OPT) : 1 ≤ a.1 ∧ a.1 ≤ 8 ∧ a.2 ≤ 100 ∧ eN a.1 a.2 ≤ 60 ∧ bN a.1 a.2 ≤ 30000 ∧ cN a.1 a.2 ≤ 4200 := by
  have q : (OPT.all fun a => decide (1 ≤ a.1 ∧ a.1 ≤ 8 ∧ a.2 ≤ 100 ∧ eN a.1 a.2 ≤ 60 ∧ bN a.1 a.2 ≤ 30000 ∧ cN a.1 a.2 ≤ 4200)) = true := by decide +kernel
  exact of_decide_eq_true (List.all_eq_true.mp q a h)
section
variable {P : Program} {w : World} {K : PySem.W.Frag} {mg : Str → Option Value} {base : Heap}
theorem r_grown (T : Txt K mg) : Cal P w K mg base CX0 15 "_law_grown" (spS 4202 (fun (_ : Unit) => []) (fun _ => True) fun _ d => GrownD d) := by
  refine calS (k := 14) T.f_law_grown sc_law_grown (fun _ => rfl) ?_
  intro f cdv A outer s H ws E B ds ca la n _ hr hB hS St hn dv hp D q
  refine ⟨_, pss_cons (ps_set (i := 1) sc_law_grown.nd rfl (Or.inl rfl) (pe_slice sl_list (pe_lst (pa_cons pe_str (pa_cons pe_str (pa_cons pe_str (pa_cons pe_str (pa_cons pe_str pa_nil)))))) po_none (po_some (pe_cal (r_draw T) (hr.mono (by decide)) (pa_cons (pv 0) (pa_cons pe_int pa_nil))))))
    (pss_cons (ps_asg (pe_cal (r_of T) (hr.mono (by decide)) (pa_cons (pv 0) (pa_cons (pe_lst (pa_cons (pe_tup (pa_cons pe_int (pa_cons pe_int pa_nil))) (pa_cons (pe_tup (pa_cons pe_int (pa_cons pe_int pa_nil))) (pa_cons (pe_tup (pa_cons pe_int (pa_cons pe_int pa_nil))) (pa_cons (pe_tup (pa_cons pe_int (pa_cons pe_int pa_nil))) pa_nil))))) pa_nil)))
      (pg_tup (by rfl) (pgs_cons (pg_name (i := 2) sc_law_grown.nd rfl (Or.inl rfl)) (pgs_cons (pg_name (i := 3) sc_law_grown.nd rfl (Or.inl rfl)) pgs_nil))))
    (pss_one (ps_ret (pe_cal (r_element T 8 (by decide)) hr (pa_cons (pv 0) (pa_cons (pv 2) (pa_cons (pv 3) (pa_cons (pv 1) pa_nil)))))))), ?_⟩
  cases dv
  refine zs_cut (L := SPR) (m := 6) hB (va_cons vd_str (va_cons vd_str (va_cons vd_str (va_cons vd_str (va_cons vd_str va_nil))))) (by decide) (vs_draw (m := 6) rfl (fun H1 k1 => vi_c rfl) (by decide) (by decide)) St (by omega) fun sp ys n1 H1 hsp0 k1 S1 hn1 hsp1 hsub hB1 => ?_
  obtain ⟨cs, ls, hca, hla, _, _⟩ := St.ex
  have nds : sp ≠ ds := (ne_of_none St.st hsp0).symm
  have nca : sp ≠ ca := (ne_of_none hca hsp0).symm
  have nla : sp ≠ la := (ne_of_none hla hsp0).symm
  have hS1 : ∀ b, StB ds la b → Add B sp b := fun b h => .inl (hS b h)
  have hB1' : BN (Add B sp) H1 := hB1.add hsp1 fun xs z => by cases z
  have tup2 : ∀ (a b : Nat) (H2 : Hp), BOk (Add B sp) H2 → a ≤ 100 → b ≤ 100 → EvD (Add B sp) (tTup (tCons (tC (.int (a : Nat))) (tCons (tC (.int (b : Nat))) tNil))) [some (.ref ds), some (.ref sp), none, none] H2 (.tuple [.int (a : Nat), .int (b : Nat)]) := fun a b H2 h ha hb => vd_tup h (va_cons (vd_int (fit_nat (by omega))) (va_cons (vd_int (fit_nat (by omega))) va_nil)) (by show 2 ≤ 100000; decide)
  refine (vs_call (c := 1) (α := List PyData) (arg := fun xs => [PyData.list xs]) (Pre := fun xs => 0 < xs.length) (φ := fun xs d => d ∈ xs) [t2 4 3, t2 8 1, t2 2 40, t2 3 5] hB1' hS1 rfl (fun H2 k2 => va_cons (vd_lst ((hB1'.ok).kp' k2) (va_cons (tup2 4 3 H2 (hB1'.ok.kp' k2) (by decide) (by decide)) (va_cons (tup2 8 1 H2 (hB1'.ok.kp' k2) (by decide) (by decide)) (va_cons (tup2 2 40 H2 (hB1'.ok.kp' k2) (by decide) (by decide)) (va_cons (tup2 3 5 H2 (hB1'.ok.kp' k2) (by decide) (by decide)) va_nil)))) (by decide)) va_nil) (by decide) :
    EvS (Add B sp) ds ca la 1 _ [some (.ref ds), some (.ref sp), none, none] H1 _) n1 H1 (Kp.refl H1) S1 (by omega) _ fun v d n2 H2 k2 S2 hn2 hd dv2 => ?_
  obtain ⟨a, ha, rfl⟩ : ∃ a ∈ OPT, d = t2 a.1 a.2 := List.mem_map.mp (show d ∈ OPT.map fun a => t2 a.1 a.2 from hd) |>.imp fun a h => ⟨h.1, h.2.symm⟩
  obtain ⟨o1, o2, o3, o4, o5, o6⟩ := opt_ok ha
  refine g_pair dv2 fun u1 u2 du1 du2 => ?_
  rw [du1.int', du2.int']
  have nspS : ¬ StB ds la sp := fun z => z.elim nds nla
  refine ⟨_, rfl, _, rfl, _, rfl, _, rfl, a.1, a.2, o2, o3, o1, Add B sp, ds, ca, la, sp, n2, ys, rfl, hB1'.kps k2 S2, hS1, .inr rfl, S2, by omega, k2.ne hsp1 nspS, nds, nca, nla, fun x hx => hsub.subset hx, fun v e n3 xs' hs k H3 k3 S3 hn3 hsp3 hperm g hk hsz hbe hB3 dv3 => ?_⟩
  have hnd : hs.Nodup := by
    have h1 : ys.Nodup := (show SPR.Nodup by decide +kernel).sublist hsub
    exact (List.nodup_append.mp (hperm.nodup_iff.mp h1)).2.1
  have kk : Kp (StB ds la) H H3 := Kp.from (((k1.trans k2).le fun _ h => .inl h).trans k3) (StB ds la) fun b h => by
    rcases h with h | rfl
    · exact .inl h
    · exact .inr hsp0
  exact q v e n3 H3 kk S3 (by omega) ⟨gt_fault g o2 (by omega) hnd, hsz.le o5 (by omega), hbe⟩ (dv3.le fun b h => .inl h)
end
end G
set_option maxHeartbeats 1000000
/-! _law_odd (the middle is printed by gen_odd.py) -/
namespace G
open PySem PySem.Spec PyProof.Rows L2 Evl
/-- s * k -/
def repS (s : Str) (k : Nat) : Str := ⟨(List.replicate k s.cps).foldl (· ++ ·) #[]⟩
def rRepX : R2 := fun x y H Q => ∃ s k, x = .str s ∧ y = .int k ∧ 2 ≤ k ∧ k ≤ 1000 ∧ s.length ≤ 1000 ∧ (repS s k.toNat).length ≤ 1000 ∧ s.length ≠ 0 ∧ Q (.str (repS s k.toNat)) H
theorem op_repX {X : Cx} : OpR X (binaryOp .Mult) rRepX := by
  intro pins s σ H x y v u Q I rx ry h
  obtain ⟨z, k, rfl, rfl, h1, h2, h3, h5, h4, q⟩ := h
  obtain ⟨t, rfl⟩ := rx
  obtain ⟨t', rfl⟩ := ry
  have hm : (z.length : Int) * k ≤ 1000 * 1000 := by
    have a1 : (z.length : Int) * k ≤ 1000 * k := Int.mul_le_mul_of_nonneg_right (by omega) (by omega)
    omega
  refine PySem.P.mul_str ?_ ?_ ?_ ?_
  · rw [decide_eq_false (by omega), decide_eq_false (by omega)]
    rfl
  · intro _ _ hh
    have a2 : ((2 : Int) ^ 63 - 1) / 1000 ≤ (2 ^ 63 - 1) / k := by
      refine Int.le_ediv_of_mul_le (by omega) ?_
      have : ((2 : Int) ^ 63 - 1) / 1000 * k ≤ ((2 : Int) ^ 63 - 1) / 1000 * 1000 := Int.mul_le_mul_of_nonneg_left h2 (by decide)
      exact Int.le_trans this (by decide)
    have a3 : (1000 : Int) ≤ ((2 : Int) ^ 63 - 1) / 1000 := by decide
    omega
  · intro _ _
    refine decide_eq_false (p := z.length * k.toNat > sizeLine) ?_
    have : z.length * k.toNat ≤ 1000 * 1000 := Nat.mul_le_mul h3 (by omega)
    have := sizeLine_eq
    omega
  · rw [if_neg (by omega), if_neg (by
      have e1 : (k == 1) = false := by simp; omega
      have e2 : (z.length == 0) = false := by simp; exact h4
      rw [e1, e2]; simp)]
    exact ⟨by
      have := sizeLine_eq
      show (repS z k.toNat).length ≤ sizeLine
      omega, ⟨.str _, H, I.tok _, ⟨_, rfl⟩, q⟩⟩
section
variable {K : PySem.W.Frag} {B : Addr → Prop} {σ : L2.St} {H : Hp}
theorem vd_dic (hB : BOk B H) : EvD B tDNewK σ H (.dict []) := fun H1 x Q q => fun p hp => q _ _ (Ex.new hp) (.dic upd_same ((hB.ex x).new hp))
theorem vd_repX {s z : Str} {k : Int} (h : 2 ≤ k ∧ k ≤ 1000 ∧ s.length ≤ 1000 ∧ (repS s k.toNat).length ≤ 1000 ∧ s.length ≠ 0) (e : repS s k.toNat = z) : EvD B (tOp rRepX (tC (.str s)) (tC (.int k))) σ H (.str z) := fun H1 x Q q => by
  refine ⟨s, k, rfl, rfl, h.1, h.2.1, h.2.2.1, h.2.2.2.1, h.2.2.2.2, ?_⟩
  rw [e]
  exact q _ H1 (Ex.refl H1) (.str z (by rw [← e]; exact h.2.2.2.1))
theorem vd_pow30 : EvD B (tOp (rI CPow fun i j => .int (i ^ j.toNat)) (tC (.int 10)) (tC (.int 30))) σ H (.int (10 ^ 30)) := fun H1 x Q q => 
  ⟨10, 30, rfl, rfl, ⟨by decide, by decide, by decide +kernel⟩, q _ H1 (Ex.refl H1) (.int (10 ^ 30) (by decide +kernel))⟩
end
abbrev ODD1 : List PyData := [.none, (.bool true), (.int 5), (.str ""), (.str "a"), (.str "A"), (.str "p"), (.str "u"), (.str "t"), (.str "xmlns"), (.str "element"), (.str "hole"), (.str "abcdefghi"), (.str "xxxxxxxxxxxxxxxxxxxx"), (.str "xxxxxxxxxxxxxxxxxxxxx")]
abbrev ODD2 : List PyData := [(.tuple []), (.tuple [(.str ""), (.str "a")]), (.tuple [(.str "p"), (.str "b")]), (.tuple [(.str "p"), (.str "u")]), (.tuple [(.str "p"), (.str "")]), (.tuple [(.str "hole"), (.str "h")]), (.tuple [(.str "hole"), (.str "H")]), (.list []), (.dict []), (.int (10 ^ 30))]
abbrev ODD3 : List PyData := [(.tuple [(.tuple [(.str "p"), (.str "u")])]), (.tuple [(.tuple [(.tuple [(.str ""), (.str "a")]), (.str "x")])]), (.tuple [(.str "element"), (.tuple [(.str ""), (.str "a")]), (.tuple []), (.tuple []), (.tuple [])]), (.tuple [(.str "element"), (.tuple [(.str "q"), (.str "c")])])]
abbrev ODD4 : List PyData := [(.tuple [(.str "a")]), (.tuple [(.tuple [(.tuple [(.str "p"), (.str "a")]), (.tuple [(.str ""), (.str "b")])])]), (.tuple [(.str "xmlns"), (.str "a")])]
abbrev ODD : List PyData := ((ODD1 ++ ODD2) ++ ODD3) ++ ODD4
theorem l_odd : ∀ d ∈ ODD, Sz 40 6 d := by
  have q : (ODD.all fun d => lv d && decide (d.bulk ≤ 40) && decide (d.depth ≤ 6)) = true := by decide +kernel
  intro d h
  have e := List.all_eq_true.mp q d h
  simp only [Bool.and_eq_true, decide_eq_true_eq] at e
  exact ⟨e.1.1, e.1.2, e.2⟩
section
variable {P : Program} {w : World} {K : PySem.W.Frag} {mg : Str → Option Value} {base : Heap}
def OddD (d : PyData) : Prop := d ∈ ODD
theorem r_odd (T : Txt K mg) : Cal P w K mg base CX0 4 "_law_odd" (spS 1 (fun (_ : Unit) => []) (fun _ => True) fun _ d => OddD d) := by
  refine calS (k := 3) T.f_law_odd sc_law_odd (fun _ => rfl) ?_
  intro f cdv A outer s H ws E B ds ca la n _ hr hB0 hS St hn dv hp D q
  refine ⟨_, pss_cons (ps_set (i := 1) sc_law_odd.nd rfl (Or.inl rfl) (pe_lst (pa_cons pe_non (pa_cons pe_bl (pa_cons pe_int (pa_cons pe_str (pa_cons pe_str (pa_cons pe_str (pa_cons pe_str (pa_cons pe_str (pa_cons pe_str (pa_cons pe_str (pa_cons pe_str (pa_cons pe_str (pa_cons pe_str (pa_cons (pe_op op_repX pe_str pe_int) (pa_cons (pe_op op_repX pe_str pe_int) pa_nil)))))))))))))))))
    (pss_cons (ps_set (i := 1) sc_law_odd.nd rfl (Or.inl rfl) (pe_op op_cat (pv 1) (pe_lst (pa_cons (pe_tup pa_nil) (pa_cons (pe_tup (pa_cons pe_str (pa_cons pe_str pa_nil))) (pa_cons (pe_tup (pa_cons pe_str (pa_cons pe_str pa_nil))) (pa_cons (pe_tup (pa_cons pe_str (pa_cons pe_str pa_nil))) (pa_cons (pe_tup (pa_cons pe_str (pa_cons pe_str pa_nil))) (pa_cons (pe_tup (pa_cons pe_str (pa_cons pe_str pa_nil))) (pa_cons (pe_tup (pa_cons pe_str (pa_cons pe_str pa_nil))) (pa_cons (pe_lst pa_nil) (pa_cons pe_dnewK (pa_cons (pe_op op_pow pe_int pe_int) pa_nil)))))))))))))
    (pss_cons (ps_set (i := 1) sc_law_odd.nd rfl (Or.inl rfl) (pe_op op_cat (pv 1) (pe_lst (pa_cons (pe_tup (pa_cons (pe_tup (pa_cons pe_str (pa_cons pe_str pa_nil))) pa_nil)) (pa_cons (pe_tup (pa_cons (pe_tup (pa_cons (pe_tup (pa_cons pe_str (pa_cons pe_str pa_nil))) (pa_cons pe_str pa_nil))) pa_nil)) (pa_cons (pe_tup (pa_cons pe_str (pa_cons (pe_tup (pa_cons pe_str (pa_cons pe_str pa_nil))) (pa_cons (pe_tup pa_nil) (pa_cons (pe_tup pa_nil) (pa_cons (pe_tup pa_nil) pa_nil)))))) (pa_cons (pe_tup (pa_cons pe_str (pa_cons (pe_tup (pa_cons pe_str (pa_cons pe_str pa_nil))) pa_nil))) pa_nil)))))))
    (pss_one (ps_ret (pe_cal (r_of T) hr (pa_cons (pv 0) (pa_cons (pe_op op_cat (pv 1) (pe_lst (pa_cons (pe_tup (pa_cons pe_str pa_nil)) (pa_cons (pe_tup (pa_cons (pe_tup (pa_cons (pe_tup (pa_cons pe_str (pa_cons pe_str pa_nil))) (pa_cons (pe_tup (pa_cons pe_str (pa_cons pe_str pa_nil))) pa_nil))) pa_nil)) (pa_cons (pe_tup (pa_cons pe_str (pa_cons pe_str pa_nil))) pa_nil))))) pa_nil))))))), ?_⟩
  cases dv
  have hB := hB0.ok
  refine z_asg (B := B) (d := .list ODD1) (vd_lst hB (va_cons vd_non (va_cons vd_bl (va_cons vd_int (va_cons vd_str (va_cons vd_str (va_cons vd_str (va_cons vd_str (va_cons vd_str (va_cons vd_str (va_cons vd_str (va_cons vd_str (va_cons vd_str (va_cons vd_str (va_cons (vd_repX (by decide +kernel) (by decide +kernel)) (va_cons (vd_repX (by decide +kernel) (by decide +kernel)) va_nil))))))))))))))) (by decide +kernel)) fun v1 H1 x1 d1 => ?_
  have hB := hB0.ok.ex x1
  refine z_asg (B := B) (d := .list (ODD1 ++ ODD2)) (vd_catL (vd_var rfl d1) (vd_lst hB (va_cons (vd_tup hB va_nil (by decide +kernel)) (va_cons (vd_tup hB (va_cons vd_str (va_cons vd_str va_nil)) (by decide +kernel)) (va_cons (vd_tup hB (va_cons vd_str (va_cons vd_str va_nil)) (by decide +kernel)) (va_cons (vd_tup hB (va_cons vd_str (va_cons vd_str va_nil)) (by decide +kernel)) (va_cons (vd_tup hB (va_cons vd_str (va_cons vd_str va_nil)) (by decide +kernel)) (va_cons (vd_tup hB (va_cons vd_str (va_cons vd_str va_nil)) (by decide +kernel)) (va_cons (vd_tup hB (va_cons vd_str (va_cons vd_str va_nil)) (by decide +kernel)) (va_cons (vd_lst hB va_nil (by decide +kernel)) (va_cons (vd_dic hB) (va_cons vd_pow30 va_nil)))))))))) (by decide +kernel)) hB (by decide +kernel)) fun v2 H2 x2 d2 => ?_
  have hB := hB.ex x2
  refine z_asg (B := B) (d := .list ((ODD1 ++ ODD2) ++ ODD3)) (vd_catL (vd_var rfl d2) (vd_lst hB (va_cons (vd_tup hB (va_cons (vd_tup hB (va_cons vd_str (va_cons vd_str va_nil)) (by decide +kernel)) va_nil) (by decide +kernel)) (va_cons (vd_tup hB (va_cons (vd_tup hB (va_cons (vd_tup hB (va_cons vd_str (va_cons vd_str va_nil)) (by decide +kernel)) (va_cons vd_str va_nil)) (by decide +kernel)) va_nil) (by decide +kernel)) (va_cons (vd_tup hB (va_cons vd_str (va_cons (vd_tup hB (va_cons vd_str (va_cons vd_str va_nil)) (by decide +kernel)) (va_cons (vd_tup hB va_nil (by decide +kernel)) (va_cons (vd_tup hB va_nil (by decide +kernel)) (va_cons (vd_tup hB va_nil (by decide +kernel)) va_nil))))) (by decide +kernel)) (va_cons (vd_tup hB (va_cons vd_str (va_cons (vd_tup hB (va_cons vd_str (va_cons vd_str va_nil)) (by decide +kernel)) va_nil)) (by decide +kernel)) va_nil)))) (by decide +kernel)) hB (by decide +kernel)) fun v3 H3 x3 d3 => ?_
  have x03 := (x1.trans x2).trans x3
  refine zs_ret (vs_call (c := 1) (α := List PyData) (arg := fun xs => [PyData.list xs]) (Pre := fun xs => 0 < xs.length) (φ := fun xs d => d ∈ xs) ODD (hB0.ex x03) hS rfl (fun H4 k4 => va_cons ?_ va_nil) (by decide +kernel)) (St.exx x03) (by omega) fun v d n' H4 k4 S4 hn4 hd dv4 => q v d n' H4 ((Kp.of x03).trans k4) S4 hn4 hd dv4
  have hB : BOk B H4 := (hB0.ok.ex x03).kp' k4
  exact vd_catL (vd_var rfl (d3.kp (k4.le hS))) (vd_lst hB (va_cons (vd_tup hB (va_cons vd_str va_nil) (by decide +kernel)) (va_cons (vd_tup hB (va_cons (vd_tup hB (va_cons (vd_tup hB (va_cons vd_str (va_cons vd_str va_nil)) (by decide +kernel)) (va_cons (vd_tup hB (va_cons vd_str (va_cons vd_str va_nil)) (by decide +kernel)) va_nil)) (by decide +kernel)) va_nil) (by decide +kernel)) (va_cons (vd_tup hB (va_cons vd_str (va_cons vd_str va_nil)) (by decide +kernel)) va_nil))) (by decide +kernel)) hB (by decide +kernel)
end
end G
set_option maxHeartbeats 1000000
/-! _law_spoilt -/
namespace G
open PySem PySem.Spec PyProof.Rows L2 Evl
/-! ### sizes -/
theorem lvs_take {ds : List PyData} (h : lvs ds = true) (i : Nat) : lvs (ds.take i) = true := by
  rw [lvs_all] at h ⊢
  rw [List.all_eq_true] at h ⊢
  exact fun x hx => h x (List.mem_of_mem_take hx)
theorem lvs_drop {ds : List PyData} (h : lvs ds = true) (i : Nat) : lvs (ds.drop i) = true := by
  rw [lvs_all] at h ⊢
  rw [List.all_eq_true] at h ⊢
  exact fun x hx => h x (List.mem_of_mem_drop hx)
theorem bulk_split (ds : List PyData) (i : Nat) : PyData.bulkAll ds = PyData.bulkAll (ds.take i) + PyData.bulkAll (ds.drop i) := by
  conv => lhs; rw [← List.take_append_drop i ds, bulk_app]
theorem depth_split (ds : List PyData) (i : Nat) : PyData.depthAll ds = max (PyData.depthAll (ds.take i)) (PyData.depthAll (ds.drop i)) := by
  conv => lhs; rw [← List.take_append_drop i ds, depth_app]
theorem len_bulk : ∀ ds : List PyData, ds.length ≤ PyData.bulkAll ds
  | [] => Nat.zero_le _
  | x :: r => by
    rw [bulk_cons, List.length_cons]
    have := len_bulk r
    omega
theorem drop_cons {ds : List PyData} {i : Nat} {d : PyData} (h : ds[i]? = some d) : ds.drop i = d :: ds.drop (i + 1) := by
  obtain ⟨hi, e⟩ := List.getElem?_eq_some_iff.mp h
  rw [← e]
  exact List.drop_eq_getElem_cons hi
/-- what is made of d is about as large -/
structure SpD (d e : PyData) : Prop where
  l : lv d = true → lv e = true
  b : e.bulk ≤ 2 * d.bulk + 200
  d : e.depth ≤ d.depth + 6
theorem spOdd {d e : PyData} (h : OddD e) : SpD d e := by
  have q := l_odd e h
  exact ⟨fun _ => q.l, by have := q.b; omega, by have := q.d; omega⟩
theorem bulkT (xs : List PyData) : (PyData.tuple xs).bulk = PyData.bulkAll xs := by rw [PyData.bulk]
theorem bulkL (xs : List PyData) : (PyData.list xs).bulk = PyData.bulkAll xs := by rw [PyData.bulk]
theorem depthT (xs : List PyData) : (PyData.tuple xs).depth = PyData.depthAll xs + 1 := by rw [PyData.depth]
theorem depthL (xs : List PyData) : (PyData.list xs).depth = PyData.depthAll xs + 1 := by rw [PyData.depth]
theorem lvT (xs : List PyData) : lv (.tuple xs) = lvs xs := rfl
theorem lvL (xs : List PyData) : lv (.list xs) = lvs xs := rfl
/-- way 0 .. 7 -/
theorem spRec {xs : List PyData} {i : Nat} {d e : PyData} (h : xs[i]? = some d) (q : SpD d e) : SpD (.tuple xs) (.tuple (xs.take i ++ [e] ++ xs.drop (i + 1))) := by
  have b1 := bulk_split xs i
  have d1 := depth_split xs i
  rw [drop_cons h, bulk_cons] at b1
  rw [drop_cons h, depth_cons] at d1
  refine ⟨fun hl => ?_, ?_, ?_⟩
  · rw [lvT, lvs_app, lvs_app, lvs_take hl, lvs_drop hl]
    show (true && (lv e && true) && true) = true
    have hd : lv d = true := by
      rw [lvT, lvs_all, List.all_eq_true] at hl
      exact hl d (List.mem_of_getElem? h)
    rw [q.l hd]
    rfl
  · rw [bulkT, bulkT, bulk_app, bulk_app, bulk_cons, show PyData.bulkAll [] = 0 by rw [PyData.bulkAll]]
    have := q.b
    omega
  · rw [depthT, depthT, depth_app, depth_app, depth_cons, show PyData.depthAll [] = 0 by rw [PyData.depthAll]]
    have := q.d
    omega
theorem spDrop {xs : List PyData} {i : Nat} : SpD (.tuple xs) (.tuple (xs.take i ++ xs.drop (i + 1))) := by
  have b1 := bulk_split xs i
  have d1 := depth_split xs i
  have b2 := bulk_split (xs.drop i) 1
  have d2 := depth_split (xs.drop i) 1
  rw [List.drop_drop] at b2 d2
  refine ⟨fun hl => ?_, ?_, ?_⟩
  · rw [lvT, lvs_app, lvs_take hl, lvs_drop hl]
    rfl
  · rw [bulkT, bulkT, bulk_app]
    omega
  · rw [depthT, depthT, depth_app]
    omega
theorem spTwice {xs : List PyData} {i : Nat} {d : PyData} (h : xs[i]? = some d) : SpD (.tuple xs) (.tuple (xs.take i ++ [d, d] ++ xs.drop (i + 1))) := by
  have b1 := bulk_split xs i
  have d1 := depth_split xs i
  rw [drop_cons h, bulk_cons] at b1
  rw [drop_cons h, depth_cons] at d1
  refine ⟨fun hl => ?_, ?_, ?_⟩
  · rw [lvT, lvs_app, lvs_app, lvs_take hl, lvs_drop hl]
    have hd : lv d = true := by
      rw [lvT, lvs_all, List.all_eq_true] at hl
      exact hl d (List.mem_of_getElem? h)
    show (true && (lv d && (lv d && true)) && true) = true
    rw [hd]
    rfl
  · rw [bulkT, bulkT, bulk_app, bulk_app, bulk_cons, bulk_cons, show PyData.bulkAll [] = 0 by rw [PyData.bulkAll]]
    omega
  · rw [depthT, depthT, depth_app, depth_app, depth_cons, depth_cons, show PyData.depthAll [] = 0 by rw [PyData.depthAll]]
    omega
theorem spPut {xs : List PyData} {i : Nat} {e : PyData} (q : SpD (.tuple xs) e ∧ (lv e = true ∨ True) ∧ e.bulk ≤ PyData.bulkAll xs + 100 ∧ e.depth ≤ PyData.depthAll xs + 6) : SpD (.tuple xs) (.tuple (xs.take i ++ [e] ++ xs.drop i)) := by
  have b1 := bulk_split xs i
  have d1 := depth_split xs i
  obtain ⟨q1, _, q3, q4⟩ := q
  refine ⟨fun hl => ?_, ?_, ?_⟩
  · rw [lvT, lvs_app, lvs_app, lvs_take hl, lvs_drop hl]
    show (true && (lv e && true) && true) = true
    rw [q1.l hl]
    rfl
  · rw [bulkT, bulkT, bulk_app, bulk_app, bulk_cons, show PyData.bulkAll [] = 0 by rw [PyData.bulkAll]]
    omega
  · rw [depthT, depthT, depth_app, depth_app, depth_cons, show PyData.depthAll [] = 0 by rw [PyData.depthAll]]
    omega
theorem spTurn {xs : List PyData} {i : Nat} : SpD (.tuple xs) (.tuple (xs.drop i ++ xs.take i)) := by
  have b1 := bulk_split xs i
  have d1 := depth_split xs i
  refine ⟨fun hl => ?_, ?_, ?_⟩
  · rw [lvT, lvs_app, lvs_take hl, lvs_drop hl]
    rfl
  · rw [bulkT, bulkT, bulk_app]
    omega
  · rw [depthT, depthT, depth_app]
    omega
theorem spList {xs : List PyData} : SpD (.tuple xs) (.list xs) := by
  refine ⟨fun hl => hl, ?_, ?_⟩
  · rw [bulkT, bulkL]; omega
  · rw [depthT, depthL]; omega
/-- ('element', ('', 'n'), (), (), (thing,)) -/
def wrapD (d : PyData) : PyData := .tuple [.str ELE, .tuple [.str "", .str "n"], .tuple [], .tuple [], .tuple [d]]
theorem lvN : lvs [.str ELE, .tuple [.str "", .str "n"], .tuple [], .tuple []] = true := by decide +kernel
theorem bulkN : PyData.bulkAll [.str ELE, .tuple [.str "", .str "n"], .tuple [], .tuple []] = 14 := by decide +kernel
theorem depthN : PyData.depthAll [.str ELE, .tuple [.str "", .str "n"], .tuple [], .tuple []] = 1 := by decide +kernel
theorem spWrap {xs : List PyData} {i : Nat} : SpD (.tuple xs) (.tuple (xs.take i ++ [wrapD (.tuple xs)] ++ xs.drop i)) := by
  have e : wrapD (.tuple xs) = .tuple ([.str ELE, .tuple [.str "", .str "n"], .tuple [], .tuple []] ++ [.tuple [.tuple xs]]) := rfl
  have b : (wrapD (.tuple xs)).bulk = 14 + (PyData.bulkAll xs + 1 + 0 + 1 + 0) := by
    rw [e, bulkT, bulk_app, bulkN, bulk_cons, bulkT, bulk_cons, bulkT, show PyData.bulkAll [] = 0 by rw [PyData.bulkAll]]
  have dd : (wrapD (.tuple xs)).depth ≤ PyData.depthAll xs + 4 := by
    rw [e, depthT, depth_app, depthN, depth_cons, depthT, depth_cons, depthT, show PyData.depthAll [] = 0 by rw [PyData.depthAll]]
    omega
  refine spPut ⟨⟨fun hl => ?_, ?_, ?_⟩, .inr trivial, ?_, ?_⟩
  · rw [e, lvT, lvs_app, lvN]
    show (true && ((lvs xs && true) && true)) = true
    rw [show lvs xs = true from hl]
    rfl
  · rw [b, bulkT]
    omega
  · rw [depthT]
    omega
  · rw [b]
    omega
  · omega
end G
set_option maxHeartbeats 1000000
set_option pp.deepTerms false
set_option pp.maxSteps 300
/-! _law_spoilt -/
namespace G
open PySem PySem.Spec PyProof.Rows L2 Evl
section
variable {K : PySem.W.Frag} {B : Addr → Prop} {σ : L2.St} {H : Hp} {te ti tj : TE} {ds : List PyData}
theorem vd_slc {lo hi : Option Int} {i j : Nat} {tl th : TO} (hB : BOk B H) (h : EvD B te σ H (.tuple ds)) (hl : ∀ H1, Ex H H1 → ∀ Q : Option Int → Hp → Prop, (∀ H2, Ex H1 H2 → Q lo H2) → tl σ H1 Q) (hh : ∀ H1, Ex H H1 → ∀ Q : Option Int → Hp → Prop, (∀ H2, Ex H1 H2 → Q hi H2) → th σ H1 Q)
    (e1 : HT.sIx ds.length 0 lo = i) (e2 : HT.sIx ds.length ds.length hi = j) : EvD B (tSl (rSlA K) te tl th) σ H (.tuple ((ds.drop i).take (j - i))) := fun H1 x Q q =>
  h H1 x _ fun v H2 x2 dv => hl H2 (x.trans x2) _ fun H3 x3 => hh H3 ((x.trans x2).trans x3) _ fun H4 x4 => by
    have dv4 := dv.ex (x3.trans x4)
    have hlen := dv4.lenT
    have dv5 := dv4
    obtain ⟨a, xs, rfl, ha, nb, r⟩ := dv4.tup'
    have lx := r.length
    refine ⟨a, xs, rfl, SqT.of ha, fun hw => ?_, fun hw p hp => ?_⟩
    · rw [lx, e1, e2] at hw
      rw [hw.1, hw.2, List.drop_zero, Nat.sub_zero, List.take_length] at q
      exact q _ H4 ((x2.trans x3).trans x4) dv5
    · have e : cutV xs lo hi = (xs.drop i).take (j - i) := by
        unfold cutV
        rw [lx, e1, e2]
      rw [e]
      refine q _ _ (((x2.trans x3).trans x4).trans (Ex.new hp)) (.tup ?_ upd_same ((hB.ex (((x.trans x2).trans x3).trans x4)).new hp) (((r.drop i).take (j - i)).ex (Ex.new hp)))
      rw [List.length_take, List.length_drop]
      omega
theorem part_no {Q : Option Int → Hp → Prop} (q : ∀ H2, Ex H H2 → Q none H2) : tNoPart σ H Q := q H (Ex.refl H)
theorem vd_to {i : Nat} (hB : BOk B H) (h : EvD B te σ H (.tuple ds)) (hi : EvI ti σ H fun k => k = (i : Nat)) (hl : i ≤ ds.length) : EvD B (tSl (rSlA K) te tNoPart (tPart ti)) σ H (.tuple (ds.take i)) := by
  have q := vd_slc (K := K) (lo := none) (hi := some (i : Nat)) (i := 0) (j := i) hB h (tl := tNoPart) (th := tPart ti) (fun H1 x Q q => q H1 (Ex.refl H1)) (fun H1 x Q q => hi H1 x _ fun k H2 x2 hk => ⟨k, rfl, by rw [hk]; exact q H2 x2⟩) rfl (by rw [HT.sIx_nat]; omega)
  exact q
theorem vd_from {i : Nat} (hB : BOk B H) (h : EvD B te σ H (.tuple ds)) (hi : EvI ti σ H fun k => k = (i : Nat)) (hl : i ≤ ds.length) : EvD B (tSl (rSlA K) te (tPart ti) tNoPart) σ H (.tuple (ds.drop i)) := by
  have q := vd_slc (K := K) (lo := some (i : Nat)) (hi := none) (i := i) (j := ds.length) hB h (tl := tPart ti) (th := tNoPart) (fun H1 x Q q => hi H1 x _ fun k H2 x2 hk => ⟨k, rfl, by rw [hk]; exact q H2 x2⟩) (fun H1 x Q q => q H1 (Ex.refl H1)) (by rw [HT.sIx_nat]; omega) rfl
  rw [List.take_of_length_le (by rw [List.length_drop]; omega)] at q
  exact q
theorem vd_at1 {i : Nat} {d : PyData} (hB : BOk B H) (h : EvD B te σ H (.tuple ds)) (hi : EvI ti σ H fun k => k = (i : Nat)) (hj : EvI tj σ H fun k => k = ((i + 1 : Nat) : Int)) (hd : ds[i]? = some d) : EvD B (tSl (rSlA K) te (tPart ti) (tPart tj)) σ H (.tuple [d]) := by
  have hl := (List.getElem?_eq_some_iff.mp hd).1
  have q := vd_slc (K := K) (lo := some (i : Nat)) (hi := some ((i + 1 : Nat) : Int)) (i := i) (j := i + 1) hB h (tl := tPart ti) (th := tPart tj) (fun H1 x Q q => hi H1 x _ fun k H2 x2 hk => ⟨k, rfl, by rw [hk]; exact q H2 x2⟩) (fun H1 x Q q => hj H1 x _ fun k H2 x2 hk => ⟨k, rfl, by rw [hk]; exact q H2 x2⟩) (by rw [HT.sIx_nat]; omega) (by rw [HT.sIx_nat]; omega)
  rw [show i + 1 - i = 1 by omega, drop_cons hd] at q
  exact q
/-- (d,) * 2 -/
theorem vd_two {d : PyData} (hB : BOk B H) (h : EvD B te σ H (.tuple [d])) : EvD B (tOp (rRepT K) te (tC (.int 2))) σ H (.tuple [d, d]) := fun H1 x Q q => h H1 x _ fun v H2 x2 dv => by
  obtain ⟨a, xs, rfl, ha, nb, r⟩ := dv.tup'
  obtain ⟨v, rfl, dv1⟩ := r.one'
  exact ⟨a, 2, [v], rfl, rfl, SqT.of ha, by simp, by decide, by decide, by simp, fun p hp => q _ _ (x2.trans (Ex.new hp)) (.tup (by show 2 ≤ 100000; decide) upd_same ((hB.ex (x.trans x2)).new hp) (.cons (dv1.ex (Ex.new hp)) (.cons (dv1.ex (Ex.new hp)) .nil)))⟩
/-- list(t) -/
theorem vd_listT (hB : BOk B H) (h : EvD B te σ H (.tuple ds)) : EvD B (tCB (fun xs H Q => ∃ p ys, xs = [V.ref p] ∧ (SqL K H p ys ∨ SqT K H p ys) ∧ ∀ l, H l = none → Q (.ref l) (upd H l (.lst ys))) (tCons te tNil)) σ H (.list ds) := fun H1 x Q q => h H1 x _ fun v H2 x2 dv => by
  have hl := dv.lenT
  obtain ⟨a, xs, rfl, ha, nb, r⟩ := dv.tup'
  exact ⟨a, xs, rfl, .inr (SqT.of ha), fun p hp => q _ _ (x2.trans (Ex.new hp)) (.lst (by rw [r.length]; exact hl) upd_same ((hB.ex (x.trans x2)).new hp) (r.ex (Ex.new hp)))⟩
theorem vd_ltN {ta tb : TE} {i j : Nat} (h1 : EvD B ta σ H (.int (i : Nat))) (h2 : EvD B tb σ H (.int (j : Nat))) : EvD B (tOp (rI0 fun i j => .bl (decide (i < j))) ta tb) σ H (.bool (decide (i < j))) := vd_op h1 h2 (by
  have h := rd_I0B (B := B) (H := H) (g := fun i j => decide (i < j)) (i := (i : Nat)) (j := (j : Nat))
  have e : decide ((i : Int) < (j : Int)) = decide (i < j) := by simp
  rw [e] at h
  exact h)
/-- t[at] -/
theorem vd_ixI {i : Nat} {d : PyData} (h : EvD B te σ H (.tuple ds)) (hi : EvI ti σ H fun k => k = (i : Nat)) (hd : ds[i]? = some d) : EvD B (tOp (rIxT K) te ti) σ H d := fun H1 x Q q => h H1 x _ fun v H2 x2 dv => hi H2 (x.trans x2) _ fun k H3 x3 hk => by
  subst hk
  exact rd_ixT (B := B) (H := H3) (j := (i : Nat)) rfl hd H3 (Ex.refl H3) v (.int (i : Nat)) (dv.ex x3) (.int _ (fit_nat (by
    have := dv.lenT
    have := (List.getElem?_eq_some_iff.mp hd).1
    omega))) Q fun z H4 x4 dz => q z H4 ((x2.trans x3).trans x4) dz
end
section
variable {K : PySem.W.Frag} {B : Addr → Prop} {ds ca la : Addr} {c c1 c2 : Nat} {σ : L2.St} {H H' : Hp} {te ta tb : TE} {φ ψ : PyData → Prop} {d : PyData} {D : Ends} {tw tu : TS}
/-- (e,) -/
theorem vs_tup1 (hB : BOk B H) (h : EvS B ds ca la c te σ H φ) : EvS B ds ca la c (tTup (tCons te tNil)) σ H fun t => ∃ d, t = .tuple [d] ∧ φ d := fun n H1 k S hn Q q =>
  h n H1 k S hn _ fun v d n' H2 k2 S2 hn2 hd dv => ⟨by show 1 ≤ sizeLine; decide, fun p hp => q _ _ n' _ (k2.trans (.of (Ex.new hp))) (S2.exx (Ex.new hp)) hn2 ⟨d, rfl, hd⟩ (.tup (by show 1 ≤ 100000; decide) upd_same (((hB.kp' k).kp' k2).new hp) (.cons (dv.ex (Ex.new hp)) .nil))⟩
/-- t + (e, drawn) + u -/
theorem vs_mid {xs ys : List PyData} (hB : BN B H) (hS : ∀ b, StB ds la b → B b) (ha : ∀ H1, Kp (StB ds la) H H1 → BOk B H1 → EvD B ta σ H1 (.tuple xs)) (he : EvS B ds ca la c te σ H φ) (hb : ∀ H1, Kp (StB ds la) H H1 → BOk B H1 → EvD B tb σ H1 (.tuple ys)) (hl : xs.length + ys.length + 1 ≤ 100000) :
    EvS B ds ca la c (tOp (rCatA K) (tOp (rCatA K) ta (tTup (tCons te tNil))) tb) σ H fun t => ∃ d, t = .tuple (xs ++ [d] ++ ys) ∧ φ d := fun n H1 k S hn Q q => by
  have hB1 := hB.kps k S
  refine ha H1 k hB1.ok H1 (Ex.refl H1) _ fun v H2 x2 dv => ?_
  refine vs_tup1 hB1.ok (he.kp k) n H2 (.of x2) (S.exx x2) hn _ fun u t n' H3 k3 S3 hn3 ht du => ?_
  obtain ⟨d, rfl, hd⟩ := ht
  have hB3 := (hB1.ex x2).kps k3 S3
  have k13 := (Kp.of x2).trans k3
  refine vd_catT (K := K) (B := B) (σ := σ) (H := H3) (ta := tC v) (tb := tC u) (ds := xs) (es := [d]) (fun H4 x4 Q q => q v H4 (Ex.refl H4) ((dv.kp (k3.le hS)).ex x4)) (fun H4 x4 Q q => q u H4 (Ex.refl H4) (du.ex x4)) hB3.ok (by show xs.length + 1 ≤ 100000; omega) H3 (Ex.refl H3) (fun z H4 => tb σ H4 fun y H5 => rCatA K z y H5 Q) fun z H4 x4 dz => ?_
  have hB4 := hB3.ex x4
  refine hb H4 (k.trans (k13.trans (.of x4))) hB4.ok H4 (Ex.refl H4) (fun y H5 => rCatA K z y H5 Q) fun y H5 x5 dy => ?_
  refine vd_catT (K := K) (B := B) (σ := σ) (H := H5) (ta := tC z) (tb := tC y) (ds := xs ++ [d]) (es := ys) (fun H6 x6 Q q => q z H6 (Ex.refl H6) ((dz.ex x5).ex x6)) (fun H6 x6 Q q => q y H6 (Ex.refl H6) (dy.ex x6)) (hB4.ex x5).ok (by rw [List.length_append]; show xs.length + 1 + ys.length ≤ 100000; omega) H5 (Ex.refl H5) Q fun r H6 x6 dr => ?_
  exact q r _ n' H6 (k13.trans (.of ((x4.trans x5).trans x6))) (S3.exx ((x4.trans x5).trans x6)) hn3 ⟨d, rfl, hd⟩ dr
/-- a test that draws -/
def EvTS (ds ca la : Addr) (c : Nat) (t : TT) (σ : L2.St) (H : Hp) (P : Bool → Prop) : Prop := ∀ n H1, Kp (StB ds la) H H1 → StAt ds ca la n H1 → n + c ≤ 100000000 → ∀ Q : Bool → Hp → Prop,
  (∀ b n' H2, Kp (StB ds la) H1 H2 → StAt ds ca la n' H2 → n' ≤ n + c → P b → Q b H2) → t σ H1 Q
theorem ts_pure {t : TT} {b : Bool} {P : Bool → Prop} (h : ∀ H1, Kp (StB ds la) H H1 → EvT t σ H1 b) (hp : P b) : EvTS ds ca la c t σ H P := fun n H1 k S hn Q q => h H1 k H1 (Ex.refl H1) _ fun H2 x2 => q b n H2 (.of x2) (S.exx x2) (by omega) hp
theorem ts_or {t u : TT} {b : Bool} {P : Bool → Prop} (h : ∀ H1, Kp (StB ds la) H H1 → EvT t σ H1 b) (h1 : b = true → P true) (h2 : b = false → EvTS ds ca la c u σ H P) : EvTS ds ca la c (tOr t u) σ H P := fun n H1 k S hn Q q => h H1 k H1 (Ex.refl H1) _ fun H2 x2 => by
  cases b with
  | true => exact iteT (q true n H2 (.of x2) (S.exx x2) (by omega) (h1 rfl))
  | false => exact iteF (h2 rfl n H2 (k.trans (.of x2)) (S.exx x2) hn Q fun b n' H3 k3 S3 hn3 hp => q b n' H3 ((Kp.of x2).trans k3) S3 hn3 hp)
/-- _law_draw(state, m) == 0 -/
theorem ts_zero {m : Nat} {P : Bool → Prop} (h : EvS B ds ca la c te σ H fun d => ∃ r, r < m ∧ d = .int (r : Nat)) (hp : ∀ b, P b) : EvTS ds ca la c (tTest (tOp rEq te (tC (.int 0)))) σ H P := fun n H1 k S hn Q q => h n H1 k S hn _ fun v d n' H2 k2 S2 hn2 hd dv => by
  obtain ⟨r, _, rfl⟩ := hd
  show rEq v (.int 0) H2 fun x H' => ∃ k, x = V.bl k ∧ Q k H'
  exact rd_eqI (B := B) (H := H2) (i := (r : Nat)) (j := 0) H2 (Ex.refl H2) v (.int 0) dv (.int 0 (by decide)) (fun x H' => ∃ k, x = V.bl k ∧ Q k H') fun z H3 x3 dz => ⟨_, dz.bl', q _ n' H3 (k2.trans (.of x3)) (S2.exx x3) hn2 (hp _)⟩
theorem zs_when {t : TT} {n : Nat} {P : Bool → Prop} (h : EvTS ds ca la c t σ H P) (S : StAt ds ca la n H) (hn : n + c ≤ 100000000) (h1 : ∀ n' H1, Kp (StB ds la) H H1 → StAt ds ca la n' H1 → n' ≤ n + c → ∀ D' : Ends, D'.rt = D.rt → tu D' σ H1) (h2 : P false → ∀ n' H1, Kp (StB ds la) H H1 → StAt ds ca la n' H1 → n' ≤ n + c → tw D σ H1) :
    tSeq (tIfS t tu tNext) tw D σ H := h n H (Kp.refl H) S hn _ fun b n' H1 k1 S1 hn1 hp => by
  cases b with
  | true => exact iteT (h1 n' H1 k1 S1 hn1 _ rfl)
  | false => exact iteF (h2 hp n' H1 k1 S1 hn1)
end
theorem tup_of {d : PyData} (h : isTup d = true) : ∃ xs, d = .tuple xs := by
  cases d with
  | tuple xs => exact ⟨xs, rfl⟩
  | _ => cases h
section
variable {P : Program} {w : World} {K : PySem.W.Frag} {mg : Str → Option Value} {base : Heap}
def cSp (D : Nat) : Nat := 3 * D + 1
theorem r_spoilt (T : Txt K mg) : ∀ D : Nat, D ≤ 100 → Cal P w K mg base CX0 (5 + D) "_law_spoilt" (spS (cSp D) (fun (d : PyData) => [d]) (fun d => d.depth < D ∧ d.bulk ≤ 90000) SpD) := by
  intro D
  induction D with
  | zero =>
    intro _
    obtain ⟨f, fd, Fn, hm, bnd⟩ := T.f_law_spoilt.ex
    exact ⟨f, fd, _, ⟨fun vs H Q E h => by obtain ⟨B, ds, ca, la, n, a, ws, _, _, _, _, _, _, hp, _⟩ := h; omega, fun A outer s H args us vs Q E _ _ _ _ h => by obtain ⟨B, ds, ca, la, n, a, ws, _, _, _, _, _, _, hp, _⟩ := h; omega⟩, hm, Fn.kp, bnd⟩
  | succ D ih =>
    intro hD
    have IH := ih (by omega)
    refine calS (k := 5 + D) T.f_law_spoilt sc_law_spoilt (fun _ => rfl) ?_
    intro f cdv A outer s H ws E B ds ca la n d hr hB hS St hn dv hp Dn q
    have hO := (r_odd (P := P) (w := w) (base := base) T)
    refine ⟨_, pss_cons (ps_if (pw_or (pt_not (pt_val (e_isTup T (pv 1)))) (pw_or (pt_cmpR (op_eqE (hu0 hr)) (pv 1) (pe_tup pa_nil) (nomark _)) (pw_or1 (pt_cmpR op_eq (pe_cal (r_draw T) (hr.mono (by omega)) (pa_cons (pv 0) (pa_cons pe_int pa_nil))) pe_int (nomark _))))).pt
        (pss_one (ps_ret (pe_cal hO (hr.mono (by omega)) (pa_cons (pv 0) pa_nil)))) pss_nil)
      (pss_cons (ps_par (i := 2) (j := 3) (by rfl) sc_law_spoilt.nd rfl rfl (by decide) rfl rfl (pa_cons (pe_cal (r_draw T) (hr.mono (by omega)) (pa_cons (pv 0) (pa_cons (e_len T (pv 1)) pa_nil))) (pa_cons (pe_cal (r_draw T) (hr.mono (by omega)) (pa_cons (pv 0) (pa_cons pe_int pa_nil))) pa_nil)) (by rfl))
      (pss_cons (ps_if (pt_cmpR op_lt (pv 3) pe_int (nomark _))
        (pss_one (ps_ret (pe_op op_catA (pe_op op_catA (pe_slice sl_tupA (pv 1) po_none (po_some (pv 2))) (pe_tup (pa_cons (pe_cal IH hr (pa_cons (pv 0) (pa_cons (pe_ix ix_tup (pv 1) (pv 2) (fun _ _ => rfl)) pa_nil))) pa_nil))) (pe_slice sl_tupA (pv 1) (po_some (pe_op op_add (pv 2) pe_int)) po_none)))) pss_nil)
      (pss_cons (ps_if (pt_cmpR op_eq (pv 3) pe_int (nomark _))
        (pss_one (ps_ret (pe_op op_catA (pe_slice sl_tupA (pv 1) po_none (po_some (pv 2))) (pe_slice sl_tupA (pv 1) (po_some (pe_op op_add (pv 2) pe_int)) po_none)))) pss_nil)
      (pss_cons (ps_if (pt_cmpR op_eq (pv 3) pe_int (nomark _))
        (pss_one (ps_ret (pe_op op_catA (pe_op op_catA (pe_slice sl_tupA (pv 1) po_none (po_some (pv 2))) (pe_op op_repT (pe_slice sl_tupA (pv 1) (po_some (pv 2)) (po_some (pe_op op_add (pv 2) pe_int))) pe_int)) (pe_slice sl_tupA (pv 1) (po_some (pe_op op_add (pv 2) pe_int)) po_none)))) pss_nil)
      (pss_cons (ps_if (pt_cmpR op_eq (pv 3) pe_int (nomark _))
        (pss_one (ps_ret (pe_op op_catA (pe_op op_catA (pe_slice sl_tupA (pv 1) po_none (po_some (pv 2))) (pe_tup (pa_cons (pe_cal hO (hr.mono (by omega)) (pa_cons (pv 0) pa_nil)) pa_nil))) (pe_slice sl_tupA (pv 1) (po_some (pv 2)) po_none)))) pss_nil)
      (pss_cons (ps_if (pt_cmpR op_eq (pv 3) pe_int (nomark _))
        (pss_one (ps_ret (pe_op op_catA (pe_op op_catA (pe_slice sl_tupA (pv 1) po_none (po_some (pv 2))) (pe_tup (pa_cons (pe_tup (pa_cons pe_str (pa_cons (pe_tup (pa_cons pe_str (pa_cons pe_str pa_nil))) (pa_cons (pe_tup pa_nil) (pa_cons (pe_tup pa_nil) (pa_cons (pe_tup (pa_cons (pv 1) pa_nil)) pa_nil)))))) pa_nil))) (pe_slice sl_tupA (pv 1) (po_some (pv 2)) po_none)))) pss_nil)
      (pss_one (ps_ret (pe_ifExp (pt_cmpR op_eq (pv 3) pe_int (nomark _)) (pe_callTy call_list_of (by rfl) T.b_list (by decide +kernel) (pa_cons (pv 1) pa_nil)) (pe_op op_catA (pe_slice sl_tupA (pv 1) (po_some (pv 2)) po_none) (pe_slice sl_tupA (pv 1) po_none (po_some (pv 2))))))))))))), ?_⟩
    obtain ⟨v1, rfl, d1⟩ := dv.one'
    have hcs : cSp (D + 1) = cSp D + 3 := by unfold cSp; omega
    have hc1 : 1 ≤ cSp D := by unfold cSp; omega
    have fitc : ∀ i : Nat, i ≤ 100000 → ((i : Nat) : Int).natAbs < 10 ^ 39 := fun i h => fit_nat h
    refine zs_when (c := 1) (P := fun b => b = false → ∃ xs, d = .tuple xs ∧ xs.isEmpty = false) (ts_or (b := !isTup d) (fun H1 k1 => et_not (vt_B (B := B) (vd_isTup (vd_var rfl (d1.kp (k1.le hS)))))) (fun _ h => by cases h) fun hb => ?_) St (by omega) (fun n1 H1 k1 S1 hn1 D' hrt => ?_) (fun hP n1 H1 k1 S1 hn1 => ?_)
    · obtain ⟨xs, rfl⟩ := tup_of (show isTup d = true by simpa using hb)
      refine ts_or (b := xs.isEmpty) (fun H1 k1 => vt_test (vd_cmpET (B := B) (neg := false) (vd_var rfl (d1.kp (k1.le hS))))) (fun _ h => by cases h) fun he => ts_zero (B := B) (m := 9) (vs_draw rfl (fun H2 k2 => vi_c rfl) (by decide) (by decide)) fun b _ => ⟨xs, rfl, he⟩
    · refine zs_ret (vs_call () (hB.kps k1 S1) hS rfl (fun H2 k2 => va_nil) trivial) S1 (by omega) fun v e n2 H2 k2 S2 hn2 he de => ?_
      rw [hrt]
      exact q v e n2 H2 (k1.trans k2) S2 (by omega) (spOdd he) de
    obtain ⟨xs, rfl, hne⟩ := hP rfl
    have hpos : 0 < xs.length := by
      cases xs with
      | nil => cases hne
      | cons a r => exact Nat.succ_pos _
    have hlen : xs.length ≤ 90000 := by
      have := len_bulk xs
      have := hp.2
      rw [bulkT] at this
      omega
    refine zs_par (B := B) (c1 := 1) (c2 := 1) hS (vs_draw (m := xs.length) rfl (fun H2 k2 => fun H3 x3 Q q => ?_) hpos (by omega)) (fun n2 H2 k2 S2 => vs_draw (m := 14) rfl (fun H3 k3 => vi_c rfl) (by decide) (by decide)) S1 (by omega) fun v u d2 e2 n3 H3 k3 S3 hn3 hd2 he2 dv2 du2 => ?_
    · exact vd_len (vd_var rfl ((d1.kp (k1.le hS)).kp (k2.le hS))) rfl rfl H3 x3 Q fun v H4 x4 dv4 => by rw [dv4.int']; exact q _ H4 x4 rfl
    obtain ⟨i, hi, rfl⟩ := hd2
    obtain ⟨w, hw, rfl⟩ := he2
    rw [dv2.int', du2.int']
    have hB1 := hB.kps k1 S1
    have hB3 := hB1.kps k3 S3
    have k03 := k1.trans k3
    have d3 := d1.kp (k03.le hS)
    obtain ⟨d0, hd0⟩ : ∃ d0, xs[i]? = some d0 := ⟨xs[i], List.getElem?_eq_getElem hi⟩
    have fw := fitc w (by omega)
    show tSeq _ _ _ [some (.ref ds), some v1, some (.int (i : Nat)), some (.int (w : Nat))] H3
    have vAt : ∀ H4, EvI (tVar 2) [some (.ref ds), some v1, some (.int (i : Nat)), some (.int (w : Nat))] H4 fun k => k = (i : Nat) := fun H4 => vi_var rfl rfl
    have vAt1 : ∀ H4, EvI (tOp (rI0 fun i j => .int (i + j)) (tVar 2) (tC (.int 1))) [some (.ref ds), some v1, some (.int (i : Nat)), some (.int (w : Nat))] H4 fun k => k = ((i + 1 : Nat) : Int) := fun H4 => vi_op0 (φ := fun k => k = (i : Nat)) (ψ := fun k => k = 1) (vi_var rfl rfl) (vi_c rfl) (by rintro a b rfl rfl; rfl)
    have vTh : ∀ H4, Kp (StB ds la) H3 H4 → EvD B (tVar 1) [some (.ref ds), some v1, some (.int (i : Nat)), some (.int (w : Nat))] H4 (.tuple xs) := fun H4 k4 => vd_var rfl (d3.kp (k4.le hS))
    have vW : ∀ H4, EvD B (tVar 3) [some (.ref ds), some v1, some (.int (i : Nat)), some (.int (w : Nat))] H4 (.int (w : Nat)) := fun H4 => vd_var rfl (.int _ fw)
    refine z_when (b := decide (w < 8)) (vt_test (B := B) (vd_ltN (vW _) (vd_nat (n := 8)))) (fun hb H4 x4 D' hrt => ?_) (fun hb H4 x4 => ?_)
    · refine zs_ret (vs_mid (c := cSp D) (φ := SpD d0) (hB3.ex x4) hS (fun H5 k5 ok5 => vd_to ok5 (vTh _ ((Kp.of x4).trans k5)) (vAt _) (by omega)) (vs_call d0 (hB3.ex x4) hS rfl (fun H5 k5 => va_cons (vd_ixI (vTh _ ((Kp.of x4).trans k5)) (vAt _) hd0) va_nil) ?_) (fun H5 k5 ok5 => vd_from ok5 (vTh _ ((Kp.of x4).trans k5)) (vAt1 _) (by omega)) (by rw [List.length_take, List.length_drop]; omega)) (S3.exx x4) (by omega) fun v e n5 H5 k5 S5 hn5 he de => ?_
      · have b1 := bulk_split xs i
        have dd1 := depth_split xs i
        rw [drop_cons hd0, bulk_cons] at b1
        rw [drop_cons hd0, depth_cons] at dd1
        have h1 := hp.1
        have h2 := hp.2
        rw [depthT] at h1
        rw [bulkT] at h2
        constructor <;> omega
      · obtain ⟨e, rfl, he⟩ := he
        rw [hrt]
        exact q v _ n5 H5 ((k03.trans (.of x4)).trans k5) S5 (by omega) (spRec hd0 he) de
    refine z_when (b := decide (w = 8)) (vt_test (B := B) (vd_eqN (vW _) (vd_nat (n := 8)))) (fun hb H5 x5 D' hrt => ?_) (fun hb H5 x5 => ?_)
    · have x := x4.trans x5
      have hB5 := hB3.ex x
      refine sd_ret (vd_catT (vd_to hB5.ok (vTh _ (.of x)) (vAt _) (by omega)) (vd_from hB5.ok (vTh _ (.of x)) (vAt1 _) (by omega)) hB5.ok (by rw [List.length_take, List.length_drop]; omega)) fun v H6 x6 dv => ?_
      rw [hrt]
      exact q v _ n3 H6 (k03.trans (.of (x.trans x6))) (S3.exx (x.trans x6)) (by omega) spDrop dv
    refine z_when (b := decide (w = 9)) (vt_test (B := B) (vd_eqN (vW _) (vd_nat (n := 9)))) (fun hb H6 x6 D' hrt => ?_) (fun hb H6 x6 => ?_)
    · have x := (x4.trans x5).trans x6
      have hB5 := hB3.ex x
      refine sd_ret (vd_catT (vd_catT (vd_to hB5.ok (vTh _ (.of x)) (vAt _) (by omega)) (vd_two hB5.ok (vd_at1 hB5.ok (vTh _ (.of x)) (vAt _) (vAt1 _) hd0)) hB5.ok (by rw [List.length_take]; show _ + 2 ≤ 100000; omega)) (vd_from hB5.ok (vTh _ (.of x)) (vAt1 _) (by omega)) hB5.ok (by rw [List.length_append, List.length_take, List.length_drop]; show _ + 2 + _ ≤ 100000; omega)) fun v H7 x7 dv => ?_
      rw [hrt]
      exact q v _ n3 H7 (k03.trans (.of (x.trans x7))) (S3.exx (x.trans x7)) (by omega) (spTwice hd0) dv
    refine z_when (b := decide (w = 10)) (vt_test (B := B) (vd_eqN (vW _) (vd_nat (n := 10)))) (fun hb H7 x7 D' hrt => ?_) (fun hb H7 x7 => ?_)
    · have x := ((x4.trans x5).trans x6).trans x7
      have hB5 := hB3.ex x
      refine zs_ret (vs_mid (c := 1) (φ := OddD) hB5 hS (fun H8 k8 ok8 => vd_to ok8 (vTh _ ((Kp.of x).trans k8)) (vAt _) (by omega)) (vs_call () hB5 hS rfl (fun H8 k8 => va_nil) trivial) (fun H8 k8 ok8 => vd_from ok8 (vTh _ ((Kp.of x).trans k8)) (vAt _) (by omega)) (by rw [List.length_take, List.length_drop]; omega)) (S3.exx x) (by omega) fun v e n8 H8 k8 S8 hn8 he de => ?_
      obtain ⟨e, rfl, he⟩ := he
      rw [hrt]
      refine q v _ n8 H8 ((k03.trans (.of x)).trans k8) S8 (by omega) (spPut ⟨spOdd he, .inr trivial, ?_, ?_⟩) de
      · have := (l_odd e he).b
        omega
      · have := (l_odd e he).d
        omega
    refine z_when (b := decide (w = 11)) (vt_test (B := B) (vd_eqN (vW _) (vd_nat (n := 11)))) (fun hb H8 x8 D' hrt => ?_) (fun hb H8 x8 => ?_)
    · have x := (((x4.trans x5).trans x6).trans x7).trans x8
      have hB5 := hB3.ex x
      have ok := hB5.ok
      refine sd_ret (vd_catT (es := xs.drop i) (ds := xs.take i ++ [wrapD (.tuple xs)]) (vd_catT (ds := xs.take i) (es := [wrapD (.tuple xs)]) (vd_to ok (vTh _ (.of x)) (vAt _) (by omega)) (vd_tup ok (va_cons (vd_tup ok (va_cons vd_str (va_cons (vd_tup ok (va_cons vd_str (va_cons vd_str va_nil)) (by decide)) (va_cons (vd_tup ok va_nil (by decide)) (va_cons (vd_tup ok va_nil (by decide)) (va_cons (vd_tup ok (va_cons (vTh _ (.of x)) va_nil) (by show 1 ≤ 100000; decide)) va_nil))))) (by show 5 ≤ 100000; decide)) va_nil) (by show 1 ≤ 100000; decide)) ok (by rw [List.length_take]; show _ + 1 ≤ 100000; omega)) (vd_from ok (vTh _ (.of x)) (vAt _) (by omega)) ok (by rw [List.length_append, List.length_take, List.length_drop]; show _ + 1 + _ ≤ 100000; omega)) fun v H9 x9 dv => ?_
      rw [hrt]
      exact q v _ n3 H9 (k03.trans (.of (x.trans x9))) (S3.exx (x.trans x9)) (by omega) spWrap dv
    have x := (((x4.trans x5).trans x6).trans x7).trans x8
    have hB5 := hB3.ex x
    have ok := hB5.ok
    by_cases h12 : w = 12
    · refine sd_ret (d := .list xs) (vd_if (b := true) (vt_test (B := B) (vd_is (vd_eqN (vW _) (vd_nat (n := 12))) (by rw [decide_eq_true h12]))) (fun _ => vd_listT ok (vTh _ (.of x))) fun h => by cases h) fun v H9 x9 dv => ?_
      exact q v _ n3 H9 (k03.trans (.of (x.trans x9))) (S3.exx (x.trans x9)) (by omega) spList dv
    · refine sd_ret (d := .tuple (xs.drop i ++ xs.take i)) (vd_if (b := false) (vt_test (B := B) (vd_is (vd_eqN (vW _) (vd_nat (n := 12))) (by rw [decide_eq_false h12]))) (fun h => by cases h) fun _ => vd_catT (vd_from ok (vTh _ (.of x)) (vAt _) (by omega)) (vd_to ok (vTh _ (.of x)) (vAt _) (by omega)) ok (by rw [List.length_take, List.length_drop]; omega)) fun v H9 x9 dv => ?_
      exact q v _ n3 H9 (k03.trans (.of (x.trans x9))) (S3.exx (x.trans x9)) (by omega) spTurn dv
end
end G
set_option maxHeartbeats 1000000
/-! _law_begin -/
namespace G
open PySem PySem.Spec PyProof.Rows L2 Evl
section
variable {K : PySem.W.Frag} {σ : L2.St} {H : Hp} {te : TE}
/-- [e for x in xs], ints -/
theorem lc_ints {k j : Nat} {p : Addr} {ls : List Int} {F : Int → Int} {vs : List Nat} (hσ : σ[k]? = some (some (.ref p))) (hp : H p = some (.lst (ls.map V.int))) (hl : ls.length ≤ 100000) (hw : ∀ v, wipe ((wipe σ vs).set j (some v)) vs = wipe σ vs)
    (he : ∀ H1 i, EvI te ((wipe σ vs).set j (some (.int i))) H1 fun r => r = F i) {Q : VK} (q : ∀ D H2, H D = none → Ex H H2 → H2 D = some (.lst ((ls.map F).map V.int)) → Q (.ref D) H2) : tLc (iList K (tVar k)) (gName j) tYes te vs σ H Q := by
  refine ⟨_, hσ, p, rfl, ⟨_, SqL.of hp⟩, fun D hD => ?_⟩
  refine lc_it (walk_list (K := K) (a := p) (xs := ls.map V.int)) (fun i H3 => Ex H H3 ∧ H3 D = some (.lst (((ls.take i).map F).map V.int))) ⟨Ex.new hD, upd_same⟩ (fun i H3 _ h => SqL.of (h.1 p _ hp)) ?_ ?_
  · rintro i x H3 H4 hi ⟨x3, h3⟩ ⟨rfl, hx⟩
    rw [List.getElem?_map] at hx
    obtain ⟨a, ha, rfl⟩ := Option.map_eq_some_iff.mp hx
    refine ⟨hw _, ?_⟩
    unfold tYes
    simp only [if_true]
    refine he _ a _ (Ex.refl _) _ fun r H5 x5 hr => ⟨_, x5 D _ h3, ?_, ?_⟩
    · rw [List.length_map, List.length_map, List.length_take]
      have := sizeLine_eq
      omega
    · subst hr
      refine ⟨(x3.trans x5).mut hD, ?_⟩
      rw [upd_same, take_succ_of ha, List.map_append, List.map_append]
      rfl
  · rintro H3 ⟨x3, h3⟩
    rw [List.length_map, List.take_length] at h3
    exact q D H3 hD x3 h3
end
theorem mergeS (ca la : V) : mergeK [] [(.inr "cells", ca), (.inr "lefts", la), (.inr "at", .int 0), (.inr "room", .int 0)] = [(.inr "cells", ca), (.inr "lefts", la), (.inr "at", .int 0), (.inr "room", .int 0)] := by
  have h1 : ¬ (Sum.inr (Str.ofString "cells") : Key) = .inr (Str.ofString "lefts") := by decide +kernel
  have h2 : ¬ (Sum.inr (Str.ofString "cells") : Key) = .inr (Str.ofString "at") := by decide +kernel
  have h3 : ¬ (Sum.inr (Str.ofString "cells") : Key) = .inr (Str.ofString "room") := by decide +kernel
  have h4 : ¬ (Sum.inr (Str.ofString "lefts") : Key) = .inr (Str.ofString "at") := by decide +kernel
  have h5 : ¬ (Sum.inr (Str.ofString "lefts") : Key) = .inr (Str.ofString "room") := by decide +kernel
  have h6 : ¬ (Sum.inr (Str.ofString "at") : Key) = .inr (Str.ofString "room") := by decide +kernel
  simp [mergeK, putK, h1, h2, h3, h4, h5, h6]
theorem noneOf {H H' : Hp} (x : Ex H H') {p : Addr} (h : H' p = none) : H p = none := (Kp.of (B := fun _ => False) x).dom p h
theorem g_name' {i : Nat} {v : V} {σ : L2.St} {H : Hp} {k : L2.St → Hp → Prop} (h : k (σ.set i (some v)) H) : gName i v σ H k := h
def spBegin (K : PySem.W.Frag) : Sp := fun vs H Q _ => ∃ (p : Addr) (cs : List Int), vs = [.ref p] ∧ SqL K H p (cs.map V.int) ∧ cs.length ≤ 1000 ∧ ∀ ds ca la H', Ex H H' → H ds = none → H ca = none → H la = none → StAt ds ca la 0 H' → Q (.ref ds) H'
section
variable {P : Program} {w : World} {K : PySem.W.Frag} {mg : Str → Option Value} {base : Heap}
theorem r_begin (T : Txt K mg) : Cal P w K mg base CX0 1 "_law_begin" (spBegin K) := by
  refine cal_of (k := 0) T.f_law_begin sc_law_begin (fun vs H Q E h => by obtain ⟨p, cs, rfl, _⟩ := h; rfl) ?_
  rintro f cdv A outer s H vs Q E hr ⟨p, cs, rfl, hp, hl, q⟩
  refine ⟨_, pss_cons (ps_set (i := 1) sc_law_begin.nd rfl (Or.inl rfl) (pe_ifExp (pt_cmpR (op_neE (hu0 hr)) (pv 0) (pe_lst pa_nil) (nomark _)) (pe_callTy call_list_of (by rfl) T.b_list (by decide +kernel) (pa_cons (pv 0) pa_nil)) (pe_lst (pa_cons pe_int pa_nil))))
    (pss_one (ps_ret (pe_disp (pps_cons pe_str (pv 1) (pps_cons pe_str (pe_lc (own := [("cell", 2)]) (g := gName 2) (te := tIf (tTest (tOp (rI0 fun i j => .bl (decide (j ≤ i))) (tVar 2) (tOp (rI CPow fun i j => .int (i ^ j.toNat)) (tC (.int 10)) (tC (.int 18))))) (tVar 2) (tC (.int 0))) (by rfl) sc_law_begin.nd (pi_list (pv 1)) (blkOk_by (own := [("cell", 2)]) (N := n_law_begin) (sc := defScope s_law_begin) (by decide +kernel)) (fun s H C cl fp => pg_name (i := 2) sc_law_begin.nd rfl (Or.inl rfl)) (fun s H C cl fp => pts_nil) (fun s H C cl fp => pe_ifExp (pt_cmpR op_ge (pv 2) (pe_op op_pow pe_int pe_int) (nomark _)) (pv 2) pe_int)) (pps_cons pe_str pe_int (pps_cons pe_str pe_int pps_nil)))) (by rfl) (by rfl) (by simp) (by decide)))), ?_⟩
  have hsz : ∀ n : Nat, n ≤ 1000 → n < sizeLine ∧ n ≤ sizeLine := fun n h => by
    have := sizeLine_eq
    omega
  -- the cells
  have cells : ∀ Q : VK, (∀ (ca : Addr) (xs : List Int) (H1 : Hp), H ca = none → Ex H H1 → H1 ca = some (.lst (xs.map V.int)) → 0 < xs.length → xs.length ≤ 1000 → Q (.ref ca) H1) → tIf (tTest (tOp (rCmpE K true) (tVar 0) (tLst tNil))) (tCB (fun xs H Q => ∃ p ys, xs = [V.ref p] ∧ (SqL K H p ys ∨ SqT K H p ys) ∧ ∀ l, H l = none → Q (.ref l) (upd H l (.lst ys))) (tCons (tVar 0) tNil)) (tLst (tCons (tC (.int 0)) tNil)) [some (.ref p), none, none] H Q := by
    intro Q q
    refine vt_test (B := fun _ => False) (vd_cmpL (neg := true) (ev_var rfl) hp) H (Ex.refl H) _ fun H1 x1 => ?_
    cases hc : cs.isEmpty with
    | true =>
      have e : (if true = true then !(cs.map V.int).isEmpty else (cs.map V.int).isEmpty) = false := by
        rw [isEmpty_len (List.length_map _), hc]
        rfl
      rw [e]
      refine iteF ⟨by show 1 ≤ sizeLine; decide, fun ca hca => q ca [0] _ (noneOf x1 hca) (x1.trans (Ex.new hca)) upd_same (by decide) (by decide)⟩
    | false =>
      have e : (if true = true then !(cs.map V.int).isEmpty else (cs.map V.int).isEmpty) = true := by
        rw [isEmpty_len (List.length_map _), hc]
        rfl
      rw [e]
      refine iteT ⟨_, rfl, p, _, rfl, .inl (ex_l x1 hp), fun ca hca => q ca cs _ (noneOf x1 hca) (x1.trans (Ex.new hca)) upd_same ?_ hl⟩
      cases cs with
      | nil => cases hc
      | cons a r => exact Nat.succ_pos _
  refine cells _ fun ca xs H1 hca x1 h1 hx0 hxl => ?_
  refine g_name' ?_
  show tDisp _ [some (.ref p), some (.ref ca), none] H1 _
  intro ds hds
  have xd : Ex H1 (upd H1 ds (.dK [])) := Ex.new hds
  have ca1 : (upd H1 ds (.dK [])) ca = some (.lst (xs.map V.int)) := xd ca _ h1
  refine ⟨_, rfl, ?_⟩
  show tLc (iList K (tVar 1)) (gName 2) tYes _ [2] [some (.ref p), some (.ref ca), none] (upd H1 ds (.dK [])) (fun y H2 => H2 ds = some (HO.dK []) ∧ ∃ kvs : List (Key × V), [(V.str "cells", V.ref ca), (.str "lefts", y), (.str "at", .int 0), (.str "room", .int 0)] = kvs.map (fun kv => (kV kv.1, kv.2)) ∧ kvs.length ≤ 15 ∧ Q (.ref ds) (upd H2 ds (.dK (mergeK [] kvs))))
  refine lc_ints (σ := [some (.ref p), some (.ref ca), none]) (H := upd H1 ds (.dK [])) (vs := [2]) (j := 2) (k := 1) (p := ca) (ls := xs) (F := fun i => if 10 ^ 18 ≤ i then i else 0) rfl ca1 (by omega) (fun v => rfl) (fun H2 i => ?_) fun la H3 hla x3 h3 => ?_
  · intro H4 x4 Q q
    refine ⟨_, rfl, 10, 18, rfl, rfl, ⟨by decide, by decide, by decide +kernel⟩, i, _, rfl, rfl, _, rfl, ?_⟩
    by_cases h : (10 : Int) ^ 18 ≤ i
    · rw [decide_eq_true (show (10 : Int) ^ (18 : Int).toNat ≤ i from h)]
      exact iteT ⟨_, rfl, q i H4 (Ex.refl _) (by rw [if_pos h])⟩
    · rw [decide_eq_false (show ¬ (10 : Int) ^ (18 : Int).toNat ≤ i from h)]
      exact iteF (q 0 H4 (Ex.refl _) (by rw [if_neg h]))
  · have nds : la ≠ ds := (ne_of_none upd_same hla).symm
    have hds3 := x3 ds _ upd_same
    have nca : ds ≠ ca := (ne_of_none h1 hds).symm
    have ncl : ca ≠ la := ne_of_none ca1 hla
    have hla1 : H1 la = none := noneOf xd hla
    refine ⟨hds3, [(.inr "cells", .ref ca), (.inr "lefts", .ref la), (.inr "at", .int 0), (.inr "room", .int 0)], rfl, by simp, ?_⟩
    rw [mergeS]
    refine q ds ca la _ ?_ (noneOf x1 hds) hca (noneOf x1 hla1) ⟨upd_same, ⟨xs, xs.map fun i => if 10 ^ 18 ≤ i then i else 0, ?_, ?_, by rw [List.length_map], hx0⟩, nca, nds.symm, ncl⟩
    · exact x1.trans ((xd.trans x3).mut hds)
    · rw [upd_ne nca.symm]
      exact x3 ca _ ca1
    · rw [upd_ne nds]
      exact h3
end
end G
set_option maxHeartbeats 1000000
/-! lambdas: what is tracked of them while another def runs -/
namespace G
open PySem PySem.Spec PyProof.Rows L2 Evl LamX NdefX
/-! ### captured cells, tracked by what they hold -/
/-- the cell's object is p.1 and stays it; it holds p.2 -/
def CellO (c : Addr) (p : Obj × V) : HO := .frz p.1 (.ext fun h => ∃ u, L2.RelV p.2 u ∧ h.IsCell c (some u))
theorem cellO_ok {P : Program} {w : World} {H : Hp} {h : Heap} {c : Addr} {o : Obj} {v : V} {u : Value} (r : L2.RelV v u) (e : h.get? c = some o) (d : o.data = .cell (some u)) : ObjOk P w H h c (CellO c (o, v)) := by
  refine ⟨e, ⟨u, r, o, e, d⟩, ⟨o, e⟩, ?_⟩
  rintro h1 h2 ⟨u1, r1, o1, e1, d1⟩ st
  exact ⟨u1, r1, o1, st _ e1, d1⟩
def dropC (cs : List (Addr × Obj × V)) (H : Hp) : Hp := fun b => match cs.lookup b with
  | some _ => none
  | none => H b
def backC (cs : List (Addr × Obj × V)) (H : Hp) : Hp := fun b => match cs.lookup b with
  | some v => some (CellO b v)
  | none => H b
/-- the cells are tracked -/
def HasC (cs : List (Addr × Obj × V)) (H : Hp) : Prop := ∀ b v, cs.lookup b = some v → H b = some (CellO b v)
section
variable {P : Program} {w : World} {cs : List (Addr × Obj × V)} {H H' : Hp} {h h' B : Heap} {b : Addr} {o : HO} {fs : List Addr}
theorem dropC_no (e : cs.lookup b = none) : dropC cs H b = H b := by
  unfold dropC
  rw [e]
theorem dropC_yes {v : Obj × V} (e : cs.lookup b = some v) : dropC cs H b = none := by
  unfold dropC
  rw [e]
theorem backC_no (e : cs.lookup b = none) : backC cs H b = H b := by
  unfold backC
  rw [e]
theorem backC_yes {v : Obj × V} (e : cs.lookup b = some v) : backC cs H b = some (CellO b v) := by
  unfold backC
  rw [e]
theorem dropC_of (e : dropC cs H b = some o) : H b = some o ∧ cs.lookup b = none := by
  cases q : cs.lookup b with
  | none =>
    rw [dropC_no q] at e
    exact ⟨e, rfl⟩
  | some v =>
    rw [dropC_yes q] at e
    cases e
theorem HasC.out (hc : HasC cs H) (e : H b = some o) (n : ∀ v, o ≠ CellO b v) : cs.lookup b = none := by
  cases q : cs.lookup b with
  | none => rfl
  | some v =>
    rw [hc b v q] at e
    cases e
    exact absurd rfl (n v)
theorem HasC.non (hc : HasC cs H) (e : H b = none) : cs.lookup b = none := by
  cases q : cs.lookup b with
  | none => rfl
  | some v =>
    rw [hc b v q] at e
    cases e
theorem hok_drop (hc : HasC cs H) (k : HOk P w H h) : HOk P w (dropC cs H) h := fun a o e => by
  obtain ⟨e1, e2⟩ := dropC_of e
  refine (k a o e1).stay (fun d u hd q => q) (fun d q => ?_) fun d xs q => ?_
  · rw [dropC_no (hc.out q fun v z => by cases z)]
    exact q
  · rw [dropC_no (hc.out q fun v z => by cases z)]
    exact q
theorem hok_back (hc : ∀ b v, cs.lookup b = some v → H' b = none ∧ ObjOk P w H' h' b (CellO b v)) (k : HOk P w H' h') : HOk P w (backC cs H') h' := fun a o e => by
  have st : ∀ b o, H' b = some o → backC cs H' b = some o := fun b o e => by
    cases q : cs.lookup b with
    | none => rw [backC_no q]; exact e
    | some v => rw [(hc b v q).1] at e; cases e
  have go : ∀ o, ObjOk P w H' h' a o → ObjOk P w (backC cs H') h' a o := fun o x => x.stay (fun d u hd q => q) (fun d q => st _ _ q) fun d xs q => st _ _ q
  cases q : cs.lookup a with
  | none =>
    rw [backC_no q] at e
    exact go _ (k a o e)
  | some v =>
    rw [backC_yes q] at e
    cases e
    exact go _ (hc a v q).2
theorem un_back (hc : HasC cs H) (u : Un fs [] (dropC cs H) H' h h') : Un fs [] H (backC cs H') h h' := by
  have no : ∀ b, H b = none → dropC cs H b = none := fun b e => by rw [dropC_no (hc.non e)]; exact e
  refine ⟨fun b o q n => u.keep b o q (no b n), fun b o q n => u.slot b o q (no b n), fun b o q n x => ?_, u.there, fun b xs e => ?_, fun b o v e => ?_, fun b ps e => ?_⟩
  · rw [backC_no (hc.non n)]
    exact u.free b o q (no b n) x
  · have z := hc.out e fun v z => by cases z
    rw [backC_no z]
    exact u.tups b xs (by rw [dropC_no z]; exact e)
  · cases z : cs.lookup b with
    | none =>
      rw [backC_no z]
      exact u.frzs b o v (by rw [dropC_no z]; exact e)
    | some p =>
      rw [backC_yes z, ← hc b p z]
      exact e
  · have z := hc.out e fun v z => by cases z
    rw [backC_no z]
    exact u.tbls b ps (by rw [dropC_no z]; exact e)
theorem ub_back (hc : HasC cs H) (u : UB fs (dropC cs H) H' h B h') : UB fs H (backC cs H') h B h' := by
  have no : ∀ b, H b = none → dropC cs H b = none := fun b e => by rw [dropC_no (hc.non e)]; exact e
  refine ⟨fun b o q n => u.keep b o q (no b n), u.slot, fun b o q n => ?_, u.there, fun b xs e => ?_, fun b o v e => ?_, fun b ps e => ?_⟩
  · rw [backC_no (hc.non n)]
    exact u.free b o q (no b n)
  · have z := hc.out e fun v z => by cases z
    rw [backC_no z]
    exact u.tups b xs (by rw [dropC_no z]; exact e)
  · cases z : cs.lookup b with
    | none =>
      rw [backC_no z]
      exact u.frzs b o v (by rw [dropC_no z]; exact e)
    | some p =>
      rw [backC_yes z, ← hc b p z]
      exact e
  · have z := hc.out e fun v z => by cases z
    rw [backC_no z]
    exact u.tbls b ps (by rw [dropC_no z]; exact e)
theorem cell_at (hc : HasC cs H) (k : HOk P w H h) {p : Obj × V} (e : cs.lookup b = some p) : ∃ u, L2.RelV p.2 u ∧ h.get? b = some p.1 ∧ p.1.data = .cell (some u) := by
  obtain ⟨g, ⟨u, r, o, e1, d⟩, _, _⟩ := k b _ (hc b p e)
  rw [g] at e1
  cases e1
  exact ⟨u, r, g, d⟩
/-- the cells stand aside -/
abbrev NoC (cs : List (Addr × Obj × V)) (H : Hp) : Prop := ∀ b p, cs.lookup b = some p → H b = none
/-- a call's end, the cells tracked again -/
theorem ce_back {outer : List Env} {s s' : Shared} {Q : VK} {u : Value} (hc : HasC cs H) (k : HOk P w H s.heap) (nf : ∀ b ∈ frs outer, H b = none) (h : CE outer P w (dropC cs H) s (fun v H' => NoC cs H' → Q v (backC cs H')) u s') : CE outer P w H s Q u s' := by
  obtain ⟨v, H', os, bare, un, hok, r, q⟩ := h
  refine ⟨v, backC cs H', os, bare, un_back hc un, hok_back (fun b p e => ?_) hok, r, q fun b p e => ?_⟩
  rotate_left
  · obtain ⟨u1, r1, e1, d1⟩ := cell_at hc k e
    exact un.free b _ e1 (dropC_yes e) (by simp)
  obtain ⟨u1, r1, e1, d1⟩ := cell_at hc k e
  have nb : b ∉ frs outer := fun z => by
    have := nf b z
    rw [hc b p e] at this
    cases this
  exact ⟨un.free b _ e1 (dropC_yes e) (by simp), cellO_ok r1 (un.keep b _ e1 (dropC_yes e) nb (by simp)) d1⟩
theorem cx_back {outer : List Env} {s s' : Shared} {E : XK} {u : Value} (hc : HasC cs H) (k : HOk P w H s.heap) (nf : ∀ b ∈ frs outer, H b = none) (h : L2.CX P w outer (dropC cs H) s (fun cls d H' => NoC cs H' → E cls d (backC cs H')) u s') : L2.CX P w outer H s E u s' := by
  obtain ⟨a, B, H', cls, d, e0, fl, hok, ub, na, os, bare, q⟩ := h
  have kc : ∀ b p, cs.lookup b = some p → ∃ u1, L2.RelV p.2 u1 ∧ B.get? b = some p.1 ∧ p.1.data = .cell (some u1) ∧ H' b = none := fun b p e => by
    obtain ⟨u1, r1, e1, d1⟩ := cell_at hc k e
    have nb : b ∉ frs outer := fun z => by
      have := nf b z
      rw [hc b p e] at this
      cases this
    exact ⟨u1, r1, ub.keep b _ e1 (dropC_yes e) nb, d1, ub.free b _ e1 (dropC_yes e)⟩
  have nc : NoC cs H' := fun b p e => by
    obtain ⟨_, _, _, _, n⟩ := kc b p e
    exact n
  refine ⟨a, B, backC cs H', cls, d, e0, fl, hok_back (fun b p e => ?_) hok, ub_back hc ub, ?_, os, bare, q nc⟩
  · obtain ⟨u1, r1, e1, d1, n1⟩ := kc b p e
    exact ⟨n1, cellO_ok r1 e1 d1⟩
  · cases z : cs.lookup a with
    | none => rw [backC_no z]; exact na
    | some p =>
      obtain ⟨u1, r1, e1, d1, n1⟩ := kc a p z
      rw [fl.2.1] at e1
      cases e1
end
end G
set_option maxHeartbeats 1000000
/-! lambdas: their promise; calling one -/
namespace G
open PySem PySem.Spec PyProof.Rows L2 Evl LamX NdefX
/-- the object at f is the lambda F with the body e -/
def LmO (f : Addr) (F : NF) (e : Expr) (dV : Value) : HO := .ext fun h => ∃ (od : Option Addr) (sl : Array (Option Value)) (doc pm ctv : Value), h.get? f = some (⟨.type "function", od, .func (PySem.W.kdv_fn F.name F.qual F.params (.expr e) F.scope F.cl dV doc pm (.ref F.c) ctv), sl⟩ : Obj)
/-- the object at t is the tuple of the defaults -/
def DefO (t : Addr) (dv : List Value) : HO := .ext fun h => h.get? t = some (PySem.W.kdv_tup dv)
theorem lmO_at {P : Program} {w : World} {H : Hp} {h : Heap} {f : Addr} {F : NF} {e : Expr} {dV : Value} (hok : HOk P w H h) (q : H f = some (LmO f F e dV)) : ∃ (od : Option Addr) (sl : Array (Option Value)) (doc pm ctv : Value), h.get? f = some (⟨.type "function", od, .func (PySem.W.kdv_fn F.name F.qual F.params (.expr e) F.scope F.cl dV doc pm (.ref F.c) ctv), sl⟩ : Obj) := by
  obtain ⟨z, _, _⟩ := hok f _ q
  exact z
theorem defO_at {P : Program} {w : World} {H : Hp} {h : Heap} {t : Addr} {dv : List Value} (hok : HOk P w H h) (q : H t = some (DefO t dv)) : h.get? t = some (PySem.W.kdv_tup dv) := by
  obtain ⟨z, _, _⟩ := hok t _ q
  exact z
abbrev Trk := List (Addr × HO)
def Trkd (tr : Trk) (H : Hp) : Prop := ∀ p ∈ tr, H p.1 = some p.2
theorem Trkd.ex {tr : Trk} {H H' : Hp} (h : Trkd tr H) (x : Ex H H') : Trkd tr H' := fun p hp => x _ _ (h p hp)
theorem Trkd.kp {tr : Trk} {H H' : Hp} {M : Addr → Prop} (h : Trkd tr H) (x : Kp M H H') (n : ∀ p ∈ tr, ¬ M p.1) : Trkd tr H' := fun p hp => x.keep _ _ (h p hp) (n p hp)
/-- what may be called: while tr is tracked, f keeps its promise -/
structure LamOk (P : Program) (w : World) (K : PySem.W.Frag) (mg : Str → Option Value) (base : Heap) (CX : CXT) (k : Nat) (f : Addr) (tr : Trk) (sp : Sp) : Prop where
  fn : ∀ (A : Around) (outer : List Env) (s : Shared) (H : Hp), Env0 P w K mg base A outer s H → Trkd tr H → PySem.W.FnAt f s.heap
  run : ∀ (A : Around) (outer : List Env) (s : Shared) (H : Hp) (us : List Value) (vs : List V) (Q : VK) (E : XK), Room k A → Env0 P w K mg base A outer s H → Trkd tr H → Vals vs us → sp vs H Q E → codeAny (model P w) A (.call (.ref f) ⟨us, []⟩) (CR CX outer P w H s Q E) s
section
variable {P : Program} {w : World} {K : PySem.W.Frag} {mg : Str → Option Value} {base : Heap} {CX : CXT} {k j : Nat} {f : Addr} {tr tr' : Trk} {sp sp' : Sp}
theorem LamOk.mono (o : LamOk P w K mg base CX j f tr sp) (h : j ≤ k) : LamOk P w K mg base CX k f tr sp := ⟨o.fn, fun A outer s H us vs Q E hr => o.run A outer s H us vs Q E (hr.mono h)⟩
theorem LamOk.imp (o : LamOk P w K mg base CX k f tr sp) (h : ∀ vs H Q E, Trkd tr H → sp' vs H Q E → sp vs H Q E) : LamOk P w K mg base CX k f tr sp' := ⟨o.fn, fun A outer s H us vs Q E hr e0 t r q => o.run A outer s H us vs Q E hr e0 t r (h _ _ _ _ t q)⟩
theorem LamOk.more (o : LamOk P w K mg base CX k f tr sp) (h : ∀ p ∈ tr, p ∈ tr') : LamOk P w K mg base CX k f tr' sp := ⟨fun A outer s H e0 t => o.fn A outer s H e0 fun p hp => t p (h p hp), fun A outer s H us vs Q E hr e0 t r q => o.run A outer s H us vs Q E hr e0 (fun p hp => t p (h p hp)) r q⟩
/-- a def of the module -/
theorem lamOk_fn {fd fd2 : FuncData} {ps : List Str} {oc : Value} {od : Option Addr} {osl : Array (Option Value)} (lk : K.lookup f = some ⟨oc, od, .func fd2, osl⟩) (F : FnOk P w K mg base CX k f fd ps sp) (hb : L2.Binds K fd ps []) (kp : PySem.W.keepIn K (.ref f) = true) : LamOk P w K mg base CX k f [] sp := by
  constructor
  · intro A outer s H e0 _
    have KX : K.In s.heap := e0.mod.kin.keeps fun b o e => (e0.bs b o e).1
    exact ⟨_, _, _, _, KX _ _ lk⟩
  · intro A outer s H us vs Q E hr e0 _ r q
    have KX : K.In s.heap := e0.mod.kin.keeps fun b o e => (e0.bs b o e).1
    have hl := F.len _ _ _ _ q
    have hb' := hb s us KX (by rw [List.append_nil, ← r.length]; exact hl)
    rw [List.append_nil] at hb'
    exact F.run A outer s H ⟨us, []⟩ us vs Q E hr e0 hb' r q
theorem env0_drop {A : Around} {outer : List Env} {s : Shared} {H : Hp} {cs : List (Addr × Obj × V)} (hc : HasC cs H) (e0 : Env0 P w K mg base A outer s H) : Env0 P w K mg base A outer s (dropC cs H) := by
  have no : ∀ b, H b = none → dropC cs H b = none := fun b e => by rw [dropC_no (hc.non e)]; exact e
  exact ⟨e0.frames, e0.mod, fun b o e => ⟨(e0.bs b o e).1, no b (e0.bs b o e).2⟩, e0.bsz, e0.funs, fun b hb => no b (e0.frf b hb), hok_drop hc e0.hok, e0.bare⟩
/-- THE RULE: a lambda by its body -/
theorem lamOk_of {F : NF} {e : Expr} {dV : Value} {N ps fr : List Str} {cs : List (Addr × Obj × V)} {ws : List (Option V)} {n : Nat} {dus : List Value} {dvs : List V} {te : XK → TE} (S : NScope N ps fr F.scope)
    (hf : (f, LmO f F e dV) ∈ tr) (hc : (F.c, CodeO F.c F.qual) ∈ tr) (hcs : ∀ b v, cs.lookup b = some v → (b, CellO b v) ∈ tr)
    (hcl : ∀ y c, F.cl.lookup y = some c → ∃ v, cs.lookup c = some v) (hinj : ∀ x y c, F.cl.lookup x = some c → F.cl.lookup y = some c → x = y) (hws : ws.length = fr.length)
    (hfr : ∀ (i : Nat) (y : Str), fr[i]? = some y → ∃ c p, F.cl.lookup y = some c ∧ ws[i]? = some (some p.2) ∧ cs.lookup c = some p)
    (hb : ∀ (s : Shared) (H : Hp) (doc pm ctv : Value) (us : List Value), HOk P w H s.heap → Trkd tr H → us.length = n → BindsTo s (PySem.W.kdv_fn F.name F.qual F.params (.expr e) F.scope F.cl dV doc pm (.ref F.c) ctv) ⟨us, []⟩ (ps.zip (us ++ dus)))
    (rd : Vals dvs dus) (hn : n + dus.length = ps.length)
    (hx : ∀ (outer : List Env) (s s' : Shared) (H : Hp) (E : XK) (u : Value), HasC cs H → HOk P w H s.heap → (∀ b ∈ frs outer, H b = none) → CX outer (dropC cs H) s (fun cls d H' => NoC cs H' → E cls d (backC cs H')) u s' → CX outer H s E u s')
    (hbody : ∀ (A : Around) (outer : List Env) (s : Shared) (H : Hp) (E : XK), Room k (A.deeper (envF F f s.heap.objs.size)) → PE (ncx CX P w K mg base N F f A outer s H E) e (te E)) :
    LamOk P w K mg base CX (k + 1) f tr fun vs H Q E => vs.length = n ∧ te (fun cls d H' => NoC cs H' → E cls d (backC cs H')) (startF N (vs ++ dvs) ws) (dropC cs H) fun v H' => NoC cs H' → Q v (backC cs H') := by
  constructor
  · intro A outer s H e0 t
    obtain ⟨od, sl, doc, pm, ctv, ho⟩ := lmO_at e0.hok (t _ hf)
    exact ⟨_, _, _, _, ho⟩
  intro A outer s H us vs Q E hr e0 t r ⟨hl, hq⟩
  have HC : HasC cs H := fun b v q => t _ (hcs b v q)
  have lim : s.heap.NoLimit := e0.mod.nolimit.keeps fun b o e => (e0.bs b o e).1
  obtain ⟨od, sl, doc, pm, ctv, ho⟩ := lmO_at e0.hok (t _ hf)
  have e0' := env0_drop HC e0
  have r2 : Vals (vs ++ dvs) (us ++ dus) := r.append rd
  have hl2 : (vs ++ dvs).length = ps.length := by
    rw [r2.length, List.length_append, ← r.length, hl, hn]
  have C : CellsAt F.cl fr ws s.heap (dropC cs H) := by
    refine ⟨hws, fun y c q => ?_, hinj, fun i y q => ?_⟩
    · obtain ⟨v, hv⟩ := hcl y c q
      obtain ⟨u, _, k, kd⟩ := cell_at HC e0.hok hv
      exact ⟨dropC_yes hv, _, _, k, kd⟩
    · obtain ⟨c, v, h1, h2, h3⟩ := hfr i y q
      obtain ⟨u, r, k, kd⟩ := cell_at HC e0.hok h3
      refine ⟨c, h1, fun v' hv' => ⟨u, ?_, _, k, kd⟩⟩
      rw [h2] at hv'
      cases hv'
      exact r
  refine PySem.W.kla_callFunE hr.depth ho rfl S.co S.gen rfl (codeO_at e0.hok (t _ hc)) ?_
  refine hb s H doc pm ctv us e0.hok t (by rw [← r.length]; exact hl) _ _ _ _ ?_
  refine wpAny_newFunctionEnv S.nocell (fun ⟨n, _⟩ hy => S.par n (List.of_mem_zip hy).1) (fun h₁ hns hsb => ⟨lim.fresh _ hsb, ?_⟩) S.kind
  show codeAny _ _ (.expr e (envF F f s.heap.objs.size)) _ _
  have kp : ∀ b o, s.heap.get? b = some o → h₁.get? b = some o := fun b o e => hsb.extBut b o (Nat.ne_of_lt (Heap.lt_size e)) (Heap.get?_push_of_some _ e)
  have I : Inv (ncx CX P w K mg base N F f A outer s (dropC cs H) fun cls d H' => NoC cs H' → E cls d (backC cs H')) [] (startF N (vs ++ dvs) ws) (dropC cs H) { s with heap := h₁, toks := s.toks + (ps.zip (us ++ dus)).length } := inv_startN S hr.hd e0' hl2 r2 C hns kp
  refine PySem.W.kla_codeExpr (wpAny_mono ((hbody A outer s (dropC cs H) _ (hr.deeper _)).run [] _ _ (dropC cs H) _ I hq) (fun v s' h => ?_) fun x s' h => ?_)
  · obtain ⟨v', H', J, rv, q⟩ := h
    exact ce_back HC e0.hok e0.frf ⟨v', H', J.os, J.bare, J.base, J.hok, rv, q⟩
  · exact wpAny_mono h (fun _ s'' q => hx outer s s'' H E _ HC e0.hok e0.frf q) fun x' s'' q => hx outer s s'' H E _ HC e0.hok e0.frf q
end
/-- a(e, ..), a name of the def, what it holds keeps a promise -/
def tLC (P : Program) (w : World) (K : PySem.W.Frag) (mg : Str → Option Value) (base : Heap) (CX : CXT) (k i : Nat) (E : XK) (t : TA) : TE := fun σ H Q => ∃ f tr sp, σ[i]? = some (some (V.ref f)) ∧ LamOk P w K mg base CX k f tr sp ∧ Trkd tr H ∧ t σ H fun vs H1 => Trkd tr H1 ∧ sp vs H1 Q E
section
variable {X : Cx} {CX : CXT} {k i : Nat} {E : XK} {a : Str} {e : Expr} {es : List Expr} {t : TA} {p1 pos : Pos}
theorem run_lam {f : Addr} {tr : Trk} {sp : Sp} {pins : List (Addr × Obj)} {σ : L2.St} {H : Hp} {s : Shared} {Q : VK} {us : List Value} {vs : List V} (L : LamOk X.prog X.w X.K X.mg X.base CX k f tr sp) (hr : Room k X.A) (hx : Passes CX X E)
    (I : Inv X pins σ H s) (r : Vals vs us) (ht : Trkd tr H) (h : sp vs H Q E) : wpAny (model X.prog X.w) X.A (call (.ref f) us) (EP X pins σ Q) X.xe s := by
  refine wpAny_call (codeAny_mono (L.run X.A X.stack s H us vs Q E hr I.env0 ht r h) fun r s' hq => ?_)
  cases r with
  | error e => exact hx pins σ H s e s' I hq
  | ok fl =>
    cases fl with
    | ret u => exact I.after hq
    | next => exact False.elim hq
    | brk => exact False.elim hq
    | cont => exact False.elim hq
theorem pe_lcall (hr : Room k X.A) (hx : Passes CX X E) (ha : PA X (e :: es) t) (hN : X.N[i]? = some a := by rfl) (hv : Vis X.env.scope a := by first | exact Or.inl rfl | exact Or.inr (Or.inl rfl) | exact Or.inr (Or.inr rfl)) (hd : (a == ("__debug__" : Str)) = false := by decide) (hcd : (a == ("__classdict__" : Str)) = false := by decide)
    (he : starEach (e :: es) X.env = (false, eval e X.env) :: starEach es X.env := by rfl) (hpl : (backTo pos (starEach es X.env)).any (·.1) = false := by rfl) :
    PE X (.Call (.Name a p1) (e :: es) [] pos) (tLC X.prog X.w X.K X.mg X.base CX k i E t) := by
  refine ⟨fun pins s σ H Q I h => ?_⟩
  obtain ⟨f, tr, sp, hs, L, ht, q⟩ := h
  refine wpAny_Call_Name_kw (thn ((pe_var (pos := p1) (i := i) hN hv hd hcd).run pins s σ H (fun v H1 => v = .ref f ∧ H1 = H) I ⟨.ref f, hs, rfl, rfl⟩) fun u s1 ⟨v, H1, I1, r1, ev, eH⟩ => ?_)
  subst ev eH
  obtain rfl : u = Value.ref f := r1
  refine PySem.W.callWith_F (L.fn _ _ _ _ I1.env0 ht) (thn (ha.run pos pins s1 σ _ _ I1 q) fun us s2 ⟨vs, H2, I2, r, t2, q2⟩ => ⟨L.fn _ _ _ _ I2.env0 t2, ?_⟩) he hpl
  exact run_lam L hr hx I2 r t2 q2
theorem pe_lcall0 (hr : Room k X.A) (hx : Passes CX X E) (hN : X.N[i]? = some a := by rfl) (hv : Vis X.env.scope a := by first | exact Or.inl rfl | exact Or.inr (Or.inl rfl) | exact Or.inr (Or.inr rfl)) (hd : (a == ("__debug__" : Str)) = false := by decide) (hcd : (a == ("__classdict__" : Str)) = false := by decide) :
    PE X (.Call (.Name a p1) [] [] pos) (tLC X.prog X.w X.K X.mg X.base CX k i E tNil) := by
  refine ⟨fun pins s σ H Q I h => ?_⟩
  obtain ⟨f, tr, sp, hs, L, ht, q⟩ := h
  refine wpAny_Call_Name_kw (thn ((pe_var (pos := p1) (i := i) hN hv hd hcd).run pins s σ H (fun v H1 => v = .ref f ∧ H1 = H) I ⟨.ref f, hs, rfl, rfl⟩) fun u s1 ⟨v, H1, I1, r1, ev, eH⟩ => ?_)
  subst ev eH
  obtain rfl : u = Value.ref f := r1
  refine PySem.W.callWith_F0 (L.fn _ _ _ _ I1.env0 ht) ?_
  exact run_lam (us := []) L hr hx I1 .nil ht q.2
end
end G
set_option maxHeartbeats 1000000
/-! lambdas: making one; a call that is handed one -/
namespace G
open PySem PySem.Spec PyProof.Rows L2 Evl LamX NdefX
theorem noneU {H : Hp} {a b : Addr} {o : HO} (n : H a = none) (e : upd H a o b = none) : H b = none := upd_none e
/-- the relation of heaps when a lambda is made -/
structure Mkd (T : List (Addr × Str)) (H H' : Hp) : Prop where
  ex : ExtN H H'
  dom : ∀ b, H' b = none → H b = none
  tb : Tabs T H'
theorem Mkd.trans {T : List (Addr × Str)} {H H1 H2 : Hp} (a : Mkd T H H1) (b : Mkd T H1 H2) : Mkd T H H2 := ⟨a.ex.trans b.ex, fun c h => a.dom c (b.dom c h), b.tb⟩
theorem Mkd.new {T : List (Addr × Str)} {H H1 : Hp} {p : Addr} {o : HO} (a : Mkd T H H1) (n : H1 p = none) : Mkd T H (upd H1 p o) := ⟨a.ex.trans (ExtN.of (Ex.new n)), fun c h => a.dom c (by
  by_cases e : c = p
  · rw [e]; exact n
  · rw [upd_ne e] at h; exact h), a.tb.ext (Ex.new n)⟩
theorem lmO_ok {P : Program} {w : World} {H : Hp} {h : Heap} {f : Addr} {F : NF} {e : Expr} {dV doc pm ctv : Value} (g : h.get? f = some (⟨.type "function", none, .func (PySem.W.kdv_fn F.name F.qual F.params (.expr e) F.scope F.cl dV doc pm (.ref F.c) ctv), #[]⟩ : Obj)) : ObjOk P w H h f (LmO f F e dV) :=
  ⟨⟨_, _, doc, pm, ctv, g⟩, ⟨_, g⟩, fun h1 h2 ⟨od, sl, d, p, t, z⟩ st => ⟨od, sl, d, p, t, st _ z⟩⟩
theorem defO_ok {P : Program} {w : World} {H : Hp} {h : Heap} {t : Addr} {dv : List Value} (g : h.get? t = some (PySem.W.kdv_tup dv)) : ObjOk P w H h t (DefO t dv) := ⟨g, ⟨_, g⟩, fun h1 h2 z st => st _ z⟩
/-- the lambda of these words, in the frame of X -/
def lamF (X : Cx) (params : Arguments) (scope : Scope) (c' : Addr) : NF := ⟨"<lambda>", X.env.qual ++ "<lambda>", params, [], scope, cloFrom X.env.cells scope.names [], c'⟩
section
variable {X : Cx} {T : List (Addr × Str)} {c P : Addr} {params : Arguments} {body : Expr} {scope : Scope} {pos : Pos} {pins : List (Addr × Obj)} {σ : L2.St} {H : Hp} {s : Shared} {dV : Value}
theorem lam_tail {EE Q : Value → Shared → Prop} (I : Inv X pins σ H s) (TB : TabB X.base X.mg c P) (hcode : X.env.code = .ref c) (hm : (P, X.env.qual ++ "<lambda>") ∈ T) (hu : ∀ p ∈ T, p.1 = P → p.2 = X.env.qual ++ "<lambda>") (hT : Tabs T H)
    (hfree : ∀ y ∈ scope.names, y.2 = .free → ∃ c, X.env.cells.lookup y.1 = some c)
    (k : ∀ (f c' : Addr) (H1 : Hp) (s' : Shared), Inv X pins σ H1 s' → Mkd T H H1 → H f = none → H1 f = some (LmO f (lamF X params scope c') body dV) → H1 c' = some (CodeO c' (X.env.qual ++ "<lambda>")) → Q (.ref f) s') :
    wpAny (model X.prog X.w) X.A (makeTail "<lambda>" (X.env.qual ++ "<lambda>") params (.expr body) scope X.env dV .none none pos pos.line) Q EE s := by
  obtain ⟨tp, hP, trip, am⟩ := hT _ hm
  have gP : s.heap.get? P = some { cls := .none, data := .fields tp } := I.hok P _ hP
  have bP : s.heap.BuiltinsAt X.mg P := TB.bm.keeps I.bk
  cases hc : codeAmong pos tp.toList with
  | some cv =>
    obtain ⟨c', rfl, hco⟩ := am pos cv hc
    refine PySem.W.kdv_makeTailHit (mg := X.mg) (c := c) (P := P) (ps := tp) (closure_ok hfree) I.ok.glob (I.mod.glob.keeps I.bk) hcode (TB.code.keeps I.bk) gP trip hc bP fun ctv doc h' tk hx hsz => ?_
    have J : Inv X pins σ H { s with heap := h', toks := tk } := I.kept hx
    have nF : H h'.objs.size = none := J.hok.fresh (Nat.le_refl _)
    refine k h'.objs.size c' _ _ (J.laid (a := h'.objs.size) (o := LmO h'.objs.size (lamF X params scope c') body dV) (t' := tk) (fun b u e => Heap.get?_push_of_some _ e) (Nat.le_refl _) (lmO_ok (Heap.get?_push_size _ rfl))) ?_ nF upd_same ?_
    · exact Mkd.new ⟨ExtN.refl H, fun _ h => h, hT⟩ nF
    · exact Ex.new nF _ _ hco
  | none =>
    refine PySem.W.kdv_makeTail (mg := X.mg) (c := c) (P := P) (ps := tp) (closure_ok hfree) I.ok.glob (I.mod.glob.keeps I.bk) hcode (TB.code.keeps I.bk) gP trip hc TB.gP bP fun c' ctv doc h' tk hx hge hlt hrec htb => ?_
    obtain ⟨c2, oc, vs, t, e2, hoc, hd, hv⟩ := hrec
    cases e2
    have nC : H c' = none := I.hok.fresh hge
    have J := inv_table (t' := tk) (more := #[rawInt pos.line, rawInt pos.col, .ref c']) (h' := h') I hP (fun b o hb e => hx b o hb e) htb hge ⟨oc, vs, t, hoc, hd, hv⟩
    have M1 : Mkd T H (upd (upd H P (.tbl (tp ++ #[rawInt pos.line, rawInt pos.col, .ref c']))) c' (CodeO c' (X.env.qual ++ "<lambda>"))) := by
      have stay : ∀ b o, H b = some o → (∀ q, o ≠ .tbl q) → upd (upd H P (.tbl (tp ++ #[rawInt pos.line, rawInt pos.col, .ref c']))) c' (CodeO c' (X.env.qual ++ "<lambda>")) b = some o := fun b o e n => by
        have nb : b ≠ P := fun z => by
          rw [z, hP] at e
          exact n tp (Option.some.inj e).symm
        rw [upd_ne (ne_of_none e nC), upd_ne nb, e]
      refine ⟨stay, fun b h => ?_, fun p hp => ?_⟩
      · exact upd_none (upd_none h)
      · by_cases hb : p.1 = P
        · rw [hu p hp hb, hb]
          have et : (tp ++ #[rawInt pos.line, rawInt pos.col, .ref c']).toList = tp.toList ++ [rawInt pos.line, rawInt pos.col, .ref c'] := by simp
          refine ⟨tp ++ #[rawInt pos.line, rawInt pos.col, .ref c'], ?_, ?_, ?_⟩
          · rw [upd_ne (ne_of_none hP nC)]
            exact upd_same
          · rw [et]
            exact PySem.TriplesOk_snoc _ _ _ _ trip
          · intro p' cv hcv
            rw [et] at hcv
            rcases among_app _ trip hcv with z | z
            · obtain ⟨c0, a1, a2⟩ := am p' cv z
              exact ⟨c0, a1, stay _ _ a2 codeO_ne⟩
            · exact ⟨c', z, upd_same⟩
        · obtain ⟨q, a1, a2, a3⟩ := hT p hp
          refine ⟨q, ?_, a2, fun p' cv hcv => ?_⟩
          · rw [upd_ne (ne_of_none a1 nC), upd_ne hb]
            exact a1
          · obtain ⟨c0, b1, b2⟩ := a3 p' cv hcv
            exact ⟨c0, b1, stay _ _ b2 codeO_ne⟩
    have nF := J.hok.fresh (Nat.le_refl h'.objs.size)
    refine k h'.objs.size c' _ _ (J.laid (a := h'.objs.size) (o := LmO h'.objs.size (lamF X params scope c') body dV) (t' := tk) (fun b u e => Heap.get?_push_of_some _ e) (Nat.le_refl _) (lmO_ok (Heap.get?_push_size _ rfl))) (M1.new nF) (M1.dom _ nF) upd_same ?_
    exact Ex.new nF _ _ upd_same
/-- a lambda; one with a default, a number -/
def tLam (X : Cx) (T : List (Addr × Str)) (params : Arguments) (scope : Scope) (body : Expr) : TE := fun _ H Q => Tabs T H ∧ ∀ f c' H1, Mkd T H H1 → H f = none → H1 f = some (LmO f (lamF X params scope c') body .none) → H1 c' = some (CodeO c' (X.env.qual ++ "<lambda>")) → Q (.ref f) H1
def tLamD (X : Cx) (T : List (Addr × Str)) (params : Arguments) (scope : Scope) (body : Expr) (i : Int) : TE := fun _ H Q => Tabs T H ∧ ∀ f c' t tk H1, Mkd T H H1 → H f = none → H t = none → H1 t = some (DefO t [.int i tk]) → H1 f = some (LmO f (lamF X params scope c') body (.ref t)) → H1 c' = some (CodeO c' (X.env.qual ++ "<lambda>")) → Q (.ref f) H1
theorem pe_lam (TB : TabB X.base X.mg c P) (hcode : X.env.code = .ref c) (hm : (P, X.env.qual ++ "<lambda>") ∈ T) (hu : ∀ p ∈ T, p.1 = P → p.2 = X.env.qual ++ "<lambda>") (hfree : X.Ok → ∀ y ∈ scope.names, y.2 = .free → ∃ c, X.env.cells.lookup y.1 = some c) (hdef : defaultsOf params X.env = ([], [])) :
    PE X (.Lambda params body scope pos) (tLam X T params scope body) := ⟨fun pins s σ H Q I h => by
  refine PySem.W.kla_eval hdef ?_
  rw [makeFunction_eq]
  simp only [List.zip_nil_right, List.filterMap_nil, List.isEmpty_nil, if_true, pure_bind]
  exact lam_tail I TB hcode hm hu h.1 (hfree I.ok) fun f c' H1 s' J M n e1 e2 => ⟨.ref f, H1, J, rfl, h.2 f c' H1 M n e1 e2⟩⟩
theorem pe_lamD {i : Int} {j : Nat} {p2 : Pos} (TB : TabB X.base X.mg c P) (hcode : X.env.code = .ref c) (hm : (P, X.env.qual ++ "<lambda>") ∈ T) (hu : ∀ p ∈ T, p.1 = P → p.2 = X.env.qual ++ "<lambda>") (hfree : X.Ok → ∀ y ∈ scope.names, y.2 = .free → ∃ c, X.env.cells.lookup y.1 = some c) (hdef : params.defaults = [.Constant (.int i) j p2]) (hk : params.kw_defaults = []) :
    PE X (.Lambda params body scope pos) (tLamD X T params scope body i) := ⟨fun pins s σ H Q I h => by
  refine PySem.W.kdv_lam (by rw [hdef]; rfl) hk ?_
  rw [hdef]
  refine PySem.W.kdv_all1 (wpAny_mono ((pe_int (X := X) (i := i) (j := j) (pos := p2)).run pins s σ H (fun v H1 => v = .int i ∧ H1 = H) I ⟨rfl, rfl⟩) (fun v s1 q => ?_) fun _ _ x => x)
  obtain ⟨v', H1, I1, r, rfl, rfl⟩ := q
  obtain ⟨tk, rfl⟩ := r
  refine PySem.W.kdv_all0 ?_
  rw [makeFunction_eq]
  simp only [List.zip_nil_right, List.filterMap_nil, List.isEmpty_nil, if_true, pure_bind, List.isEmpty_cons, Bool.false_eq_true, if_false]
  refine wpAny_bind (wpAny_newTextTuple ?_)
  have nT := I1.hok.fresh (Nat.le_refl s1.heap.objs.size)
  have I2 := I1.laid (a := s1.heap.objs.size) (o := DefO s1.heap.objs.size [.int i tk]) (h' := s1.heap.push (PySem.W.kdv_tup [.int i tk])) (t' := s1.toks) (fun b u e => Heap.get?_push_of_some _ e) (Nat.le_refl _) (defO_ok (Heap.get?_push_size _ rfl))
  refine lam_tail I2 TB hcode hm hu (h.1.ext (Ex.new nT)) (hfree I.ok) fun f c' H1 s' J M n e1 e2 => ⟨.ref f, H1, J, rfl, h.2 f c' _ tk H1 ?_ (noneU nT n) nT ?_ e1 e2⟩
  · exact (Mkd.new ⟨ExtN.refl _, fun _ h => h, h.1⟩ nT).trans M
  · exact M.ex _ _ upd_same fun ps z => by cases z⟩
end
end G
set_option maxHeartbeats 1000000
/-! a call that is handed lambdas which captured a name of the def's -/
namespace G
open PySem PySem.Spec PyProof.Rows L2 Evl LamX NdefX
section
variable {P : Program} {w : World} {cs : List (Addr × Obj × V)} {H H' : Hp} {h h' : Heap} {b : Addr} {o : HO} {fs : List Addr}
theorem backC_some (hn : ∀ b p, cs.lookup b = some p → H b = none) (e : H b = some o) : backC cs H b = some o := by
  cases q : cs.lookup b with
  | none => rw [backC_no q]; exact e
  | some p => rw [hn b p q] at e; cases e
theorem un_drop (hn : ∀ b p, cs.lookup b = some p → H b = none ∧ h.get? b = some p.1 ∧ b ∉ fs) (u : Un fs [] (backC cs H) H' h h') (hok : HOk P w H' h') : HasC cs H' ∧ Un fs [] H (dropC cs H') h h' := by
  have hc : HasC cs H' := fun b p e => u.frzs b _ _ (backC_yes e)
  have ne : ∀ {b o}, H b = some o → cs.lookup b = none := fun {b o} e => by
    cases q : cs.lookup b with
    | none => rfl
    | some p => rw [(hn b p q).1] at e; cases e
  have gt : ∀ {b p}, cs.lookup b = some p → h'.get? b = some p.1 := fun {b p} e => (hok b _ (hc b p e)).1
  refine ⟨hc, ⟨fun b o q n nf nx => ?_, fun b o q n nf nx => ?_, fun b o q n nx => ?_, u.there, fun b xs e => ?_, fun b o v e => ?_, fun b ps e => ?_⟩⟩
  · cases e : cs.lookup b with
    | none => exact u.keep b o q (by rw [backC_no e]; exact n) nf nx
    | some p =>
      have g := (hn b p e).2.1
      rw [q] at g
      cases g
      exact gt e
  · cases e : cs.lookup b with
    | none => exact u.slot b o q (by rw [backC_no e]; exact n) nf nx
    | some p => exact absurd nf (hn b p e).2.2
  · cases e : cs.lookup b with
    | none =>
      rw [dropC_no e]
      exact u.free b o q (by rw [backC_no e]; exact n) nx
    | some p => exact dropC_yes e
  · rw [dropC_no (ne e)]
    exact u.tups b xs (by rw [backC_no (ne e)]; exact e)
  · rw [dropC_no (ne e)]
    exact u.frzs b o v (by rw [backC_no (ne e)]; exact e)
  · rw [dropC_no (ne e)]
    exact u.tbls b ps (by rw [backC_no (ne e)]; exact e)
theorem ce_drop {outer : List Env} {s s' : Shared} {Q : VK} {u : Value} (hn : ∀ b p, cs.lookup b = some p → H b = none ∧ s.heap.get? b = some p.1 ∧ b ∉ frs outer) (h : CE outer P w (backC cs H) s (fun v H' => Q v (dropC cs H')) u s') : CE outer P w H s Q u s' := by
  obtain ⟨v, H', os, bare, un, hok, r, q⟩ := h
  obtain ⟨hc, un2⟩ := un_drop hn un hok
  exact ⟨v, dropC cs H', os, bare, un2, hok_drop hc hok, r, q⟩
end
/-- f(e, ..), the cell of y tracked while it runs -/
def tCallC (X : Cx) (sp : Sp) (y : Str) (j : Nat) (t : TA) : TE := fun σ H Q => ∃ v, σ[j]? = some (some v) ∧ ∀ c, X.env.cells.lookup y = some c → t σ H fun vs H1 => H1 c = none → ∀ o : Obj, sp vs (backC [(c, o, v)] H1) (fun v' H' => Q v' (dropC [(c, o, v)] H')) (fun _ _ _ => False)
theorem one_look {c b : Addr} {p q : Obj × V} (h : [(c, p)].lookup b = some q) : b = c ∧ q = p := by
  rw [List.lookup_cons] at h
  split at h
  · rename_i e
    exact ⟨by simpa using e, (Option.some.inj h).symm⟩
  · cases h
section
variable {X : Cx} {k j : Nat} {x y : Str} {sp : Sp} {p pos : Pos} {e : Expr} {es : List Expr} {t : TA}
theorem pe_callC (c : Cal X.prog X.w X.K X.mg X.base CX0 k x sp) (hr : Room k X.A) (ha : PA X (e :: es) t) (hy : X.N[j]? = some y) (hkd : X.env.scope.names.lookup y = some .cell) (hfn : X.fn y = true) (hg : Gl X x := by rfl) (hdb : (x == ("__debug__" : Str)) = false := by decide)
    (he : starEach (e :: es) X.env = (false, eval e X.env) :: starEach es X.env := by rfl) (hpl : (backTo pos (starEach es X.env)).any (·.1) = false := by rfl) : PE X (.Call (.Name x p) (e :: es) [] pos) (tCallC X sp y j t) := by
  refine ⟨fun pins s σ H Q I h => ?_⟩
  obtain ⟨f, fd, ps, F, hm, kp, b⟩ := c
  obtain ⟨v, hv, h⟩ := h
  obtain ⟨cc, hcc⟩ := I.ok.has y (.inl hkd)
  refine wpAny_Call_Name_kw (ld_glob I hg hm ?_ hdb)
  refine PySem.W.callWith_K (h₀ := X.base) I.ok.mod.kin kp (thn (ha.run pos pins s σ H _ I (h cc hcc)) fun us s1 ⟨vs, H1, I1, r, q⟩ => ⟨I1.kIn, ?_⟩) he hpl
  obtain ⟨m, hn, hl⟩ := I1.loc
  obtain ⟨u, ru, lk⟩ := hl j y v hy hv (.inr (.inl hkd))
  obtain ⟨o, ho, hd⟩ : s1.heap.IsCell cc (some u) := by
    rcases lk with ⟨z, _⟩ | ⟨_, c2, h2, k2⟩
    · have z' : X.env.scope.names.lookup y = some .local := z
      rw [hkd] at z'
      cases z'
    · rw [hcc] at h2
      cases h2
      exact k2
  have nC := I1.freeC y cc hcc
  have ge := I1.ok.cab y cc hfn hcc
  have nfs : cc ∉ frs X.stack := fun z => by
    rcases List.mem_cons.mp (I1.stkSub _ z) with q | q
    · exact I1.cne y cc hcc q
    · obtain ⟨_, o', ho', _⟩ := I1.ok.funs.mem q
      exact absurd (Heap.lt_size ho') (Nat.not_lt.mpr ge)
  have hone : ∀ b q, [(cc, o, v)].lookup b = some q → H1 b = none ∧ s1.heap.get? b = some q.1 ∧ b ∉ frs X.stack := fun b q z => by
    obtain ⟨rfl, rfl⟩ := one_look z
    exact ⟨nC, ho, nfs⟩
  have e1 := I1.env0
  have no : ∀ b, b ≠ cc → backC [(cc, o, v)] H1 b = H1 b := fun b n => backC_no (by
    cases z : [(cc, o, v)].lookup b with
    | none => rfl
    | some q => exact absurd (one_look z).1 n)
  have e0 : Env0 X.prog X.w X.K X.mg X.base X.A X.stack s1 (backC [(cc, o, v)] H1) := by
    refine ⟨e1.frames, e1.mod, fun b u q => ⟨(e1.bs b u q).1, ?_⟩, e1.bsz, e1.funs, fun b hb => ?_, hok_back (fun b q z => ?_) e1.hok, e1.bare⟩
    · rw [no b fun z => absurd (Nat.lt_of_lt_of_le (Heap.lt_size q) I1.ok.bsz) (by rw [z]; exact Nat.not_lt.mpr ge)]
      exact (e1.bs b u q).2
    · rw [no b fun z => nfs (z ▸ hb)]
      exact e1.frf b hb
    · obtain ⟨rfl, rfl⟩ := one_look z
      exact ⟨nC, cellO_ok ru ho hd⟩
  have hl2 := F.len _ _ _ _ (q nC o)
  have hb := b s1 us I1.kIn (by rw [List.append_nil, ← r.length]; exact hl2)
  rw [List.append_nil] at hb
  refine wpAny_call (codeAny_mono (F.run X.A X.stack s1 _ ⟨us, []⟩ us vs _ _ hr e0 hb r (q nC o)) fun r s' hq => ?_)
  cases r with
  | error e => exact (show False from hq).elim
  | ok fl =>
    cases fl with
    | ret u => exact I1.after (ce_drop hone hq)
    | next => exact False.elim hq
    | brk => exact False.elim hq
    | cont => exact False.elim hq
end
end G
set_option maxHeartbeats 1000000
/-! _law_are_pairs -/
namespace G
open PySem PySem.Spec PyProof.Rows L2 Evl LamX NdefX
theorem Trkd.up {tr : Trk} {B B' : Addr → Prop} {H H' : Hp} (h : Trkd tr H) (u : Up B H B' H') (n : ∀ p ∈ tr, ¬ B p.1) : Trkd tr H' := fun p hp => (u.keep _ _ (h p hp) (n p hp)).1
section
variable {P : Program} {w : World} {K : PySem.W.Frag} {mg : Str → Option Value} {base : Heap} {CX : CXT} {k i : Nat} {E : XK} {B : Addr → Prop} {σ : L2.St} {H : Hp} {t : TA} {f : Addr} {tr : Trk}
theorem vd_lcall {α : Type} {arg : α → List PyData} {Pre : α → Prop} {F : α → PyData} (a : α) (hσ : σ[i]? = some (some (.ref f))) (L : LamOk P w K mg base CX k f tr (spD arg Pre F)) (ht : Trkd tr H) (hB : BOk B H) (h : EvAD B t σ H (arg a)) (hp : Pre a) : EvD B (tLC P w K mg base CX k i E t) σ H (F a) := fun H1 x Q q =>
  ⟨f, tr, _, hσ, L, ht.ex x, h H1 x _ fun vs H2 x2 dv => ⟨ht.ex (x.trans x2), B, a, hB.ex (x.trans x2), dv, hp, fun v H3 x3 dz => q v H3 (x2.trans x3) dz⟩⟩
theorem lam_cal {x : Str} {st : Stmt} {ps : List Str} {sp : Sp} (c : Cal P w K mg base CX k x sp) (T : FnT K mg x st ps) : ∃ f, mg x = some (.ref f) ∧ LamOk P w K mg base CX k f [] sp := by
  obtain ⟨f, fd, ps', F, hm, kp, b⟩ := c
  obtain ⟨f2, fd2, F2, hm2, b2⟩ := T.ex
  rw [hm] at hm2
  cases hm2
  obtain ⟨oc, od, kV, doc, pm, an, cdv, ct, osl, e, lk, hcd⟩ := F2.ex
  exact ⟨f, hm, lamOk_fn lk F b kp⟩
end
/-! ### keys -/
/-- a key: a text, or two -/
def keyD (d : PyData) : Prop := (∃ s, d = .str s ∧ PyData.strOk s = true) ∨ ∃ s z, d = .tuple [.str s, .str z] ∧ PyData.strOk s = true ∧ PyData.strOk z = true
theorem dp_key {K : PySem.W.Frag} {B : Addr → Prop} {H : Hp} {v : V} {d : PyData} (h : Den B H v d) (k : keyD d) : Dp K H v d := by
  rcases k with ⟨s, rfl, _⟩ | ⟨s, z, rfl, _, _⟩
  · rw [h.str']
    exact .str s
  · obtain ⟨a, xs, rfl, ha, _, r⟩ := h.tup'
    obtain ⟨x, y, rfl, dx, dy⟩ := r.two'
    rw [dx.str', dy.str'] at ha
    exact .tup (SqT.of ha) (.cons (.str s) (.cons (.str z) .nil))
theorem dps_key {K : PySem.W.Frag} {B : Addr → Prop} {H : Hp} {vs : List V} {ds : List PyData} (h : Dens B H vs ds) (k : ∀ d ∈ ds, keyD d) : DpAll K H vs ds := by
  induction vs generalizing ds with
  | nil => cases h; exact .nil
  | cons v r ih => cases h with
    | cons a t => exact .cons (dp_key a (k _ (List.mem_cons_self ..))) (ih t fun d hd => k d (List.mem_cons_of_mem _ hd))
theorem key_lay {d : PyData} (h : keyD d) : d.canLay0 = true ∧ d.depth ≤ 1 := by
  rcases h with ⟨s, rfl, h1⟩ | ⟨s, z, rfl, h1, h2⟩
  · refine ⟨by rw [PyData.canLay0]; exact h1, by rw [PyData.depth]; omega⟩
  · constructor
    · simp only [PyData.canLay0, PyData.canLayAll0, h1, h2]
      rfl
    · simp only [PyData.depth, PyData.depthAll]
      omega
theorem keys_lay : ∀ {ds : List PyData}, (∀ d ∈ ds, keyD d) → PyData.canLayAll0 ds = true ∧ PyData.depthAll ds ≤ 1
  | [], _ => ⟨by rw [PyData.canLayAll0], by rw [PyData.depthAll]; omega⟩
  | d :: r, h => by
    obtain ⟨a, b⟩ := key_lay (h d (List.mem_cons_self ..))
    obtain ⟨a2, b2⟩ := keys_lay (ds := r) fun x hx => h x (List.mem_cons_of_mem _ hx)
    constructor
    · rw [PyData.canLayAll0, a, a2]
      rfl
    · rw [PyData.depthAll]
      omega
theorem vd_inD {K : PySem.W.Frag} {B : Addr → Prop} {σ : L2.St} {H : Hp} {ta tb : TE} {d : PyData} {ds : List PyData} (h1 : EvD B ta σ H d) (h2 : EvD B tb σ H (.list ds)) (k : keyD d) (ks : ∀ x ∈ ds, keyD x) : EvD B (tOp (rInD K) ta tb) σ H (.bool (ds.any fun z => PyData.eqv z d)) := fun H1 x Q q =>
  h1 H1 x _ fun v H2 x2 dv => h2 H2 (x.trans x2) _ fun u H3 x3 du => by
    obtain ⟨a, xs, rfl, ha, _, r⟩ := du.lst'
    obtain ⟨l1, l2⟩ := key_lay k
    obtain ⟨l3, l4⟩ := keys_lay ks
    refine ⟨d, ds, dp_key (dv.ex x3) k, .lst (SqL.of ha) (dps_key r ks), ?_, ?_, q _ H3 (x2.trans x3) (.bl _)⟩
    · unfold SeqAt.shaped
      rw [l1, decide_eq_true (by omega)]
      rfl
    · unfold SeqAt.shaped
      have e : (PyData.list ds).depth ≤ 64 := by
        rw [PyData.depth]
        omega
      rw [decide_eq_true e, PyData.canLay0, l3]
      rfl
/-- xs[:k] -/
theorem vd_toL {K : PySem.W.Frag} {B : Addr → Prop} {σ : L2.St} {H : Hp} {te ti : TE} {ds : List PyData} {i : Nat} (hB : BOk B H) (h : EvD B te σ H (.list ds)) (hi : EvD B ti σ H (.int (i : Nat))) (hl : i ≤ ds.length) : EvD B (tSl (rSlL K) te tNoPart (tPart ti)) σ H (.list (ds.take i)) := fun H1 x Q q =>
  h H1 x _ fun v H2 x2 dv => hi H2 (x.trans x2) _ fun u H3 x3 du => by
    rw [du.int']
    have dv3 := dv.ex x3
    have hlen := dv3.lenL
    obtain ⟨a, xs, rfl, ha, nb, r⟩ := dv3.lst'
    have lx := r.length
    refine ⟨(i : Nat), rfl, a, xs, rfl, SqL.of ha, fun p hp => ?_⟩
    have e : cutV xs none (some (i : Nat)) = xs.take i := by
      unfold cutV
      have e1 : HT.sIx xs.length 0 none = 0 := rfl
      rw [e1, HT.sIx_nat, List.drop_zero, Nat.sub_zero, Nat.min_eq_left (by omega)]
    rw [e]
    refine q _ _ ((x2.trans x3).trans (Ex.new hp)) (.lst ?_ upd_same ((hB.ex ((x.trans x2).trans x3)).new hp) ((r.take i).ex (Ex.new hp)))
    rw [List.length_take]
    omega
end G
set_option maxHeartbeats 1000000
/-! _law_are_pairs -/
namespace G
open PySem PySem.Spec PyProof.Rows L2 Evl LamX NdefX
/-- is there an earlier one that is equal? -/
def dupAt (ds : List PyData) (i : Nat) : Bool := (ds.take i).any fun z => PyData.eqv z (ds.getD i .none)
def dupNo (ds : List PyData) : Bool := ((List.range ds.length).filter (dupAt ds)).isEmpty
def pairsOk (g1 g2 : PyData → Bool) (d : PyData) : Bool := isTup d && ((kids d).all isPair && ((kids d).all (fun p => g1 (kid p 0) && g2 (kid p 1)) && dupNo ((kids d).map fun p => kid p 0)))
/-- what is handed: a thing, two that answer -/
def spPairs (P : Program) (w : World) (K : PySem.W.Frag) (mg : Str → Option Value) (base : Heap) : Sp := fun vs H Q _ => ∃ (B : Addr → Prop) (v : V) (d : PyData) (f1 f2 : Addr) (tr1 tr2 : Trk) (g1 g2 : PyData → Bool), vs = [v, .ref f1, .ref f2] ∧ BOk B H ∧ Den B H v d ∧ (∀ p ∈ tr1, ¬ B p.1) ∧ (∀ p ∈ tr2, ¬ B p.1) ∧
  LamOk P w K mg base CX0 4 f1 tr1 (spB g1) ∧ LamOk P w K mg base CX0 4 f2 tr2 (spB g2) ∧ Trkd tr1 H ∧ Trkd tr2 H ∧ (∀ x, g1 x = true → keyD x) ∧ ∀ H', Ex H H' → Q (.bl (pairsOk g1 g2 d)) H'
def natOf : PyData → Nat
  | .int i => i.toNat
  | _ => 0
/-- xs[i], a list -/
theorem vd_ixL {K : PySem.W.Frag} {B : Addr → Prop} {σ : L2.St} {H : Hp} {te ti : TE} {ds : List PyData} {i : Nat} {d : PyData} (h : EvD B te σ H (.list ds)) (hi : EvD B ti σ H (.int (i : Nat))) (hd : ds[i]? = some d) : EvD B (tOp (rIxL K) te ti) σ H d := fun H1 x Q q =>
  h H1 x _ fun v H2 x2 dv => hi H2 (x.trans x2) _ fun u H3 x3 du => by
    rw [du.int']
    obtain ⟨p, ys, rfl, hp, nb, rr⟩ := (dv.ex x3).lst'
    obtain ⟨z, hz, dz⟩ := rr.get hd
    exact ⟨p, ys, (i : Nat), z, rfl, rfl, SqL.of hp, at_of rfl hz, q z H3 (x2.trans x3) dz⟩
theorem isEmpty_map {α β : Type} (f : α → β) (xs : List α) : (xs.map f).isEmpty = xs.isEmpty := by cases xs <;> rfl
theorem isEmpty_filter {α : Type} (f : α → Bool) (xs : List α) : (xs.filter f).isEmpty = xs.all fun x => !f x := by
  induction xs with
  | nil => rfl
  | cons a r ih =>
    rw [List.filter_cons, List.all_cons]
    cases f a with
    | true => rfl
    | false => simpa using ih
section
variable {P : Program} {w : World} {K : PySem.W.Frag} {mg : Str → Option Value} {base : Heap}
theorem l_are_pairs (T : Txt K mg) : Cal P w K mg base CX0 5 "_law_are_pairs" (spPairs P w K mg base) := by
  refine cal_of (k := 4) T.f_law_are_pairs sc_law_are_pairs (fun vs H Q E h => by obtain ⟨B, v, d, f1, f2, tr1, tr2, g1, g2, rfl, _⟩ := h; rfl) ?_
  rintro f cdv A outer s H vs Q E hr ⟨B, v, d, f1, f2, tr1, tr2, g1, g2, rfl, hB, dv, n1, n2, M1, M2, t1, t2, hk, q⟩
  have hu65 : (A.deeper (envOfC "_law_are_pairs" (defScope s_law_are_pairs) s.heap.objs.size f cdv)).units + 65 < cLine := by
    have := hr.un
    omega
  refine ⟨_, pss_cons (ps_if (pt_not (pt_val (e_isTup T (pv 0)))) (pss_one (ps_ret pe_bl)) pss_nil)
    (pss_cons (ps_if (pt_cmpR (op_neE (hu0 hr)) (pe_lc (own := [("pair", 3)]) (g := gName 3) (te := tVar 3) (by rfl) sc_law_are_pairs.nd (pi_tup (pv 0)) (blkOk_by (own := [("pair", 3)]) (N := n_law_are_pairs) (sc := defScope s_law_are_pairs) (by decide +kernel))
        (tt := tOr (tNot (tB (tCB (rIsi K) (tCons (tVar 3) (tCons (tC (.ty "tuple")) tNil))))) (tTest (tOp rNe (tCB (rLenX K) (tCons (tVar 3) tNil)) (tC (.int 2)))))
        (fun _ _ _ _ _ => pg_name (i := 3) sc_law_are_pairs.nd rfl (Or.inl rfl)) (fun _ _ _ _ _ => pts_one (pw_or (pt_not (pt_val (e_isTup T (pv 3)))) (pw_or1 (pt_cmpR op_ne (e_len T (pv 3)) pe_int (nomark _)))).pt) (fun _ _ _ _ _ => pv 3)) (pe_lst pa_nil) (nomark _)) (pss_one (ps_ret pe_bl)) pss_nil)
    (pss_cons (ps_if (pt_cmpR (op_neE (hu0 hr)) (pe_lc (own := [("pair", 3)]) (g := gName 3) (te := tVar 3) (by rfl) sc_law_are_pairs.nd (pi_tup (pv 0)) (blkOk_by (own := [("pair", 3)]) (N := n_law_are_pairs) (sc := defScope s_law_are_pairs) (by decide +kernel))
        (tt := tOr (tNot (tB (tLC P w K mg base CX0 4 1 E0 (tCons (tOp (rIxT K) (tVar 3) (tC (.int 0))) tNil)))) (tNot (tB (tLC P w K mg base CX0 4 2 E0 (tCons (tOp (rIxT K) (tVar 3) (tC (.int 1))) tNil)))))
        (fun _ _ _ _ _ => pg_name (i := 3) sc_law_are_pairs.nd rfl (Or.inl rfl)) (fun _ _ _ _ _ => pts_one (pw_or (pt_not (pt_val (pe_lcall hr pass0 (pa_cons (pe_ix ix_tup (pv 3) pe_int (fun _ _ => rfl)) pa_nil)))) (pw_or1 (pt_not (pt_val (pe_lcall hr pass0 (pa_cons (pe_ix ix_tup (pv 3) pe_int (fun _ _ => rfl)) pa_nil)))))).pt) (fun _ _ _ _ _ => pv 3)) (pe_lst pa_nil) (nomark _)) (pss_one (ps_ret pe_bl)) pss_nil)
    (pss_cons (ps_set (i := 4) sc_law_are_pairs.nd rfl (Or.inr rfl) (pe_lc (own := [("pair", 3)]) (g := gName 3) (te := tOp (rIxT K) (tVar 3) (tC (.int 0))) (by rfl) sc_law_are_pairs.nd (pi_tup (pv 0)) (blkOk_by (own := [("pair", 3)]) (N := n_law_are_pairs) (sc := defScope s_law_are_pairs) (by decide +kernel))
        (fun _ _ _ _ _ => pg_name (i := 3) sc_law_are_pairs.nd rfl (Or.inl rfl)) (fun _ _ _ _ _ => pts_nil) (fun _ _ _ _ _ => pe_ix ix_tup (pv 3) pe_int (fun _ _ => rfl))))
    (pss_one (ps_ret (pe_cmpR (op_eqE (hu0 hr)) (pe_lc (own := [("k", 5)]) (g := gName 5) (te := tVar 5) (by rfl) sc_law_are_pairs.nd (pi_range1 (by rfl) T.b_range (pa_cons (e_len T (pv 4)) pa_nil)) (blkOk_by (own := [("k", 5)]) (N := n_law_are_pairs) (sc := defScope s_law_are_pairs) (by decide +kernel))
        (tt := tTest (tOp (rInD K) (tOp (rIxL K) (tVar 4) (tVar 5)) (tSl (rSlL K) (tVar 4) tNoPart (tPart (tVar 5)))))
        (fun _ _ _ _ _ => pg_name (i := 5) sc_law_are_pairs.nd rfl (Or.inl rfl)) (fun _ _ _ _ _ => pts_one (pt_cmpR (op_inD hu65) (pe_ix ix_list (pv 4) (pv 5) (fun _ _ => rfl)) (pe_slice sl_list (pv 4) po_none (po_some (pv 5))) (by rfl))) (fun _ _ _ _ _ => pv 5)) (pe_lst pa_nil) (nomark _))))))), ?_⟩
  have no : ∀ (D' : Ends) (σ' : L2.St) (H1 : Hp), D'.rt = Q → Ex H H1 → pairsOk g1 g2 d = false → tRet (tC (.bl false)) D' σ' H1 := fun D' σ' H1 hD x e => by
    show D'.rt (.bl false) H1
    rw [hD, ← e]
    exact q H1 x
  refine z_when (b := !isTup d) (et_not (vt_B (vd_isTup (vd_var rfl dv)))) (fun hb H1 x1 D' hD => no D' _ H1 hD x1 ?_) (fun hb H1 x1 => ?_)
  · unfold pairsOk
    cases h : isTup d with
    | true => rw [h] at hb; cases hb
    | false => rfl
  obtain ⟨xs, rfl⟩ := tup_of (show isTup d = true by simpa using hb)
  have hn := dv.lenT
  have e1 : pairsOk g1 g2 (.tuple xs) = (xs.all isPair && (xs.all (fun p => g1 (kid p 0) && g2 (kid p 1)) && dupNo (xs.map fun p => kid p 0))) := rfl
  refine z_when (b := !xs.all isPair) (vt_test (vd_is (vd_cmpE (B := B) (neg := true) (vd_lcN (σ := [some v, some (.ref f1), some (.ref f2), none, none, none]) (H := H1) (vs := [3]) (hB.ex x1) (src_tup (vd_var rfl (dv.ex x1))) (fun p => !isTup p || !decide ((kids p).length = 2)) (fun p => p) hn (fun _ => rfl) (fun B' H2 up p hp y dy => ?_) (fun B' H2 up p hp _ y dy => vd_var rfl dy))) ?_)) (fun hb2 H2 x2 D' hD => no D' _ H2 hD (x1.trans x2) ?_) (fun hb2 H2 x2 => ?_)
  · refine et_or (et_not (vt_B (vd_isTup (vd_var rfl dy)))) fun h => vt_test (vd_neN (vd_lenK (vd_var rfl dy) (by simpa using h)) (vd_nat (n := 2)))
  · show PyData.bool (!((xs.filter _).map _).isEmpty) = .bool (!xs.all isPair)
    rw [isEmpty_map, isEmpty_filter]
    congr 2
    refine congrArg (fun f => xs.all f) (funext fun p => ?_)
    unfold isPair
    simp
  · rw [e1]
    cases h : xs.all isPair with
    | true => rw [h] at hb2; cases hb2
    | false => rfl
  have hpr : ∀ p ∈ xs, isTup p = true ∧ (kids p).length = 2 := fun p hp => by
    have z := List.all_eq_true.mp (show xs.all isPair = true by simpa using hb2) p hp
    unfold isPair at z
    simpa using z
  have x12 := x1.trans x2
  refine z_when (b := !xs.all (fun p => g1 (kid p 0) && g2 (kid p 1))) (vt_test (vd_is (vd_cmpE (B := B) (neg := true) (vd_lcN (σ := [some v, some (.ref f1), some (.ref f2), none, none, none]) (H := H2) (vs := [3]) (hB.ex x12) (src_tup (vd_var rfl (dv.ex x12))) (fun p => !g1 (kid p 0) || !g2 (kid p 1)) (fun p => p) hn (fun _ => rfl) (fun B' H3 up p hp y dy => ?_) (fun B' H3 up p hp _ y dy => vd_var rfl dy))) ?_)) (fun hb3 H3 x3 D' hD => no D' _ H3 hD (x12.trans x3) ?_) (fun hb3 H3 x3 => ?_)
  · obtain ⟨h1, h2⟩ := hpr p hp
    have a1 : EvD B' (tLC P w K mg base CX0 4 1 E0 (tCons (tOp (rIxT K) (tVar 3) (tC (.int 0))) tNil)) ((wipe [some v, some (.ref f1), some (.ref f2), none, none, none] [3]).set 3 (some y)) H3 (.bool (g1 (kid p 0))) := vd_lcall (kid p 0) rfl M1 ((t1.ex x12).up up n1) up.ok (va_cons (vd_kid (vd_var rfl dy) h1 (by omega)) va_nil) trivial
    have a2 : EvD B' (tLC P w K mg base CX0 4 2 E0 (tCons (tOp (rIxT K) (tVar 3) (tC (.int 1))) tNil)) ((wipe [some v, some (.ref f1), some (.ref f2), none, none, none] [3]).set 3 (some y)) H3 (.bool (g2 (kid p 1))) := vd_lcall (kid p 1) rfl M2 ((t2.ex x12).up up n2) up.ok (va_cons (vd_kid (i := 1) (vd_var rfl dy) h1 (by omega)) va_nil) trivial
    exact et_or (et_not (vt_B a1)) fun _ => et_not (vt_B a2)
  · show PyData.bool (!((xs.filter _).map _).isEmpty) = .bool (!xs.all _)
    rw [isEmpty_map, isEmpty_filter]
    congr 2
    refine congrArg (fun f => xs.all f) (funext fun p => ?_)
    simp
  · rw [e1]
    cases h : xs.all (fun p => g1 (kid p 0) && g2 (kid p 1)) with
    | true => rw [h] at hb3; cases hb3
    | false => simp
  have hg := List.all_eq_true.mp (show xs.all (fun p => g1 (kid p 0) && g2 (kid p 1)) = true by simpa using hb3)
  have x13 := x12.trans x3
  refine z_asg (vd_lcA (σ := [some v, some (.ref f1), some (.ref f2), none, none, none]) (H := H3) (vs := [3]) (hB.ex x13) (src_tup (vd_var rfl (dv.ex x13))) (fun p => kid p 0) hn (fun _ => rfl) (fun B' H4 up p hp y dy => vd_kid (vd_var rfl dy) (hpr p hp).1 (by have := (hpr p hp).2; omega))) fun v4 H4 x4 d4 => ?_
  have x14 := x13.trans x4
  have hky : ∀ p ∈ xs.map (fun p => kid p 0), keyD p := fun p hp => by
    obtain ⟨z, hz, rfl⟩ := List.mem_map.mp hp
    have := hg z hz
    rw [Bool.and_eq_true] at this
    exact hk _ this.1
  have hl4 : (xs.map fun p => kid p 0).length = xs.length := List.length_map _
  refine sd_ret (B := B) (d := .bool (dupNo (xs.map fun p => kid p 0))) (vd_is (vd_cmpE (B := B) (neg := false) (vd_lcN (σ := [some v, some (.ref f1), some (.ref f2), none, some v4, none]) (H := H4) (vs := [5]) (hB.ex x14) (src_rng1 (n := xs.length) (va_cons (vd_len (vd_var rfl d4) rfl hl4) va_nil) hn) (fun i => dupAt (xs.map fun p => kid p 0) (natOf i)) (fun p => p) (by unfold rng; rw [List.length_map, List.length_range]; exact hn) (fun _ => rfl) (fun B' H5 up p hp y dy => ?_) (fun B' H5 up p hp _ y dy => vd_var rfl dy))) ?_) fun v6 H6 x6 d6 => ?_
  · obtain ⟨i, hi, rfl⟩ := List.mem_map.mp hp
    rw [List.mem_range] at hi
    have hi2 : i < (xs.map fun p => kid p 0).length := by omega
    have d4' := d4.up up
    have eg : (xs.map fun p => kid p 0).getD i .none = (xs.map fun p => kid p 0)[i] := by
      rw [List.getD_eq_getElem?_getD, List.getElem?_eq_getElem hi2]
      rfl
    refine vt_test (vd_is (vd_inD (vd_ixL (vd_var rfl d4') (vd_var rfl dy) (List.getElem?_eq_getElem hi2)) (vd_toL up.ok (vd_var rfl d4') (vd_var rfl dy) (by omega)) (hky _ (List.getElem_mem hi2)) fun x hx => hky x (List.mem_of_mem_take hx)) ?_)
    show PyData.bool _ = .bool (dupAt _ (natOf (.int (i : Nat))))
    unfold dupAt
    rw [show natOf (.int (i : Nat)) = i by unfold natOf; exact Int.toNat_natCast i, eg]
  · show PyData.bool ((List.filter _ (rng xs.length)).map _).isEmpty = _
    rw [isEmpty_map]
    unfold dupNo rng
    rw [List.filter_map, isEmpty_map, hl4]
    rfl
  · have := q H6 (x14.trans x6)
    rw [d6.bl']
    have e2 : pairsOk g1 g2 (.tuple xs) = dupNo (xs.map fun p => kid p 0) := by
      rw [e1, show xs.all isPair = true by simpa using hb2, show xs.all (fun p => g1 (kid p 0) && g2 (kid p 1)) = true by simpa using hb3]
      rfl
    rw [← e2]
    exact this
end
end G
set_option maxHeartbeats 1000000
/-! _law_are_declarations, _law_are_attributes -/
namespace G
open PySem PySem.Spec PyProof.Rows L2 Evl LamX NdefX
/-- an object that data lean on -/
def Dat (o : HO) : Prop := (∃ xs, o = .tup xs) ∨ (∃ xs, o = .lst xs) ∨ o = .dK []
section
variable {B B' : Addr → Prop} {H H' : Hp}
mutual
theorem Den.dat {v : V} {d : PyData} (k : ∀ b o, Dat o → H b = some o → ¬ B b → H' b = some o ∧ ¬ B' b) : Den B H v d → Den B' H' v d
  | .non => .non
  | .bl b => .bl b
  | .int i h => .int i h
  | .str s h => .str s h
  | .tup l h n r => .tup l (k _ _ (.inl ⟨_, rfl⟩) h n).1 (k _ _ (.inl ⟨_, rfl⟩) h n).2 (Dens.dat k r)
  | .lst l h n r => .lst l (k _ _ (.inr (.inl ⟨_, rfl⟩)) h n).1 (k _ _ (.inr (.inl ⟨_, rfl⟩)) h n).2 (Dens.dat k r)
  | .dic h n => .dic (k _ _ (.inr (.inr rfl)) h n).1 (k _ _ (.inr (.inr rfl)) h n).2
theorem Dens.dat {vs : List V} {ds : List PyData} (k : ∀ b o, Dat o → H b = some o → ¬ B b → H' b = some o ∧ ¬ B' b) : Dens B H vs ds → Dens B' H' vs ds
  | .nil => .nil
  | .cons a r => .cons (Den.dat k a) (Dens.dat k r)
end
theorem dat_tbl {o : HO} (h : Dat o) (ps : Array Value) : o ≠ .tbl ps := fun z => by
  rcases h with ⟨xs, rfl⟩ | ⟨xs, rfl⟩ | rfl <;> cases z
theorem dat_cell {o : HO} (h : Dat o) (c : Addr) (p : Obj × V) : o ≠ CellO c p := fun z => by
  rcases h with ⟨xs, rfl⟩ | ⟨xs, rfl⟩ | rfl <;> cases z
abbrev NoB : Addr → Prop := fun _ => False
theorem noB {H : Hp} : BOk NoB H := fun _ h => h.elim
theorem Den.mkd {T : List (Addr × Str)} {v : V} {d : PyData} (m : Mkd T H H') (h : Den B H v d) : Den NoB H' v d := h.dat fun b o hd e _ => ⟨m.ex b o e (dat_tbl hd), id⟩
theorem Den.noB {v : V} {d : PyData} (h : Den B H v d) : Den NoB H v d := h.le fun _ z => z.elim
theorem Dens.dropC {cs : List (Addr × Obj × V)} (hc : HasC cs H) {vs : List V} {ds : List PyData} (h : Dens B H vs ds) : Dens B (dropC cs H) vs ds := h.dat fun b o hd e n => ⟨by
  rw [dropC_no (hc.out e fun v z => dat_cell hd _ _ z)]
  exact e, n⟩
theorem Den.backC {cs : List (Addr × Obj × V)} (hn : ∀ b p, cs.lookup b = some p → H b = none) {v : V} {d : PyData} (h : Den B H v d) : Den B (backC cs H) v d := h.dat fun b o hd e n => ⟨backC_some hn e, n⟩
theorem ex_back {cs : List (Addr × Obj × V)} (hc : HasC cs H) (x : Ex (dropC cs H) H') : Ex H (backC cs H') := fun b o e => by
  cases q : cs.lookup b with
  | none =>
    rw [backC_no q]
    exact x b o (by rw [dropC_no q]; exact e)
  | some p =>
    rw [backC_yes q, ← hc b p q]
    exact e
theorem bok_drop {cs : List (Addr × Obj × V)} (hB : BOk B H) (n : ∀ b p, cs.lookup b = some p → ¬ B b) : BOk B (dropC cs H) := fun b hb z => by
  cases q : cs.lookup b with
  | none => rw [dropC_no q] at z; exact hB b hb z
  | some p => exact n b p q hb
theorem tabs_drop {T : List (Addr × Str)} {cs : List (Addr × Obj × V)} (hc : HasC cs H) (t : Tabs T H) : Tabs T (dropC cs H) := fun p hp => by
  obtain ⟨ps, a1, a2, a3⟩ := t p hp
  refine ⟨ps, ?_, a2, fun pos cv q => ?_⟩
  · rw [dropC_no (hc.out a1 fun v z => by cases z)]
    exact a1
  · obtain ⟨c0, b1, b2⟩ := a3 pos cv q
    refine ⟨c0, b1, ?_⟩
    rw [dropC_no (hc.out b2 fun v z => by
      unfold CodeO at z
      cases z)]
    exact b2
/-- behind a call with a cell tracked -/
theorem mkd_drop {T : List (Addr × Str)} {H0 : Hp} {cs : List (Addr × Obj × V)} (m : Mkd T H0 H) (hn : ∀ b p, cs.lookup b = some p → H b = none) (x : Ex (backC cs H) H') : Mkd T H0 (dropC cs H') := by
  have hc : HasC cs H' := fun b p q => x b _ (backC_yes q)
  refine ⟨fun b o e n => ?_, fun b e => ?_, tabs_drop hc ((m.tb.ext fun b o e => backC_some hn e).ext x)⟩
  · have e1 := m.ex b o e n
    have q : cs.lookup b = none := by
      cases q : cs.lookup b with
      | none => rfl
      | some p => rw [hn b p q] at e1; cases e1
    rw [dropC_no q]
    exact x b o (by rw [backC_no q]; exact e1)
  · refine m.dom b ?_
    cases q : cs.lookup b with
    | none =>
      rw [dropC_no q] at e
      have := (Kp.of (B := NoB) x).dom b e
      rw [backC_no q] at this
      exact this
    | some p => exact hn b p q
theorem Mkd.ex' {T : List (Addr × Str)} {H2 : Hp} (m : Mkd T H H') (x : Ex H' H2) : Mkd T H H2 := ⟨m.ex.trans (ExtN.of x), fun b h => m.dom b ((Kp.of (B := NoB) x).dom b h), m.tb.ext x⟩
theorem Mkd.of {T : List (Addr × Str)} (t : Tabs T H) (x : Ex H H') : Mkd T H H' := ⟨ExtN.of x, fun b h => (Kp.of (B := NoB) x).dom b h, t.ext x⟩
end
/-! ### defs that make lambdas -/
def lamQ (x : Str) (st : Stmt) : Str := (envOfC x (defScope st) 0 0 .none).qual ++ "<lambda>"
/-- such a def: where it stands, its code object, its table -/
structure DefL (K : PySem.W.Frag) (mg : Str → Option Value) (base : Heap) (x : Str) (st : Stmt) (ps : List Str) (T : List (Addr × Str)) : Prop where
  ex : ∃ (f c P : Addr) (oc : Value) (od : Option Addr) (kV doc pm : Value) (an : Option Addr) (ct : Value) (osl : Array (Option Value)), K.lookup f = some ⟨oc, od, .func (PySem.W.fnOf x x (defArgs st) (defBody st) (defScope st) .none kV doc pm an (.ref c) ct), osl⟩ ∧ PySem.W.codeIn K (.ref c) x = true ∧
    mg x = some (.ref f) ∧ PySem.W.keepIn K (.ref f) = true ∧ Binds K (PySem.W.fnOf x x (defArgs st) (defBody st) (defScope st) .none kV doc pm an (.ref c) ct) ps [] ∧ TabB base mg c P ∧ (P, lamQ x st) ∈ T ∧ ∀ p ∈ T, p.1 = P → p.2 = lamQ x st
theorem cal_ofL {P : Program} {w : World} {K : PySem.W.Frag} {mg : Str → Option Value} {base : Heap} {x : Str} {st : Stmt} {N ps : List Str} {k : Nat} {sp : Sp} {T : List (Addr × Str)} (D : DefL K mg base x st ps T) (S : FnScope N ps (defScope st)) (len : ∀ vs H Q E, sp vs H Q E → vs.length = ps.length)
    (hbody : ∀ (f c Pt : Addr) (A : Around) (outer : List Env) (s : Shared) (H : Hp) (vs : List V) (Q : VK) (E : XK), TabB base mg c Pt → (Pt, lamQ x st) ∈ T → (∀ p ∈ T, p.1 = Pt → p.2 = lamQ x st) → Room k (A.deeper (envOfC x (defScope st) s.heap.objs.size f (.ref c))) → sp vs H Q E →
      ∃ t, PSs (cxOf CX0 P w K mg base N x (defScope st) f (.ref c) A outer s H E).nox (defBody st) t ∧ t { nx := fun _ H' => Q .non H', rt := Q } (start N vs) H) : Cal P w K mg base CX0 (k + 1) x sp := by
  obtain ⟨f, c, Pt, oc, od, kV, doc, pm, an, ct, osl, lk, hcd, hm, kp, b, tb, hT, hu⟩ := D.ex
  refine ⟨f, _, ps, fn_of lk hcd S len fun A outer s H vs Q E hr hsp => ?_, hm, kp, b⟩
  obtain ⟨t, h, q⟩ := hbody f c Pt A outer s H vs Q E tb hT hu hr hsp
  exact ⟨t, h.nox, q⟩
end G
set_option maxHeartbeats 1000000
/-! _law_are_declarations, _law_are_attributes -/
namespace G
open PySem PySem.Spec PyProof.Rows L2 Evl LamX NdefX
section
variable {P : Program} {w : World} {K : PySem.W.Frag} {mg : Str → Option Value} {base : Heap}
theorem lam_pred {k : Nat} {f : Addr} {tr : Trk} {F : NF} {e : Expr} {N fr : List Str} {a : Str} {cs : List (Addr × Obj × V)} {ws : List (Option V)} {te : TE} {g : PyData → Bool} (S : NScope N [a] fr F.scope)
    (hf : (f, LmO f F e .none) ∈ tr) (hc : (F.c, CodeO F.c F.qual) ∈ tr) (hcs : ∀ b v, cs.lookup b = some v → (b, CellO b v) ∈ tr)
    (hcl : ∀ y c, F.cl.lookup y = some c → ∃ v, cs.lookup c = some v) (hinj : ∀ x y c, F.cl.lookup x = some c → F.cl.lookup y = some c → x = y) (hws : ws.length = fr.length)
    (hfr : ∀ (i : Nat) (y : Str), fr[i]? = some y → ∃ c p, F.cl.lookup y = some c ∧ ws[i]? = some (some p.2) ∧ cs.lookup c = some p)
    (hb : ∀ (doc pm ctv u : Value), bindArgs (PySem.W.kdv_fn F.name F.qual F.params (.expr e) F.scope F.cl .none doc pm (.ref F.c) ctv) ⟨[u], []⟩ = pure [(a, u)])
    (hbody : ∀ (A : Around) (outer : List Env) (s : Shared) (H : Hp) (E : XK), Room k (A.deeper (envF F f s.heap.objs.size)) → PE (ncx CX0 P w K mg base N F f A outer s H E) e te)
    (hg : ∀ (v : V) (d : PyData) (H : Hp) (B : Addr → Prop), BOk B H → Den B H v d → EvD B te (startF N [v] ws) H (.bool (g d))) : LamOk P w K mg base CX0 (k + 1) f tr (spB g) := by
  refine (lamOk_of (n := 1) (dus := []) (dvs := []) (te := fun _ => te) S hf hc hcs hcl hinj hws hfr (fun s H doc pm ctv us _ _ hl => ?_) .nil rfl (fun _ _ _ _ _ _ _ _ _ h => by
    simpa only [CX0] using h) hbody).imp ?_
  · match us, hl with
    | [u], _ => exact BindsTo.of_eq (hb doc pm ctv u)
  · rintro vs H Q E t ⟨B, d, hB, dv, _, q⟩
    obtain ⟨v, rfl, d1⟩ := dv.one'
    have HC : HasC cs H := fun b v z => t _ (hcs b v z)
    refine ⟨rfl, hg v d (dropC cs H) NoB noB ?_ _ (Ex.refl _) _ fun u H' x du => ?_⟩
    · obtain ⟨u, e, dd⟩ := (Dens.dropC HC (Dens.cons d1 .nil)).one'
      cases e
      exact dd.noB
    · rw [du.bl']
      exact fun _ => q _ _ (ex_back HC x) (.bl _)
theorem one_lookS {a b : Str} {p q : Addr} (h : [(a, p)].lookup b = some q) : b = a ∧ q = p := by
  rw [List.lookup_cons] at h
  split at h
  · rename_i e
    exact ⟨by simpa using e, (Option.some.inj h).symm⟩
  · cases h
/-- it captures nothing -/
theorem lam_pred0 {k : Nat} {f : Addr} {Hb : Hp} {F : NF} {e : Expr} {N : List Str} {a : Str} {te : TE} {g : PyData → Bool} (e1 : Hb f = some (LmO f F e .none)) (k1 : Hb F.c = some (CodeO F.c F.qual)) (S : NScope N [a] [] F.scope) (hcl : F.cl = [])
    (hb : ∀ (doc pm ctv u : Value), bindArgs (PySem.W.kdv_fn F.name F.qual F.params (.expr e) F.scope F.cl .none doc pm (.ref F.c) ctv) ⟨[u], []⟩ = pure [(a, u)])
    (hbody : ∀ (A : Around) (outer : List Env) (s : Shared) (H : Hp) (E : XK), Room k (A.deeper (envF F f s.heap.objs.size)) → PE (ncx CX0 P w K mg base N F f A outer s H E) e te)
    (hg : ∀ (v : V) (d : PyData) (H : Hp) (B : Addr → Prop), BOk B H → Den B H v d → EvD B te (startF N [v] []) H (.bool (g d))) : ∃ tr, Trkd tr Hb ∧ LamOk P w K mg base CX0 (k + 1) f tr (spB g) := by
  refine ⟨[(f, LmO f F e .none), (F.c, CodeO F.c F.qual)], fun p hp => ?_, lam_pred (cs := []) (ws := []) S (.head _) (.tail _ (.head _)) (fun b p z => by cases z) (fun y c' z => ?_) (fun x y c' z => ?_) rfl (fun i y z => by simp at z) hb hbody hg⟩
  · rcases List.mem_cons.mp hp with rfl | hp
    · exact e1
    · rcases List.mem_cons.mp hp with rfl | hp
      · exact k1
      · cases hp
  · rw [hcl] at z
    cases z
  · rw [hcl] at z
    cases z
/-- it captures one name -/
theorem lam_pred1 {k : Nat} {f cc : Addr} {o : Obj} {vv : V} {Hb : Hp} {F : NF} {e : Expr} {N : List Str} {a y : Str} {te : TE} {g : PyData → Bool} (e1 : Hb f = some (LmO f F e .none)) (k1 : Hb F.c = some (CodeO F.c F.qual)) (c1 : Hb cc = some (CellO cc (o, vv))) (S : NScope N [a] [y] F.scope) (hcl : F.cl = [(y, cc)])
    (hb : ∀ (doc pm ctv u : Value), bindArgs (PySem.W.kdv_fn F.name F.qual F.params (.expr e) F.scope F.cl .none doc pm (.ref F.c) ctv) ⟨[u], []⟩ = pure [(a, u)])
    (hbody : ∀ (A : Around) (outer : List Env) (s : Shared) (H : Hp) (E : XK), Room k (A.deeper (envF F f s.heap.objs.size)) → PE (ncx CX0 P w K mg base N F f A outer s H E) e te)
    (hg : ∀ (v : V) (d : PyData) (H : Hp) (B : Addr → Prop), BOk B H → Den B H v d → EvD B te (startF N [v] [some vv]) H (.bool (g d))) : ∃ tr, Trkd tr Hb ∧ LamOk P w K mg base CX0 (k + 1) f tr (spB g) := by
  refine ⟨[(f, LmO f F e .none), (F.c, CodeO F.c F.qual), (cc, CellO cc (o, vv))], fun p hp => ?_, lam_pred (cs := [(cc, o, vv)]) (ws := [some vv]) S (.head _) (.tail _ (.head _)) (fun b p z => ?_) (fun y' c' z => ?_) (fun x y' c' z1 z2 => ?_) rfl (fun i y' z => ?_) hb hbody hg⟩
  · rcases List.mem_cons.mp hp with rfl | hp
    · exact e1
    · rcases List.mem_cons.mp hp with rfl | hp
      · exact k1
      · rcases List.mem_cons.mp hp with rfl | hp
        · exact c1
        · cases hp
  · obtain ⟨rfl, rfl⟩ := one_look z
    exact .tail _ (.tail _ (.head _))
  · rw [hcl] at z
    obtain ⟨_, rfl⟩ := one_lookS z
    exact ⟨(o, vv), by simp⟩
  · rw [hcl] at z1 z2
    rw [(one_lookS z1).1, (one_lookS z2).1]
  · cases i with
    | zero =>
      have e : y = y' := by simpa using z
      subst e
      exact ⟨cc, (o, vv), by rw [hcl]; simp, rfl, by simp⟩
    | succ i => simp at z
end
theorem free_by {X : Cx} (ok : X.Ok) {scope : Scope} (h : (scope.names.all fun y => !decide (y.2 = .free) || decide (X.env.scope.names.lookup y.1 = some .cell)) = true) : ∀ y ∈ scope.names, y.2 = .free → ∃ c, X.env.cells.lookup y.1 = some c := fun y hy e => by
  have := List.all_eq_true.mp h y hy
  rw [Bool.or_eq_true, decide_eq_true_eq, Bool.not_eq_true', decide_eq_false_iff_not] at this
  exact ok.has y.1 (.inl (this.resolve_left fun z => z e))
/-- a def that asks and makes lambdas: its tables may grow -/
def spLB (T : List (Addr × Str)) (g : PyData → Bool) : Sp := fun vs H Q _ => ∃ (B : Addr → Prop) (v : V) (d : PyData), vs = [v] ∧ BOk B H ∧ Den B H v d ∧ Tabs T H ∧ ∀ H', Mkd T H H' → Q (.bl (g d)) H'
theorem key_pre {x : PyData} (h : isPrefix x = true) : keyD x := by
  unfold isPrefix at h
  rw [Bool.and_eq_true] at h
  cases x with
  | str s =>
    refine .inl ⟨s, rfl, ?_⟩
    have h1 := h.1
    unfold isOf at h1
    simp only [Bool.and_eq_true] at h1
    have h2 := h1.2.2
    unfold allIn at h2
    rw [List.all_eq_true] at h2
    unfold PyData.strOk
    rw [← Array.all_toList, List.all_eq_true]
    intro c hc
    have h3 := of_decide_eq_true (h2 c hc)
    have h4 : (LET.cps.toList.all fun c => decide (c < 0x110000)) = true := by decide +kernel
    exact List.all_eq_true.mp h4 c h3
  | _ => cases h.1
section
variable {P : Program} {w : World} {K : PySem.W.Frag} {mg : Str → Option Value} {base : Heap} {Tb : List (Addr × Str)}
theorem l_are_declarations (T : Txt K mg) (D : DefL K mg base "_law_are_declarations" s_law_are_declarations p_law_are_declarations Tb) : Cal P w K mg base CX0 6 "_law_are_declarations" (spLB Tb (pairsOk isPrefix isAddrOr)) := by
  refine cal_ofL (k := 5) D sc_law_are_declarations (fun vs H Q E h => by obtain ⟨B, v, d, rfl, _⟩ := h; rfl) ?_
  rintro f c Pt A outer s H vs Q E tb hT hu hr ⟨B, v, d, rfl, hB, dv, ht, q⟩
  refine ⟨_, pss_cons (ps_set (i := 1) sc_law_are_declarations.nd rfl (Or.inr rfl) pe_str)
    (pss_one (ps_ret (pe_callC (j := 1) (y := "signs") (l_are_pairs T) hr (pa_cons (pv 0) (pa_cons (pe_lam tb rfl hT hu (fun ok => free_by ok rfl) rfl) (pa_cons (pe_lam tb rfl hT hu (fun ok => free_by ok rfl) rfl) pa_nil))) rfl rfl rfl))), ?_⟩
  refine z_asg (B := B) (d := .str ADR) vd_str fun v1 H1 x1 d1 => ?_
  have ev1 := d1.str'
  subst ev1
  refine ⟨.str ADR, rfl, fun cc hcc => ⟨v, rfl, ht.ext x1, fun f1 c1 H2 M2 n1 e1 k1 => ⟨M2.tb, fun f2 c2 H3 M3 n2 e2 k2 nC o => ?_⟩⟩⟩
  have hcc' : s.heap.objs.size + 1 = cc := Option.some.inj (show some (s.heap.objs.size + 1) = some cc from hcc)
  have M13 : Mkd Tb H H3 := (Mkd.of ht x1).trans (M2.trans M3)
  have hone : ∀ b p, [(cc, o, V.str ADR)].lookup b = some p → H3 b = none := fun b p z => by
    obtain ⟨rfl, _⟩ := one_look z
    exact nC
  have k1' : H3 c1 = some (CodeO c1 _) := M3.ex _ _ k1 fun ps => codeO_ne ps
  have e1' := M3.ex _ _ e1 fun ps z => by cases z
  obtain ⟨tr1, t1, L1⟩ := lam_pred0 (P := P) (w := w) (K := K) (mg := mg) (base := base) (k := 3) (N := ["one"]) (a := "one") (g := isPrefix) (Hb := backC [(cc, o, .str ADR)] H3) (backC_some hone e1') (backC_some hone k1') (nscope_by rfl) rfl (fun doc pm ctv u => rfl) (fun A outer s H E hr => pe_cal (l_is_word T) (hr.mono (by decide)) (pa_cons (pv 0) (pa_cons pe_int pa_nil)))
    (fun u e H B hB de => vd_call (e, 0) hB (va_cons (vd_var rfl de) (va_cons (vd_nat (n := 0)) va_nil)) trivial)
  obtain ⟨tr2, t2, L2⟩ := lam_pred1 (P := P) (w := w) (K := K) (mg := mg) (base := base) (k := 3) (cc := cc) (o := o) (vv := .str ADR) (N := ["two", "signs"]) (a := "two") (y := "signs") (g := isAddrOr) (Hb := backC [(cc, o, .str ADR)] H3) (backC_some hone e2) (backC_some hone k2) (backC_yes (by simp)) (nscope_by rfl) (by rw [← hcc']; rfl) (fun doc pm ctv u => rfl)
    (fun A outer s H E hr => pe_cal (l_is_of T) (hr.mono (by decide)) (pa_cons (pv 0) (pa_cons (pv 1) (pa_cons pe_int (pa_cons pe_int pa_nil)))))
    (fun u e H B hB de => vd_call (e, ADR, 0, 20) hB (va_cons (vd_var rfl de) (va_cons (vd_var rfl (.str ADR (by decide +kernel))) (va_cons (vd_nat (n := 0)) (va_cons (vd_nat (n := 20)) va_nil)))) trivial)
  exact ⟨NoB, v, d, f1, f2, tr1, tr2, isPrefix, isAddrOr, rfl, noB, (dv.mkd M13).backC hone, fun _ _ => id, fun _ _ => id, L1, L2, t1, t2, fun x h => key_pre h, fun H' x => q _ (mkd_drop M13 hone x)⟩
end
end G
set_option maxHeartbeats 1000000
/-! _law_are_attributes -/
namespace G
open PySem PySem.Spec PyProof.Rows L2 Evl LamX NdefX
theorem key_name {x : PyData} (h : isName x = true) : keyD x := by
  unfold isName isPair at h
  simp only [Bool.and_eq_true, decide_eq_true_eq] at h
  obtain ⟨⟨ht, hl⟩, hp, hq⟩ := h
  obtain ⟨xs, rfl⟩ := tup_of ht
  match xs, hl with
  | [a, b], _ =>
    have ha : isPrefix a = true := hp
    have hb : isLocal b = true := hq
    rcases key_pre ha with ⟨s, rfl, h1⟩ | ⟨s, z, rfl, _⟩
    · have hb2 : isPrefix b = true := by
        unfold isLocal at hb
        unfold isPrefix
        rw [Bool.and_eq_true] at hb ⊢
        refine ⟨?_, hb.2⟩
        have h3 := hb.1
        cases b with
        | str s => 
          unfold isOf at h3 ⊢
          simp only [Bool.and_eq_true, decide_eq_true_eq] at h3 ⊢
          exact ⟨Nat.zero_le _, h3.2⟩
        | _ => cases h3
      rcases key_pre hb2 with ⟨z, rfl, h2⟩ | ⟨z, y, rfl, _⟩
      · exact .inr ⟨s, z, rfl, h1, h2⟩
      · cases hb
    · cases ha
section
variable {P : Program} {w : World} {K : PySem.W.Frag} {mg : Str → Option Value} {base : Heap} {Tb : List (Addr × Str)}
theorem l_are_attributes (T : Txt K mg) (D : DefL K mg base "_law_are_attributes" s_law_are_attributes p_law_are_attributes Tb) : Cal P w K mg base CX0 6 "_law_are_attributes" (spLB Tb (pairsOk isName fun x => isPlain x || isName x)) := by
  refine cal_ofL (k := 5) D sc_law_are_attributes (fun vs H Q E h => by obtain ⟨B, v, d, rfl, _⟩ := h; rfl) ?_
  rintro f c Pt A outer s H vs Q E tb hT hu hr ⟨B, v, d, rfl, hB, dv, ht, q⟩
  obtain ⟨f1, hf1, L1⟩ := lam_cal (l_is_name (P := P) (w := w) (base := base) T) T.f_law_is_name
  refine ⟨_, pss_one (ps_ret (pe_cal (l_are_pairs T) hr (pa_cons (pv 0) (pa_cons (pe_glob (v := V.ref f1) rfl hf1 rfl (by decide)) (pa_cons (pe_lam tb rfl hT hu (fun ok => free_by ok rfl) rfl) pa_nil))))), ?_⟩
  refine ⟨v, rfl, ⟨ht, fun f2 c2 H3 M3 n2 e2 k2 => ?_⟩⟩
  obtain ⟨tr2, t2, L2⟩ := lam_pred0 (P := P) (w := w) (K := K) (mg := mg) (base := base) (k := 3) (N := ["two"]) (a := "two") (g := fun x => isPlain x || isName x) e2 k2 (nscope_by rfl) rfl (fun doc pm ctv u => rfl)
    (fun A outer s H E hr => pe_or (pe_cal (l_is_plain T) (hr.mono (by decide)) (pa_cons (pv 0) pa_nil)) (pe_one (pe_cal (l_is_name T) hr (pa_cons (pv 0) pa_nil))))
    (fun u e H B hB de => vd_orV (vd_call1 hB (vd_var rfl de)) fun _ => vd_call1 hB (vd_var rfl de))
  exact ⟨NoB, v, d, f1, f2, [], tr2, isName, fun x => isPlain x || isName x, rfl, noB, dv.mkd M3, fun _ _ => id, fun _ _ => id, L1.mono (by decide), L2, fun p hp => (by cases hp), t2, fun x h => key_name h, fun H' x => q _ (M3.ex' x)⟩
end
end G
set_option maxHeartbeats 1000000
/-! _law_item -/
namespace G
open PySem PySem.Spec PyProof.Rows L2 Evl LamX NdefX
/-! ### pairs as the program asks for them -/
theorem dupNo_map {α : Type} [DecidableEq α] (f : α → PyData) (hf : ∀ a b, PyData.eqv (f a) (f b) = decide (a = b)) (L : List α) : dupNo (L.map f) = decide L.Nodup := by
  rw [Bool.eq_iff_iff, decide_eq_true_eq]
  unfold dupNo
  rw [isEmpty_filter, List.all_eq_true, List.length_map]
  have get : ∀ i (h : i < L.length), dupAt (L.map f) i = decide (L[i] ∈ L.take i) := fun i h => by
    unfold dupAt
    have e : (L.map f).getD i .none = f L[i] := by
      rw [List.getD_eq_getElem?_getD, List.getElem?_map, List.getElem?_eq_getElem h]
      rfl
    rw [e, ← List.map_take, List.any_map, Bool.eq_iff_iff, List.any_eq_true, decide_eq_true_eq]
    constructor
    · rintro ⟨x, hx, hx2⟩
      have : decide (x = L[i]) = true := by rw [← hf]; exact hx2
      rw [of_decide_eq_true this] at hx
      exact hx
    · intro h2
      exact ⟨L[i], h2, by show PyData.eqv _ _ = true; rw [hf]; exact decide_eq_true rfl⟩
  rw [List.Nodup, List.pairwise_iff_getElem]
  constructor
  · intro h i j hi hj hij e
    have q := h j (List.mem_range.mpr hj)
    rw [get j hj] at q
    have : L[j] ∈ L.take j := by
      rw [List.mem_take_iff_getElem]
      exact ⟨i, by omega, e⟩
    rw [decide_eq_true this] at q
    cases q
  · intro h i hi
    have hi := List.mem_range.mp hi
    rw [get i hi]
    have : ¬ L[i] ∈ L.take i := fun z => by
      rw [List.mem_take_iff_getElem] at z
      obtain ⟨j, hj, e⟩ := z
      exact h j i (by omega) hi (by omega) e
    rw [decide_eq_false this]
    rfl
theorem pairs_eq (g1 g2 : PyData → Bool) {α : Type} [DecidableEq α] (f : α → PyData) (hf : ∀ a b, PyData.eqv (f a) (f b) = decide (a = b)) (key : PyData → α) (hk : ∀ p, g1 (kid p 0) = true → kid p 0 = f (key p)) (d : PyData) :
    pairsOk g1 g2 d = (isTup d && ((kids d).all (fun p => isPair p && (g1 (kid p 0) && g2 (kid p 1))) && decide (((kids d).map key).Nodup))) := by
  unfold pairsOk
  have e : ((kids d).all fun p => isPair p && (g1 (kid p 0) && g2 (kid p 1))) = ((kids d).all isPair && (kids d).all fun p => g1 (kid p 0) && g2 (kid p 1)) := by
    induction kids d with
    | nil => rfl
    | cons a r ih =>
      simp only [List.all_cons, ih]
      cases isPair a <;> cases g1 (kid a 0) <;> cases g2 (kid a 1) <;> simp
  rw [e]
  cases h1 : isTup d with
  | false => rfl
  | true =>
    cases h2 : (kids d).all isPair with
    | false => rfl
    | true =>
      cases h3 : (kids d).all (fun p => g1 (kid p 0) && g2 (kid p 1)) with
      | false => rfl
      | true =>
        have e2 : ((kids d).map fun p => kid p 0) = ((kids d).map key).map f := by
          rw [List.map_map]
          refine List.map_congr_left fun p hp => ?_
          have := List.all_eq_true.mp h3 p hp
          rw [Bool.and_eq_true] at this
          exact hk p this.1
        rw [e2, dupNo_map f hf]
        simp
theorem pre_str {x : PyData} (h : isPrefix x = true) : x = .str (strOf x) := by
  unfold isPrefix at h
  rw [Bool.and_eq_true] at h
  exact isStr_of (isOf_str h.1)
theorem decls_eq (d : PyData) : pairsOk isPrefix isAddrOr d = areDecls d := by
  rw [pairs_eq isPrefix isAddrOr PyData.str (fun a b => ?_) keyS (fun p h => pre_str h)]
  · rfl
  · show (a == b) = decide (a = b)
    rw [Bool.eq_iff_iff, beq_iff_eq, decide_eq_true_eq]
theorem name_tup {x : PyData} (h : isName x = true) : x = .tuple [.str (strOf (kid x 0)), .str (strOf (kid x 1))] := by
  rcases key_name h with ⟨s, rfl, _⟩ | ⟨s, z, rfl, _⟩
  · cases h
  · rfl
theorem attrs_eq (d : PyData) : pairsOk isName (fun x => isPlain x || isName x) d = areAttrs d := by
  rw [pairs_eq isName (fun x => isPlain x || isName x) (fun a : Str × Str => PyData.tuple [.str a.1, .str a.2]) (fun a b => ?_) keyN (fun p h => name_tup h)]
  · rfl
  · show (a.1 == b.1 && (a.2 == b.2 && true)) = decide (a = b)
    rw [Bool.eq_iff_iff]
    simp only [Bool.and_eq_true, beq_iff_eq, decide_eq_true_eq, Bool.and_true]
    constructor
    · rintro ⟨h1, h2⟩
      exact Prod.ext h1 h2
    · rintro rfl
      exact ⟨rfl, rfl⟩
/-- the first item that is not as told, as a text -/
def itemS (d : PyData) : Str := match itemOf d with
  | some i => i.str
  | none => ""
def ITS : List Str := ["name", "declarations", "attributes", "children", ""].map Str.ofString
/-- where the first False stands -/
theorem first_no (b1 b2 b3 b4 : Bool) : ∃ j : Nat, j < 5 ∧ [b1, b2, b3, b4, false][j]? = some false ∧ (∀ (m : Nat) (z : Bool), m < j → [b1, b2, b3, b4, false][m]? = some z → z = true) ∧
    ITS[j]? = some (if !b1 then Str.ofString "name" else if !b2 then Str.ofString "declarations" else if !b3 then Str.ofString "attributes" else if !b4 then Str.ofString "children" else Str.ofString "") := by
  cases b1 with
  | false => exact ⟨0, by omega, rfl, fun m z h => by omega, rfl⟩
  | true => cases b2 with
    | false => exact ⟨1, by omega, rfl, fun m z h e => (by
        have : m = 0 := by omega
        subst this
        exact (Option.some.inj e).symm), rfl⟩
    | true => cases b3 with
      | false => exact ⟨2, by omega, rfl, fun m z h e => (by
          have : m = 0 ∨ m = 1 := by omega
          rcases this with rfl | rfl <;> exact (Option.some.inj e).symm), rfl⟩
      | true => cases b4 with
        | false => exact ⟨3, by omega, rfl, fun m z h e => (by
            have : m = 0 ∨ m = 1 ∨ m = 2 := by omega
            rcases this with rfl | rfl | rfl <;> exact (Option.some.inj e).symm), rfl⟩
        | true => exact ⟨4, by omega, rfl, fun m z h e => (by
            have : m = 0 ∨ m = 1 ∨ m = 2 ∨ m = 3 := by omega
            rcases this with rfl | rfl | rfl | rfl <;> exact (Option.some.inj e).symm), rfl⟩
theorem bools_of {B : Addr → Prop} {H : Hp} : ∀ {bs : List Bool} {xs : List V}, Dens B H xs (bs.map PyData.bool) → xs = bs.map V.bl
  | [], _, r => by cases r; rfl
  | b :: t, _, r => by
    obtain ⟨v, s, rfl, d1, r1⟩ := r.cons'
    rw [d1.bl', bools_of r1]
    rfl
theorem Mkd.wr {T : List (Addr × Str)} {H H1 : Hp} {p : Addr} {xs ys : List V} (m : Mkd T H H1) (hp : H p = none) (e : H1 p = some (.lst xs)) : Mkd T H (upd H1 p (.lst ys)) := by
  refine ⟨fun b o hb n => ?_, fun b hb => ?_, fun q hq => ?_⟩
  · rw [upd_ne (ne_of_none hb hp)]
    exact m.ex b o hb n
  · by_cases h : b = p
    · rw [h]; exact hp
    · rw [upd_ne h] at hb
      exact m.dom b hb
  · obtain ⟨ps, a1, a2, a3⟩ := m.tb q hq
    refine ⟨ps, ?_, a2, fun pos cv z => ?_⟩
    · rw [upd_ne fun h => by rw [h, e] at a1; cases a1]
      exact a1
    · obtain ⟨c0, b1, b2⟩ := a3 pos cv z
      refine ⟨c0, b1, ?_⟩
      rw [upd_ne fun h => by
        rw [h, e] at b2
        unfold CodeO at b2
        cases b2]
      exact b2
theorem vd_indexB {K : PySem.W.Frag} {B : Addr → Prop} {σ : L2.St} {H : Hp} {te : TE} {bs : List Bool} {j : Nat} (h : EvD B te σ H (.list (bs.map PyData.bool))) (hj : bs[j]? = some false) (hb : ∀ (m : Nat) (z : Bool), m < j → bs[m]? = some z → z = true) (hl : j ≤ 1000) :
    EvD B (tBM K "list" (rIndex K) te (tCons (tC (.bl false)) tNil)) σ H (.int (j : Nat)) := fun H1 x Q q => h H1 x _ fun v H2 x2 dv => by
  obtain ⟨a, xs, rfl, ha, nb, r⟩ := dv.lst'
  have ex := bools_of r
  subst ex
  refine ⟨Or.inl ⟨rfl, _, sq_of ha⟩, a, _, .bl false, j, .bl false, rfl, rfl, SqL.of ha, rfl, ?_, ?_, rfl, fun m z hm hz => ?_, q _ H2 x2 (.int _ (fit_nat (by omega)))⟩
  · rw [List.all_map, List.all_eq_true]
    intro b _
    rfl
  · rw [List.getElem?_map, hj]
    rfl
  · rw [List.getElem?_map] at hz
    obtain ⟨b, hb1, rfl⟩ := Option.map_eq_some_iff.mp hz
    rw [hb m b hm hb1]
    rfl
section
variable {K : PySem.W.Frag} {B : Addr → Prop} {σ : L2.St} {H : Hp} {te : TE} {d : PyData} {Tb : List (Addr × Str)} {g : PyData → Bool} {Q : VK} {E : XK}
theorem m_call (hB : BOk B H) (h : EvD B te σ H d) (ht : Tabs Tb H) (k : ∀ H', Mkd Tb H H' → Q (.bl (g d)) H') : tCall (spLB Tb g) [] E (tCons te tNil) σ H Q := h H (Ex.refl H) _ fun v H1 x1 dv => ⟨B, v, d, rfl, hB.ex x1, dv, ht.ext x1, fun H' m => k H' ((Mkd.of ht x1).trans m)⟩
end
/-- the like, a text told -/
def spLS (T : List (Addr × Str)) (g : PyData → Str) : Sp := fun vs H Q _ => ∃ (B : Addr → Prop) (v : V) (d : PyData), vs = [v] ∧ BOk B H ∧ Den B H v d ∧ Tabs T H ∧ ∀ H', Mkd T H H' → Q (.str (g d)) H'
section
variable {P : Program} {w : World} {K : PySem.W.Frag} {mg : Str → Option Value} {base : Heap} {Tb : List (Addr × Str)}
theorem l_item (T : Txt K mg) (D1 : DefL K mg base "_law_are_declarations" s_law_are_declarations p_law_are_declarations Tb) (D2 : DefL K mg base "_law_are_attributes" s_law_are_attributes p_law_are_attributes Tb) : Cal P w K mg base CX0 7 "_law_item" (spLS Tb itemS) := by
  refine cal_of (k := 6) T.f_law_item sc_law_item (fun vs H Q E h => by obtain ⟨B, v, d, rfl, _⟩ := h; rfl) ?_
  rintro f cdv A outer s H vs Q E hr ⟨B, v, d, rfl, hB, dv, ht, q⟩
  refine ⟨_, pss_cons (ps_if (pw_or (pt_not (pt_val (pe_cal (l_begins T) (hr.mono (by decide)) (pa_cons (pv 0) (pa_cons pe_str pa_nil))))) (pw_or1 (pt_cmpR op_ne (e_len T (pv 0)) pe_int (nomark _)))).pt (pss_one (ps_ret pe_str)) pss_nil)
    (pss_cons (ps_set (i := 1) sc_law_item.nd rfl (Or.inl rfl) (pe_lst (pa_cons (pe_cal (l_is_name T) (hr.mono (by decide)) (pa_cons (pe_ix ix_tup (pv 0) pe_int (fun _ _ => rfl)) pa_nil)) (pa_cons (pe_cal (l_are_declarations T D1) hr (pa_cons (pe_ix ix_tup (pv 0) pe_int (fun _ _ => rfl)) pa_nil)) (pa_cons (pe_cal (l_are_attributes T D2) hr (pa_cons (pe_ix ix_tup (pv 0) pe_int (fun _ _ => rfl)) pa_nil)) pa_nil)))))
    (pss_cons (ps_expr (e_app (pv 1) (pe_cal (l_are_children T) (hr.mono (by decide)) (pa_cons (pe_ix ix_tup (pv 0) pe_int (fun _ _ => rfl)) pa_nil))))
    (pss_one (ps_ret (pe_ix ix_list (pe_op op_cat (pe_lst (pa_cons pe_str (pa_cons pe_str (pa_cons pe_str (pa_cons pe_str pa_nil))))) (pe_lst (pa_cons pe_str pa_nil))) (pe_bm PySem.F.plainAttrs_list PySem.F.slot_list_index PySem.F.type_list_index mt_index (pe_op op_cat (pv 1) (pe_lst (pa_cons pe_bl pa_nil))) (pa_cons pe_bl pa_nil)) (fun _ _ => rfl)))))), ?_⟩
  refine z_when (b := !begins d ELE || !decide ((kids d).length = 5)) (et_or (et_not (vt_B (vd_call (d, ELE) hB (va_cons (vd_var rfl dv) (va_cons vd_str va_nil)) trivial))) fun h => vt_test (vd_neN (vd_lenK (vd_var rfl dv) ?_) (vd_nat (n := 5)))) (fun hb H1 x1 D' hD => ?_) (fun hb H1 x1 => ?_)
  · obtain ⟨r, rfl⟩ := begins_tup (show begins d ELE = true by simpa using h)
    rfl
  · show D'.rt (.str "form") H1
    rw [hD]
    have e : itemS d = Str.ofString "form" := by
      unfold itemS itemOf
      rw [hb]
      rfl
    rw [← e]
    exact q H1 (Mkd.of ht x1)
  rw [Bool.or_eq_false_iff] at hb
  have hbe : begins d ELE = true := by simpa using hb.1
  have hlen : (kids d).length = 5 := by simpa using hb.2
  have htup : isTup d = true := by
    obtain ⟨r, rfl⟩ := begins_tup hbe
    rfl
  refine (vd_call1 (F := fun x => .bool (isName x)) (hB.ex x1) (vd_kid (i := 1) (vd_var rfl (dv.ex x1)) htup (by omega)) : EvD B _ [some v, none] H1 (.bool (isName (kid d 1)))) H1 (Ex.refl H1) _ fun u1 H2 x2 du1 => ?_
  have x12 := x1.trans x2
  refine m_call (hB.ex x12) (vd_kid (i := 2) (vd_var rfl (dv.ex x12)) htup (by omega)) (ht.ext x12) fun H3 m3 => ?_
  have M3 := (Mkd.of ht x12).trans m3
  have dv3 := dv.mkd M3
  refine m_call noB (vd_kid (i := 3) (vd_var rfl dv3) htup (by omega)) M3.tb fun H4 m4 => ?_
  have M4 := M3.trans m4
  have dv4 := dv.mkd M4
  refine ⟨by show 3 ≤ sizeLine; decide, fun p hp => ?_⟩
  have M5 := M4.new (o := .lst [u1, .bl (pairsOk isPrefix isAddrOr (kid d 2)), .bl (pairsOk isName (fun x => isPlain x || isName x) (kid d 3))]) hp
  refine g_name' ?_
  have dv5 : Den NoB _ v d := dv4.ex (Ex.new (o := .lst [u1, .bl (pairsOk isPrefix isAddrOr (kid d 2)), .bl (pairsOk isName (fun x => isPlain x || isName x) (kid d 3))]) hp)
  refine z_app (B := NoB) (l := p) (xs := [u1, .bl (pairsOk isPrefix isAddrOr (kid d 2)), .bl (pairsOk isName (fun x => isPlain x || isName x) (kid d 3))]) (d := .bool (areChildren (kid d 4))) upd_same (ev_var rfl) (vd_call1 noB (vd_kid (i := 4) (vd_var rfl dv5) htup (by omega))) (by show 3 ≤ 10000000; decide) fun v6 H6 x6 d6 => ?_
  have e1 := du1.bl'
  have e6 := d6.bl'
  subst e1 e6
  rw [decls_eq, attrs_eq] at x6
  rw [decls_eq, attrs_eq] at M5
  rw [decls_eq, attrs_eq]
  have M6 := (M5.ex' x6).wr (ys := [.bl (isName (kid d 1)), .bl (areDecls (kid d 2)), .bl (areAttrs (kid d 3)), .bl (areChildren (kid d 4))]) (M4.dom p hp) (x6 p _ upd_same)
  obtain ⟨j, hj5, hj, hjb, hI⟩ := first_no (isName (kid d 1)) (areDecls (kid d 2)) (areAttrs (kid d 3)) (areChildren (kid d 4))
  have dL : Den NoB (upd H6 p (.lst [.bl (isName (kid d 1)), .bl (areDecls (kid d 2)), .bl (areAttrs (kid d 3)), .bl (areChildren (kid d 4))])) (.ref p) (.list [.bool (isName (kid d 1)), .bool (areDecls (kid d 2)), .bool (areAttrs (kid d 3)), .bool (areChildren (kid d 4))]) := .lst (by show 4 ≤ 100000; decide) upd_same id (.cons (.bl _) (.cons (.bl _) (.cons (.bl _) (.cons (.bl _) .nil))))
  have hS : ITS[j]? = some (itemS d) := by
    rw [hI]
    unfold itemS itemOf
    rw [hbe, decide_eq_true hlen]
    cases isName (kid d 1) <;> cases areDecls (kid d 2) <;> cases areAttrs (kid d 3) <;> cases areChildren (kid d 4) <;> rfl
  refine sd_ret (B := NoB) (d := .str (itemS d)) (vd_ixL (i := j) (ds := ITS.map PyData.str) (vd_catL (B := NoB) (ds := [.str "name", .str "declarations", .str "attributes", .str "children"]) (es := [.str ""]) (vd_lst noB (va_cons vd_str (va_cons vd_str (va_cons vd_str (va_cons vd_str va_nil)))) (by show 4 ≤ 100000; decide)) (vd_lst noB (va_cons vd_str va_nil) (by show 1 ≤ 100000; decide)) noB (by show 4 + 1 ≤ 100000; decide))
    (vd_indexB (bs := [isName (kid d 1), areDecls (kid d 2), areAttrs (kid d 3), areChildren (kid d 4), false]) (vd_catL (B := NoB) (ds := [.bool (isName (kid d 1)), .bool (areDecls (kid d 2)), .bool (areAttrs (kid d 3)), .bool (areChildren (kid d 4))]) (es := [.bool false]) (vd_var rfl dL) (vd_lst noB (va_cons vd_bl va_nil) (by show 1 ≤ 100000; decide)) noB (by show 4 + 1 ≤ 100000; decide)) hj hjb (by omega)) ?_) fun v8 H8 x8 d8 => ?_
  · rw [List.getElem?_map, hS]
    rfl
  · rw [d8.str']
    exact q H8 (M6.ex' x8)
end
end G
set_option maxHeartbeats 1000000
/-! _law_fault -/
namespace G
open PySem PySem.Spec PyProof.Rows L2 Evl LamX NdefX
def faultE (p : List Nat) (s : Str) : PyData := .tuple [pathD p, .str s]
def faultD (f : Option (List Nat × Res)) : PyData := .list (match f with
  | none => []
  | some (p, r) => [faultE p r.str])
theorem m_callS {B : Addr → Prop} {σ : L2.St} {H : Hp} {te : TE} {d : PyData} {Tb : List (Addr × Str)} {g : PyData → Str} {Q : VK} {E : XK} (hB : BOk B H) (h : EvD B te σ H d) (ht : Tabs Tb H) (k : ∀ H', Mkd Tb H H' → Q (.str (g d)) H') : tCall (spLS Tb g) [] E (tCons te tNil) σ H Q := h H (Ex.refl H) _ fun v H1 x1 dv => ⟨B, v, d, rfl, hB.ex x1, dv, ht.ext x1, fun H' m => k H' ((Mkd.of ht x1).trans m)⟩
theorem isWord_len {d : PyData} (h : isWord d = true) : (strOf d).length ≤ 1000 := by
  unfold isWord isOf at h
  cases d with
  | str s =>
    simp only [Bool.and_eq_true, decide_eq_true_eq] at h
    have := h.2.1
    show s.length ≤ 1000
    omega
  | _ => cases h
/-- the like, a datum told -/
def spLD (T : List (Addr × Str)) (g : PyData → PyData) : Sp := fun vs H Q _ => ∃ (B : Addr → Prop) (v : V) (d : PyData), vs = [v] ∧ BOk B H ∧ Den B H v d ∧ Tabs T H ∧ ∀ u H', Mkd T H H' → Den NoB H' u (g d) → Q u H'
theorem Den.mkdB {T : List (Addr × Str)} {B : Addr → Prop} {H H' : Hp} {v : V} {d : PyData} (m : Mkd T H H') (h : Den B H v d) : Den B H' v d := h.dat fun b o hd e n => ⟨m.ex b o e (dat_tbl hd), n⟩
theorem Dens.mkdB {T : List (Addr × Str)} {B : Addr → Prop} {H H' : Hp} {vs : List V} {ds : List PyData} (m : Mkd T H H') (h : Dens B H vs ds) : Dens B H' vs ds := h.dat fun b o hd e n => ⟨m.ex b o e (dat_tbl hd), n⟩
theorem Dens.noB {B : Addr → Prop} {H : Hp} {vs : List V} {ds : List PyData} (h : Dens B H vs ds) : Dens NoB H vs ds := h.le fun _ z => z.elim
theorem Mkd.kp {T : List (Addr × Str)} {M : Addr → Prop} {H H1 H2 : Hp} (m : Mkd T H H1) (k : Kp M H1 H2) (hn : ∀ b, M b → H b = none) (hl : ∀ b, M b → ∃ xs, H1 b = some (.lst xs)) : Mkd T H H2 := by
  refine ⟨fun b o hb n => k.keep b o (m.ex b o hb n) fun z => ?_, fun b h => m.dom b (k.dom b h), fun q hq => ?_⟩
  · rw [hn b z] at hb
    cases hb
  · obtain ⟨ps, a1, a2, a3⟩ := m.tb q hq
    refine ⟨ps, k.keep _ _ a1 fun z => ?_, a2, fun pos cv z => ?_⟩
    · obtain ⟨xs, e⟩ := hl _ z
      rw [e] at a1
      cases a1
    · obtain ⟨c0, b1, b2⟩ := a3 pos cv z
      refine ⟨c0, b1, k.keep _ _ b2 fun z => ?_⟩
      obtain ⟨xs, e⟩ := hl _ z
      rw [e] at b2
      unfold CodeO at b2
      cases b2
/-- the def's three lists -/
abbrev Bd (pl pw pt : Addr) : Addr → Prop := fun b => b = pl ∨ b = pw ∨ b = pt
/-- the entries of those told twice: the first one counts -/
def Tw (tl : List PyData) (t : Option (List Nat)) : Prop := match t with
  | none => tl = []
  | some p => ∃ r, tl = faultE p HOL :: r
theorem Tw.put {tl : List PyData} {t : Option (List Nat)} (h : Tw tl t) (p : List Nat) : Tw (tl ++ [faultE p HOL]) (t.orElse fun _ => some p) := by
  cases t with
  | none =>
    have e : tl = [] := h
    rw [e]
    exact ⟨[], rfl⟩
  | some q =>
    obtain ⟨r, e⟩ := h
    rw [e]
    exact ⟨r ++ [faultE p HOL], rfl⟩
theorem Tw.out {tl : List PyData} {t : Option (List Nat)} (h : Tw tl t) : PyData.list (tl.take 1) = faultD (t.map fun p => (p, .hole)) := by
  cases t with
  | none =>
    have e : tl = [] := h
    rw [e]
    rfl
  | some q =>
    obtain ⟨r, e⟩ := h
    rw [e]
    rfl
theorem inV_str (z : Str) (w : List Str) : inV (.str z) (w.map V.str) = decide (z ∈ w) := by
  unfold inV
  rw [List.any_map, Bool.eq_iff_iff, List.any_eq_true, decide_eq_true_eq]
  constructor
  · rintro ⟨x, hx, e⟩
    have e2 : (x == z) = true := e
    rw [beq_iff_eq] at e2
    rw [← e2]
    exact hx
  · intro h
    exact ⟨z, h, (beq_self_eq_true z : (z == z) = true)⟩
theorem holesOf_snoc : ∀ (ds : List PyData) (c : PyData), holesOf (ds ++ [c]) = holesOf ds ++ (if begins c HOL then [strOf (kid c 1)] else [])
  | [], c => by
    show holesOf [c] = _
    unfold holesOf
    by_cases h : begins c HOL = true
    · rw [if_pos h, if_pos h]; rfl
    · rw [if_neg h, if_neg h]; rfl
  | x :: r, c => by
    rw [List.cons_append]
    unfold holesOf
    rw [holesOf_snoc r c]
    by_cases h : begins x HOL = true
    · rw [if_pos h, if_pos h]; rfl
    · rw [if_neg h, if_neg h]
theorem z_start {K : PySem.W.Frag} {B : Addr → Prop} {σ : L2.St} {H : Hp} {ta : TE} {D : Ends} {tw : TS} {ds : List PyData} (h : EvN B ta σ H ds)
    (k : ∀ pl pw pt xs H1, H pl = none → H pw = none → H pt = none → pl ≠ pw → pl ≠ pt → pw ≠ pt → Ex H H1 → H1 pl = some (.lst xs) → H1 pw = some (.lst []) → H1 pt = some (.lst []) → Dens (Bd pl pw pt) H1 xs ds → tw D ((((σ.set 1 (some (.ref pl))).set 2 (some (.int 0))).set 3 (some (.ref pw))).set 4 (some (.ref pt))) H1) :
    tSeq (tAsg (tTup (tCons ta (tCons (tC (.int 0)) (tCons (tLst tNil) (tCons (tLst tNil) tNil))))) (gTup K 4 (gCons (gName 1) (gCons (gName 2) (gCons (gName 3) (gCons (gName 4) gNil)))))) tw D σ H :=
  h H (Ex.refl H) _ fun pl ys H1 hpl x1 hl dy => ⟨by show 0 ≤ sizeLine; decide, fun pw hpw => ⟨by show 0 ≤ sizeLine; decide, fun pt hpt => ⟨by show 4 ≤ sizeLine; decide, fun tt htt => ⟨tt, _, rfl, SqT.of upd_same, rfl, _, _, rfl, _, _, rfl, _, _, rfl, _, _, rfl, rfl, by
    have n1 : pl ≠ pw := ne_of_none hl hpw
    have x2 : Ex H1 (upd H1 pw (.lst [])) := Ex.new hpw
    have n2 : pl ≠ pt := ne_of_none (x2 pl _ hl) hpt
    have n3 : pw ≠ pt := ne_of_none upd_same hpt
    have x3 : Ex (upd H1 pw (.lst [])) (upd (upd H1 pw (.lst [])) pt (.lst [])) := Ex.new hpt
    have x4 := Ex.new (o := .tup [.ref pl, .int 0, .ref pw, .ref pt]) htt
    have x24 := (x2.trans x3).trans x4
    exact k pl pw pt ys _ hpl (noneOf x1 hpw) (noneOf (x1.trans x2) hpt) n1 n2 n3 (x1.trans x24) (x24 pl _ hl) ((x3.trans x4) pw _ upd_same) (x4 pt _ upd_same) (dy.dat fun b o _ e n => ⟨x24 b o e, fun z => by
      rcases z with z | z | z
      · exact n (.inr z)
      · exact ne_of_none e hpw z
      · exact ne_of_none (x2 b o e) hpt z⟩)⟩⟩⟩⟩
section
variable {P : Program} {w : World} {K : PySem.W.Frag} {mg : Str → Option Value} {base : Heap} {Tb : List (Addr × Str)}
theorem l_fault (T : Txt K mg) (D1 : DefL K mg base "_law_are_declarations" s_law_are_declarations p_law_are_declarations Tb) (D2 : DefL K mg base "_law_are_attributes" s_law_are_attributes p_law_are_attributes Tb) : Cal P w K mg base CX0 8 "_law_fault" (spLD Tb fun d => faultD (fault d)) := by
  refine cal_of (k := 7) T.f_law_fault sc_law_fault (fun vs H Q E h => by obtain ⟨B, v, d, rfl, _⟩ := h; rfl) ?_
  rintro f cdv A outer s H vs Q E hr ⟨B, v, d, rfl, hB, dv, ht, q⟩
  have hLB := l_begins (P := P) (w := w) (base := base) T
  refine ⟨_, pss_cons (ps_asg (pe_tup (pa_cons (pe_lst (pa_cons (pe_tup (pa_cons (pe_tup pa_nil) (pa_cons (pv 0) pa_nil))) pa_nil)) (pa_cons pe_int (pa_cons (pe_lst pa_nil) (pa_cons (pe_lst pa_nil) pa_nil)))))
      (pg_tup (by rfl) (pgs_cons (pg_name (i := 1) sc_law_fault.nd rfl (Or.inl rfl)) (pgs_cons (pg_name (i := 2) sc_law_fault.nd rfl (Or.inl rfl)) (pgs_cons (pg_name (i := 3) sc_law_fault.nd rfl (Or.inl rfl)) (pgs_cons (pg_name (i := 4) sc_law_fault.nd rfl (Or.inl rfl)) pgs_nil))))))
    (pss_cons (ps_while PassesOwn.never (pt_cmpR (op_neE (hu0 hr)) (pv 1) (pe_lst pa_nil) (nomark _))
      (pss_cons (ps_asg (e_pop (pv 1)) (pg_tup (by rfl) (pgs_cons (pg_name (i := 5) sc_law_fault.nd rfl (Or.inr rfl)) (pgs_cons (pg_name (i := 6) sc_law_fault.nd rfl (Or.inl rfl)) pgs_nil))))
      (pss_cons (ps_par (i := 2) (j := 7) (by rfl) sc_law_fault.nd rfl rfl (by decide) rfl rfl (pa_cons (pe_op op_add (pv 2) pe_int) (pa_cons (pe_cal (l_item T D1 D2) hr (pa_cons (pv 6) pa_nil)) pa_nil)) (by rfl))
      (pss_cons (ps_if (pw_or (pt_cmpR op_gt (pv 2) pe_int (nomark _)) (pw_or1 (pt_cmpR op_gt (e_len T (pv 5)) pe_int (nomark _)))).pt (pss_one (ps_ret (pe_lst (pa_cons (pe_tup (pa_cons (pv 5) (pa_cons pe_str pa_nil))) pa_nil)))) pss_nil)
      (pss_cons (ps_if (pt_cmpR op_ne (pv 7) pe_str (nomark _)) (pss_one (ps_ret (pe_lst (pa_cons (pe_tup (pa_cons (pv 5) (pa_cons (pv 7) pa_nil))) pa_nil)))) pss_nil)
      (pss_cons (ps_for PassesOwn.never rfl (pi_tup (pe_ix ix_tup (pv 6) pe_int (fun _ _ => rfl))) (pg_name (i := 8) sc_law_fault.nd rfl (Or.inl rfl))
        (pss_one (ps_if (pt_val (pe_cal hLB (hr.mono (by decide)) (pa_cons (pv 8) (pa_cons pe_str pa_nil))))
          (pss_cons (ps_if (pt_cmpR op_in_seq (pe_ix ix_tup (pv 8) pe_int (fun _ _ => rfl)) (pv 3) (by rfl)) (pss_one (ps_expr (e_app (pv 4) (pe_tup (pa_cons (pv 5) (pa_cons pe_str pa_nil)))))) pss_nil)
          (pss_one (ps_expr (e_app (pv 3) (pe_ix ix_tup (pv 8) pe_int (fun _ _ => rfl)))))) pss_nil)))
      (pss_cons (ps_setLc (i := 9) (own := [("k", 10), ("child", 8)]) (g := gTup K 2 (gCons (gName 10) (gCons (gName 8) gNil))) (te := tTup (tCons (tOp (rCatA K) (tVar 5) (tTup (tCons (tVar 10) tNil))) (tCons (tVar 8) tNil)))
        (by rfl) sc_law_fault.nd rfl rfl (sw_true rfl rfl (by rfl) (by decide +kernel)) (pi_enumT (by rfl) T.b_enumerate (pa_cons (pe_ix ix_tup (pv 6) pe_int (fun _ _ => rfl)) pa_nil)) (blkOk_by (own := [("k", 10), ("child", 8)]) (N := n_law_fault) (sc := defScope s_law_fault) (by decide +kernel))
        (fun _ _ _ _ _ => pg_tup (by rfl) (pgs_cons (pg_name (i := 10) sc_law_fault.nd rfl (Or.inl rfl)) (pgs_cons (pg_name (i := 8) sc_law_fault.nd rfl (Or.inl rfl)) pgs_nil)))
        (fun _ _ _ _ _ => pts_one (pt_val (pe_cal hLB (hr.mono (by decide)) (pa_cons (pv 8) (pa_cons pe_str pa_nil))))) (fun _ _ _ _ _ => pe_tup (pa_cons (pe_op op_catA (pv 5) (pe_tup (pa_cons (pv 10) pa_nil))) (pa_cons (pv 8) pa_nil))))
      (pss_one (ps_set (i := 1) sc_law_fault.nd rfl (Or.inl rfl) (pe_op op_cat (pv 1) (pe_revL (pv 9)))))))))))) 
    (pss_one (ps_ret (pe_slice sl_list (pv 4) po_none (po_some pe_int))))), ?_⟩
  have rt : ∀ (D' : Ends) (pl pw pt : Addr) (te : TE) (σ' : L2.St) (H1 : Hp), D'.rt = Q → Mkd Tb H H1 → EvD (Bd pl pw pt) te σ' H1 (faultD (fault d)) → tRet te D' σ' H1 := fun D' pl pw pt te σ' H1 hD m h => h H1 (Ex.refl H1) _ fun u H2 x2 du => by
    show D'.rt u H2
    rw [hD]
    exact q u H2 (m.ex' x2) du.noB
  refine z_start (B := B) (ds := [entD ([], d)]) (vn_lst hB (va_cons (vd_tup hB (va_cons (vd_tup hB va_nil (by show 0 ≤ 100000; decide)) (va_cons (vd_var rfl dv) va_nil)) (by show 2 ≤ 100000; decide)) va_nil) (by show 1 ≤ 100000; decide)) ?_
  intro pl pw pt ys H1 hpl hpw hpt n1 n2 n3 x1 hl1 hw1 ht1 dy1
  refine z_while (fun m σ' H' => ∃ st w t cnt ys ts tl pl pw pt a5 a6 a7 a8 a9, σ' = [some v, some (.ref pl), some (.int ((cnt : Nat) : Int)), some (.ref pw), some (.ref pt), a5, a6, a7, a8, a9, none] ∧ Mkd Tb H H' ∧ H pl = none ∧ H pw = none ∧ H pt = none ∧ pl ≠ pw ∧ pl ≠ pt ∧ pw ≠ pt ∧
      H' pl = some (.lst ys) ∧ H' pw = some (.lst (w.map V.str)) ∧ H' pt = some (.lst ts) ∧ Dens (Bd pl pw pt) H' ys (st.map entD).reverse ∧ Dens (Bd pl pw pt) H' ts tl ∧ Tw tl t ∧ w.length ≤ cnt * 100000 ∧ tl.length ≤ cnt * 100000 ∧ cnt + m = 60 ∧ fault d = walkF m st w t ∧ st.length ≤ 1 + cnt * 100000) 60 ?_ ?_
  · refine ⟨[([], d)], [], none, 0, ys, [], [], pl, pw, pt, none, none, none, none, none, rfl, Mkd.of ht x1, hpl, hpw, hpt, n1, n2, n3, hl1, hw1, ht1, ?_, .nil, rfl, Nat.zero_le _, Nat.zero_le _, rfl, rfl, by show 1 ≤ 1 + 0 * 100000; decide⟩
    exact dy1
  rintro m σ' H' ⟨st, w, t, cnt, ys, ts, tl, pl, pw, pt, a5, a6, a7, a8, a9, rfl, mk, hpl, hpw, hpt, n1, n2, n3, hl, hw, hq, dy, dtl, tw, hwl, htl, hcm, hf, hsl⟩
  have okB : ∀ {H2 : Hp}, Ex H' H2 → BOk (Bd pl pw pt) H2 := fun {H2} x b hb z => by
    rcases hb with rfl | rfl | rfl
    · rw [x _ _ hl] at z; cases z
    · rw [x _ _ hw] at z; cases z
    · rw [x _ _ hq] at z; cases z
  refine ⟨!st.isEmpty, vt_test (vd_is (vd_cmpL (B := NoB) (neg := true) (ev_var rfl) (SqL.of hl)) ?_), ?_, ?_⟩
  · have := dy.length
    rw [List.length_reverse, List.length_map] at this
    show PyData.bool (!ys.isEmpty) = _
    rw [isEmpty_len this]
  · intro hb H2 x2 D' hD hnx
    cases st with
    | nil => cases hb
    | cons e st =>
      obtain ⟨p, o⟩ := e
      have dy2 := dy.ex x2
      rw [stack_cons] at dy2
      obtain ⟨zs, v2, rfl, dz, dv2⟩ := dy2.snoc'
      refine z_pop2 (B := Bd pl pw pt) (x2 pl _ hl) (ev_var rfl) dv2 (.inl rfl) fun u o' H3 kp other hl3 du dw => ?_
      have hBn : ∀ b, Bd pl pw pt b → H b = none := fun b hb => by
        rcases hb with rfl | rfl | rfl <;> assumption
      have hBl : ∀ {H2 : Hp}, Ex H' H2 → ∀ b, Bd pl pw pt b → ∃ xs, H2 b = some (.lst xs) := fun {H2} x b hb => by
        rcases hb with rfl | rfl | rfl
        · exact ⟨_, x _ _ hl⟩
        · exact ⟨_, x _ _ hw⟩
        · exact ⟨_, x _ _ hq⟩
      have M3 : Mkd Tb H H3 := (mk.ex' x2).kp kp hBn (hBl x2)
      have hw3 := other pw _ n1.symm (x2 pw _ hw)
      have hq3 := other pt _ n2.symm (x2 pt _ hq)
      have okL : ∀ {H5 : Hp}, (∃ xs, H5 pl = some (.lst xs)) → (∃ xs, H5 pw = some (.lst xs)) → (∃ xs, H5 pt = some (.lst xs)) → BOk (Bd pl pw pt) H5 := fun {H5} e1 e2 e3 b hb z => by
        obtain ⟨_, e1⟩ := e1
        obtain ⟨_, e2⟩ := e2
        obtain ⟨_, e3⟩ := e3
        rcases hb with rfl | rfl | rfl
        · rw [e1] at z; cases z
        · rw [e2] at z; cases z
        · rw [e3] at z; cases z
      have ok3 : BOk (Bd pl pw pt) H3 := okL ⟨_, hl3⟩ ⟨_, hw3⟩ ⟨_, hq3⟩
      have dz3 := dz.kp kp
      have dtl3 := (dtl.ex x2).kp kp
      refine (vi_op0 (g := fun i j => i + j) (φ := fun k => k = (cnt : Nat)) (ψ := fun k => k = 1) (χ := fun k => k = ((cnt + 1 : Nat) : Int)) (vi_var rfl rfl) (vi_c rfl) (by rintro a b rfl rfl; rfl)) H3 (Ex.refl H3) _ fun kk H4 x4 hkk => ?_
      subst hkk
      refine m_callS (ok3.ex x4) (vd_var rfl (dw.ex x4)) (M3.tb.ext x4) fun H5 m5 => ⟨_, _, rfl, ?_⟩
      have mA : Mkd Tb H3 H5 := (Mkd.of M3.tb x4).trans m5
      have M5 := M3.trans mA
      have ls : ∀ (xs : List V) (ps : Array Value), HO.lst xs ≠ .tbl ps := fun xs ps z => by cases z
      have hl5 := mA.ex pl _ hl3 (ls _)
      have hw5 := mA.ex pw _ hw3 (ls _)
      have hq5 := mA.ex pt _ hq3 (ls _)
      have ok5 : BOk (Bd pl pw pt) H5 := okL ⟨_, hl5⟩ ⟨_, hw5⟩ ⟨_, hq5⟩
      have du5 := du.mkdB mA
      have dw5 := dw.mkdB mA
      have dz5 := dz3.mkdB mA
      have dtl5 := dtl3.mkdB mA
      have hpl2 : dlen (pathD p) = p.length := by show (p.map fun n => PyData.int (n : Nat)).length = _; rw [List.length_map]
      have fitc : ((cnt + 1 : Nat) : Int).natAbs < 10 ^ 39 := fit_nat (by omega)
      have hil : (itemS o).length ≤ 1000 := by
        unfold itemS
        cases itemOf o with
        | none => decide +kernel
        | some i => cases i <;> decide +kernel
      show tSeq _ _ D' [some v, some (.ref pl), some (.int ((cnt + 1 : Nat) : Int)), some (.ref pw), some (.ref pt), some u, some o', some (.str (itemS o)), a8, a9, none] H5
      refine z_when (b := decide (60 < cnt + 1) || decide (7 < p.length)) (et_or (vt_test (vd_gtN (B := Bd pl pw pt) (vd_var rfl (.int _ fitc)) (vd_nat (n := 60)))) fun _ => vt_test (vd_gtN (vd_len (vd_var rfl du5) rfl hpl2) (vd_nat (n := 7)))) (fun hb6 H6 x6 D2 hD2 => ?_) (fun hb6 H6 x6 => ?_)
      · refine rt D2 pl pw pt _ _ H6 (hD2.trans hD) (M5.ex' x6) (vd_is (vd_lst (ok5.ex x6) (va_cons (vd_tup (ok5.ex x6) (va_cons (vd_var rfl (du5.ex x6)) (va_cons vd_str va_nil)) (by show 2 ≤ 100000; decide)) va_nil) (by show 1 ≤ 100000; decide)) ?_)
        rw [Bool.or_eq_true, decide_eq_true_eq, decide_eq_true_eq] at hb6
        have e : fault d = some (p, .item .form) := by
          rw [hf]
          cases m with
          | zero => rfl
          | succ j =>
            have h8 : 8 ≤ p.length := by omega
            unfold walkF
            rw [if_pos h8]
        rw [e]
        rfl
      rw [Bool.or_eq_false_iff, decide_eq_false_iff_not, decide_eq_false_iff_not] at hb6
      obtain ⟨j, rfl⟩ : ∃ j, m = j + 1 := ⟨m - 1, by omega⟩
      refine z_when (b := !decide (itemS o = Str.ofString "")) (vt_test (vd_neS (B := Bd pl pw pt) (vd_var rfl (.str _ hil)) vd_str)) (fun hb7 H7 x7 D2 hD2 => ?_) (fun hb7 H7 x7 => ?_)
      · have ok7 := ok5.ex (x6.trans x7)
        refine rt D2 pl pw pt _ _ H7 (hD2.trans hD) (M5.ex' (x6.trans x7)) (vd_is (vd_lst ok7 (va_cons (vd_tup ok7 (va_cons (vd_var rfl (du5.ex (x6.trans x7))) (va_cons (vd_var rfl (.str _ hil)) va_nil)) (by show 2 ≤ 100000; decide)) va_nil) (by show 1 ≤ 100000; decide)) ?_)
        obtain ⟨i, hi⟩ : ∃ i, itemOf o = some i := by
          cases hh : itemOf o with
          | none =>
            have : itemS o = Str.ofString "" := by unfold itemS; rw [hh]
            rw [decide_eq_true this] at hb7
            cases hb7
          | some i => exact ⟨i, rfl⟩
        have e : fault d = some (p, .item i) := by
          rw [hf]
          unfold walkF
          rw [if_neg (by omega), hi]
        have e2 : itemS o = i.str := by unfold itemS; rw [hi]
        rw [e, e2]
        rfl
      have hit : itemOf o = none := by
        cases hh : itemOf o with
        | none => rfl
        | some i =>
          have : ¬ itemS o = Str.ofString "" := by
            unfold itemS
            rw [hh]
            cases i <;> decide +kernel
          rw [decide_eq_false this] at hb7
          cases hb7
      have hf' : fault d = walkF j (below p o ++ st) (addHoles p (holesIn o) w t).1 (addHoles p (holesIn o) w t).2 := by
        rw [hf]
        exact walkF_go (by omega) hit
      have x57 := x6.trans x7
      have ok7 := ok5.ex x57
      have du7 := du5.ex x57
      have dw7 := dw5.ex x57
      have el := elt_of hit
      have hk4 := dw.kidLen (i := 4) el.tup (kid_lt el.len (by omega)) el.kids4.1
      have k4 : ∀ {σ2 : L2.St} {H2 : Hp}, σ2[6]? = some (some o') → Den (Bd pl pw pt) H2 o' o → EvD (Bd pl pw pt) (tOp (rIxT K) (tVar 6) (tC (.int 4))) σ2 H2 (.tuple (kids (kid o 4))) := fun {σ2 H2} hσ d2 => by
        have := vd_kid (K := K) (i := 4) (j := 4) (vd_var hσ d2) el.tup (kid_lt el.len (by omega))
        rw [isTup_kids el.kids4.1] at this
        exact this
      refine z_for (src_tup (k4 rfl dw7)) fun H8 x8 => ?_
      have x58 := x57.trans x8
      have hcl : (kids (kid o 4)).length ≤ 100000 := hk4
      refine ⟨fun i σ' H' => ∃ ts2 tl2 y8, σ' = [some v, some (.ref pl), some (.int ((cnt + 1 : Nat) : Int)), some (.ref pw), some (.ref pt), some u, some o', some (.str (itemS o)), y8, a9, none] ∧ Kp (Bd pl pw pt) H8 H' ∧ H' pl = some (.lst zs) ∧
        H' pw = some (.lst ((addHoles p (holesOf ((kids (kid o 4)).take i)) w t).1.map V.str)) ∧ H' pt = some (.lst ts2) ∧ Dens (Bd pl pw pt) H' ts2 tl2 ∧ Tw tl2 (addHoles p (holesOf ((kids (kid o 4)).take i)) w t).2 ∧ (addHoles p (holesOf ((kids (kid o 4)).take i)) w t).1.length ≤ cnt * 100000 + i ∧ tl2.length ≤ cnt * 100000 + i, ?_, ?_, ?_, ?_⟩
      · have h0 : addHoles p (holesOf ((kids (kid o 4)).take 0)) w t = (w, t) := by
          rw [List.take_zero]
          rfl
        exact ⟨ts, tl, a8, rfl, Kp.refl _, x58 pl _ hl5, by rw [h0]; exact x58 pw _ hw5, x58 pt _ hq5, dtl5.ex x58, by rw [h0]; exact tw, by rw [h0]; exact Nat.le_trans hwl (Nat.le_add_right _ _), Nat.le_trans htl (Nat.le_add_right _ _)⟩
      · rintro i σ' H' ⟨ts2, tl2, y8, rfl, kp8, _⟩
        exact ⟨_, (Up.refl (ok7.ex x8)).kp kp8⟩
      · rintro i e σ' H' H9 x hi ⟨ts2, tl2, y8, rfl, kp8, hl8, hw8, hq8, dt8, tw8, hn8, ht8⟩ x9 hx D1 hrt hnx1 hct hbk
        have up9 := (Up.refl (ok7.ex x8)).kp kp8
        have de : Den _ H9 x e := hx _ up9
        have ok9 := up9.ok.ex x9
        have hm : e ∈ kids (kid o 4) := List.mem_of_getElem? hi
        have hil9 : i < (kids (kid o 4)).length := (List.getElem?_eq_some_iff.mp hi).1
        have hsn := holesOf_snoc ((kids (kid o 4)).take i) e
        rw [← take_succ_of hi] at hsn
        have du9 := ((du7.ex x8).kp kp8).ex x9
        show tIfS _ _ _ D1 [some v, some (.ref pl), some (.int ((cnt + 1 : Nat) : Int)), some (.ref pw), some (.ref pt), some u, some o', some (.str (itemS o)), some x, a9, none] H9
        refine s_if (b := begins e HOL) (vt_B (vd_call (e, HOL) ok9 (va_cons (vd_var rfl de) (va_cons vd_str va_nil)) trivial)) (fun hb9 H10 x10 => ?_) (fun hb9 H10 x10 => ?_)
        · have hc := hole_child el.kids4.2 hm hb9
          have de10 := de.ex x10
          have ok10 := ok9.ex x10
          have xx := x9.trans x10
          rw [if_pos hb9] at hsn
          have hzl : (strOf (kid e 1)).length ≤ 1000 := by
            have hq := (vd_kid (K := K) (σ := [some x]) (te := tVar 0) (B := Bd pl pw pt) (H := H10) (i := 1) (j := 1) (vd_var rfl de10) hc.1 hc.2.1)
            exact isWord_len hc.2.2.2
          have kz : ∀ {H2 : Hp}, Ex H10 H2 → EvD (Bd pl pw pt) (tOp (rIxT K) (tVar 8) (tC (.int 1))) [some v, some (.ref pl), some (.int ((cnt + 1 : Nat) : Int)), some (.ref pw), some (.ref pt), some u, some o', some (.str (itemS o)), some x, a9, none] H2 (.str (strOf (kid e 1))) := fun {H2} y => by
            have := vd_kid (K := K) (i := 1) (j := 1) (vd_var (i := 8) (σ := [some v, some (.ref pl), some (.int ((cnt + 1 : Nat) : Int)), some (.ref pw), some (.ref pt), some u, some o', some (.str (itemS o)), some x, a9, none]) rfl (de10.ex y)) hc.1 hc.2.1
            rw [hc.2.2.1] at this
            exact this
          have has := addHoles_snoc p (strOf (kid e 1)) (holesOf ((kids (kid o 4)).take i)) w t
          rw [← hsn] at has
          refine z_if (b := decide (strOf (kid e 1) ∈ (addHoles p (holesOf ((kids (kid o 4)).take i)) w t).1)) (fun H11 x11 Q2 q2 => (kz x11) H11 (Ex.refl _) _ fun zv H12 x12 dzv => ?_) (fun hb11 H11 x11 => ?_) (fun hb11 H11 x11 => ?_)
          · rw [dzv.str']
            refine ⟨_, rfl, pw, _, rfl, .inl (SqL.of (((xx.trans x11).trans x12) pw _ hw8)), rfl, ?_, _, rfl, ?_⟩
            · rw [List.all_map, List.all_eq_true]
              intro b _
              rfl
            · rw [inV_str]
              exact q2 H12 x12
          · refine z_app (B := Bd pl pw pt) (l := pt) (xs := ts2) (d := faultE p HOL) ((xx.trans x11) pt _ hq8) (ev_var rfl) (vd_tup (ok10.ex x11) (va_cons (vd_var rfl (du9.ex (x10.trans x11))) (va_cons vd_str va_nil)) (by show 2 ≤ 100000; decide)) (by rw [dt8.length]; omega) fun fv H12 x12 dfv => ?_
            have x812 := (xx.trans x11).trans x12
            have kw : Kp (Bd pl pw pt) H12 (upd H12 pt (.lst (ts2 ++ [fv]))) := (Kp.refl H12).wr (.inr (.inr rfl))
            refine z_app (tw := tNext) (B := Bd pl pw pt) (l := pw) (xs := (addHoles p (holesOf ((kids (kid o 4)).take i)) w t).1.map V.str) (d := .str (strOf (kid e 1))) ?_ (ev_var rfl) ?_ (by rw [List.length_map]; omega) fun zv H13 x13 dzv => ?_
            · rw [upd_ne n3]
              exact x812 pw _ hw8
            · have := vd_kid (K := K) (i := 1) (j := 1) (vd_var (i := 8) (σ := [some v, some (.ref pl), some (.int ((cnt + 1 : Nat) : Int)), some (.ref pw), some (.ref pt), some u, some o', some (.str (itemS o)), some x, a9, none]) rfl ((de10.ex (x11.trans x12)).kp kw)) hc.1 hc.2.1
              rw [hc.2.2.1] at this
              exact this
            · show D1.nx _ _
              rw [hnx1, dzv.str']
              have kw2 : Kp (Bd pl pw pt) (upd H12 pt (.lst (ts2 ++ [fv]))) (upd H13 pw (.lst ((addHoles p (holesOf ((kids (kid o 4)).take i)) w t).1.map V.str ++ [.str (strOf (kid e 1))]))) := (Kp.of x13).wr (.inr (.inl rfl))
              have e1 : (addHoles p (holesOf ((kids (kid o 4)).take (i + 1))) w t).1 = (addHoles p (holesOf ((kids (kid o 4)).take i)) w t).1 ++ [strOf (kid e 1)] := by rw [has]
              have e2 : (addHoles p (holesOf ((kids (kid o 4)).take (i + 1))) w t).2 = (addHoles p (holesOf ((kids (kid o 4)).take i)) w t).2.orElse fun _ => some p := by
                rw [has]
                show (if _ then _ else _) = _
                rw [if_pos (of_decide_eq_true hb11)]
              refine ⟨ts2 ++ [fv], tl2 ++ [faultE p HOL], some x, rfl, ((kp8.trans (.of x812)).trans kw).trans kw2, ?_, ?_, ?_, ((((dt8.ex x812).append (.cons dfv .nil)).kp kw).kp kw2), by rw [e2]; exact tw8.put p, by rw [e1, List.length_append]; show _ + 1 ≤ _; omega, by rw [List.length_append]; show _ + 1 ≤ _; omega⟩
              · rw [upd_ne n1]
                exact x13 pl _ (by rw [upd_ne n2]; exact x812 pl _ hl8)
              · rw [upd_same, e1, List.map_append]
                rfl
              · rw [upd_ne n3.symm]
                exact x13 pt _ upd_same
          · have x811 := xx.trans x11
            refine z_app (tw := tNext) (B := Bd pl pw pt) (l := pw) (xs := (addHoles p (holesOf ((kids (kid o 4)).take i)) w t).1.map V.str) (d := .str (strOf (kid e 1))) (x811 pw _ hw8) (ev_var rfl) (kz x11) (by rw [List.length_map]; omega) fun zv H13 x13 dzv => ?_
            show D1.nx _ _
            rw [hnx1, dzv.str']
            have x813 := x811.trans x13
            have kw2 : Kp (Bd pl pw pt) H13 (upd H13 pw (.lst ((addHoles p (holesOf ((kids (kid o 4)).take i)) w t).1.map V.str ++ [.str (strOf (kid e 1))]))) := (Kp.refl H13).wr (.inr (.inl rfl))
            have e1 : (addHoles p (holesOf ((kids (kid o 4)).take (i + 1))) w t).1 = (addHoles p (holesOf ((kids (kid o 4)).take i)) w t).1 ++ [strOf (kid e 1)] := by rw [has]
            have e2 : (addHoles p (holesOf ((kids (kid o 4)).take (i + 1))) w t).2 = (addHoles p (holesOf ((kids (kid o 4)).take i)) w t).2 := by
              rw [has]
              show (if _ then _ else _) = _
              rw [if_neg (of_decide_eq_false hb11)]
            refine ⟨ts2, tl2, some x, rfl, (kp8.trans (.of x813)).trans kw2, ?_, ?_, ?_, (dt8.ex x813).kp kw2, by rw [e2]; exact tw8, by rw [e1, List.length_append]; show _ + 1 ≤ _; omega, by omega⟩
            · rw [upd_ne n1]
              exact x813 pl _ hl8
            · rw [upd_same, e1, List.map_append]
              rfl
            · rw [upd_ne n3.symm]
              exact x813 pt _ hq8
        · show D1.nx _ _
          rw [hnx1]
          rw [hb9, if_neg (by simp), List.append_nil] at hsn
          have xx := x9.trans x10
          exact ⟨ts2, tl2, some x, rfl, kp8.trans (.of xx), xx pl _ hl8, by rw [hsn]; exact xx pw _ hw8, xx pt _ hq8, dt8.ex xx, by rw [hsn]; exact tw8, by rw [hsn]; omega, by omega⟩
      · rintro σ' H' ⟨ts2, tl2, y8, rfl, kp8, hl8, hw8, hq8, dt8, tw8, hn8, ht8⟩
        rw [List.take_length] at hw8 tw8 hn8
        have up9 := (Up.refl (ok7.ex x8)).kp kp8
        have du9 := (du7.ex x8).kp kp8
        have dw9 := (dw7.ex x8).kp kp8
        have dz9 := (dz5.ex x58).kp kp8
        have hBl8 : ∀ b, Bd pl pw pt b → ∃ xs, H8 b = some (.lst xs) := fun b hb => by
          rcases hb with rfl | rfl | rfl
          · exact ⟨_, x58 _ _ hl5⟩
          · exact ⟨_, x58 _ _ hw5⟩
          · exact ⟨_, x58 _ _ hq5⟩
        have M9 : Mkd Tb H H' := (M5.ex' x58).kp kp8 hBn hBl8
        have hbl : (below p o).length ≤ 100000 := by
          unfold below
          rw [List.length_map]
          exact Nat.le_trans (inside_len _ _) hk4
        have hsl' : st.length + 1 ≤ 1 + cnt * 100000 := hsl
        refine z_asg (B := Bd pl pw pt) (d := .list ((below p o).map entD)) (vd_is (vd_lcP (σ := [some v, some (.ref pl), some (.int ((cnt + 1 : Nat) : Int)), some (.ref pw), some (.ref pt), some u, some o', some (.str (itemS o)), y8, a9, none]) (vs := [10, 8]) up9.ok (src_enumT (va_cons (k4 rfl dw9) va_nil) hcl) (fun x => begins (kid x 1) ELE) (entOf p) (by rw [enumD_len]; exact hcl) (fun d hd => enumD_pair hd) (fun _ _ => rfl) ?_ ?_) ?_) fun v9 H10 x10 d10 => ?_
        · intro B' H1 up a b hm x y dx dy
          exact vt_B (vd_call (b, ELE) up.ok (va_cons (vd_var rfl dy) (va_cons vd_str va_nil)) trivial)
        · intro B' H1 up a b hm _ x y dx dy
          have dp : Den B' H1 u (.tuple (p.map fun n => PyData.int (n : Nat))) := du9.up up
          exact vd_tup up.ok (va_cons (vd_catT (vd_var rfl dp) (vd_tup up.ok (va_cons (vd_var rfl dx) va_nil) (by show 1 ≤ 100000; decide)) up.ok (by rw [List.length_map]; show p.length + 1 ≤ 100000; omega)) (va_cons (vd_var rfl dy) va_nil)) (by show 2 ≤ 100000; decide)
        · rw [← below_ent]
          unfold elems
          rw [← enum_elems, List.map_map]
          rfl
        have ok10 := up9.ok.ex x10
        refine ⟨.ref pl, rfl, ?_⟩
        refine (vd_rev (K := K) (σ := [some v, some (.ref pl), some (.int ((cnt + 1 : Nat) : Int)), some (.ref pw), some (.ref pt), some u, some o', some (.str (itemS o)), y8, some v9, none]) (te := tVar 9) (vd_var rfl d10) ok10) H10 (Ex.refl H10) _ fun rv H11 x11 drv => ?_
        obtain ⟨rb, rs, rfl, hrb, _, rr⟩ := drv.lst'
        have xx := x10.trans x11
        have hzl : zs.length = st.length := by
          have := dz9.length
          rw [List.length_reverse, List.length_map] at this
          exact this
        have hrl : rs.length = (below p o).length := by
          have := rr.length
          rw [List.length_reverse, List.length_map] at this
          exact this
        refine ⟨pl, rb, zs, rs, rfl, rfl, xx pl _ hl8, hrb, szP (by omega), fun np hnp => ?_⟩
        show D'.nx _ _
        have xn : Ex H11 (upd H11 np (.lst (zs ++ rs))) := Ex.new hnp
        have M11 : Mkd Tb H (upd H11 np (.lst (zs ++ rs))) := (M9.ex' xx).ex' xn
        have hw11 := xx pw _ hw8
        have hq11 := xx pt _ hq8
        have mv : ∀ b o, Dat o → H11 b = some o → ¬ Bd pl pw pt b → upd H11 np (.lst (zs ++ rs)) b = some o ∧ ¬ Bd np pw pt b := fun b o _ e n => ⟨xn b o e, fun z => by
          rcases z with z | z | z
          · exact ne_of_none e hnp z
          · exact n (.inr (.inl z))
          · exact n (.inr (.inr z))⟩
        refine hnx j _ _ (Nat.lt_succ_self _) ⟨below p o ++ st, _, _, cnt + 1, zs ++ rs, ts2, tl2, np, pw, pt, some u, some o', some (.str (itemS o)), y8, some v9, rfl, M11, (M9.ex' xx).dom np hnp, hpw, hpt, (ne_of_none hw11 hnp).symm, (ne_of_none hq11 hnp).symm, n3, upd_same, xn pw _ hw11, xn pt _ hq11, ?_, (dt8.ex xx).dat mv, tw8, ?_, ?_, by omega, hf', ?_⟩
        · rw [stack_push]
          exact ((dz9.ex xx).append rr).dat mv
        · omega
        · omega
        · rw [List.length_append]
          omega
  · intro hb H2 x2
    cases st with
    | cons e st => cases hb
    | nil =>
      have hft : fault d = t.map fun p => (p, .hole) := by
        rw [hf]
        cases m <;> rfl
      have dt2 := dtl.ex x2
      show tRet _ _ _ _
      refine ⟨_, rfl, 1, rfl, pt, ts, rfl, SqL.of (x2 pt _ hq), fun r hr => q _ _ ((mk.ex' x2).ex' (Ex.new hr)) ?_⟩
      have ec : cutV ts none (some 1) = ts.take 1 := by
        unfold cutV
        have e1 : HT.sIx ts.length 0 none = 0 := rfl
        have e2 : HT.sIx ts.length ts.length (some 1) = min 1 ts.length := HT.sIx_nat _ _ 1
        rw [e1, e2, List.drop_zero, Nat.sub_zero]
        rcases Nat.lt_or_ge ts.length 1 with h | h
        · rw [Nat.min_eq_right (by omega), List.take_of_length_le (Nat.le_refl _), List.take_of_length_le (by omega)]
        · rw [Nat.min_eq_left h]
      rw [ec]
      refine (?_ : Den (Bd pl pw pt) _ _ _).noB
      show Den _ _ _ (faultD (fault d))
      rw [hft, ← tw.out]
      refine .lst (by rw [List.length_take]; omega) upd_same ((okB x2).new hr) ((dt2.take 1).ex (Ex.new hr))
end
end G
set_option maxHeartbeats 1000000
/-! an exception that a local keeps behind the except clause -/
namespace G
open PySem PySem.Spec PyProof.Rows L2 Evl
/-- the exception at a: its class, its dict -/
def ExV (cls : Value) (d : Option Addr) (a : Addr) : HO := .ext fun h => ∃ oe : Obj, h.get? a = some oe ∧ Zc cls d oe ∧ ∃ vs, oe.data = .fields vs
theorem exV_ok {P : Program} {w : World} {H : Hp} {h : Heap} {a : Addr} {cls : Value} {d : Option Addr} {oe : Obj} (e : h.get? a = some oe) (z : Zc cls d oe) (f : ∃ vs, oe.data = .fields vs) : ObjOk P w H h a (ExV cls d a) :=
  ⟨⟨oe, e, z, f⟩, ⟨oe, e⟩, fun h1 h2 ⟨o, q, r⟩ k => ⟨o, k o q, r⟩⟩
/-- e.n of such an exception -/
def tXv (C : Addr) (n : Str) (te : TE) : TE := fun σ H Q => te σ H fun x H1 => ∃ (a dd : Addr) (fs : List (Str × V)) (v : V), x = .ref a ∧ H1 a = some (ExV (.ref C) (some dd) a) ∧ H1 dd = some (.xd fs) ∧ fs.lookup n = some v ∧ Q v H1
theorem pe_xv {X : Cx} {C : Addr} {e : Expr} {te : TE} {pos : Pos} {n : Str} (T : XfC X.K C) (hno : PySem.W.findIn X.K (.ref C) n = some none) (he : PE X e te) (hb : attributeBase e n X.env (eval e X.env) = eval e X.env := by rfl) : PE X (.Attribute e n pos) (tXv C n te) := by
  refine ⟨fun pins s σ H Q I h => attr_of hb (thn (he.run pins s σ H _ I h) fun u s1 hh => ?_)⟩
  obtain ⟨x, H1, I1, rx, a, dd, fs, v, rfl, ea, ed, l, q⟩ := hh
  obtain rfl : u = Value.ref a := rx
  obtain ⟨⟨oe, ha, hz, vs, hd⟩, _, _⟩ := I1.hok a _ ea
  obtain ⟨mA, hns, hr⟩ : ObjOk X.prog X.w H1 s1.heap dd (.xd fs) := I1.hok dd _ ed
  obtain ⟨od, ho, hl⟩ := lookIn_ns hns
  obtain ⟨y, hy, ry⟩ := RelO.some_of (v := v) (o := mA n) (by rw [← l]; exact hr n)
  have at_ : PySem.W.InstAt s1.heap a oe C (some od) := ⟨ha, hz.1, by unfold PySem.W.notCls; rw [hd] <;> rfl, by rw [hz.2]; exact ho⟩
  exact HandSPX.exc_get I1.kIn at_ T.ga T.gg T.exC (PySem.W.findObj_own T.hdC hno rfl (by rw [hl, hy])) (handed_of ry) ⟨v, H1, I1.tok _, ry, q⟩
end G
set_option maxHeartbeats 1000000
/-! isinstance of a kept exception -/
namespace G
open PySem PySem.Spec PyProof.Rows L2 Evl
section
open PySem.W
variable {prog : Program} {w : World} {A : Around} {E : Value → Shared → Prop} {s : Shared} {K : Frag} {x D : Addr} {ox : Obj} {od : Obj}
/-- e.__class__, e an instance of an own exception class, with its dict -/
theorem exc_class {Q : Option Value → Shared → Prop} (C : ExcC K D) (X : K.In s.heap) (I : InstAt s.heap x ox D (some od)) (h : Q (some (.ref D)) { s with toks := s.toks + 1 }) : wpAny (model prog w) A (getAttr? (.ref x) "__class__") Q E s := by
  have fd : findObj K D (some od) "__class__" = some (.bind (.builtin "getset_descriptor.__get__") (.builtin "object.__class__")) := findObj_data (by obtain ⟨cd, hc, _⟩ := any_some C.hd; show (clsIn K D).isSome = true; rw [hc]; rfl) C.ha C.hn C.ht
  obtain ⟨hp, g, d, t, os⟩ := s
  have T0 := I.type (M := model prog w)
  have T1 := looks_findIn (M := model prog w) X C.hg
  have T2 := looks_findIn (M := model prog w) X C.hk
  have T3 := looks_find (M := model prog w) X I fd
  have isB : Looks (model prog w) hp (isInstance (.ref x) (.type "BaseException")) true := T0.andThen (looks_subIn X C.hs)
  have n0 : (false && onTheHeap (Value.builtin "BaseException.__getattribute__")) = false := rfl
  have n1 : (onTheHeap (Value.ref D) && Value.builtin "BaseException.__getattribute__" == Value.builtin "object.__getattribute__") = false := by
    rw [show (Value.builtin "BaseException.__getattribute__" == Value.builtin "object.__getattribute__") = false by decide +kernel]
    rfl
  unfold getAttr? getAttrBy? getAttrBy
  refine wpAny_bind (wpAny_mkText (wpAny_bind (wpAny_attempt (wpAny_holding (wpAny_bind (T0.at (wpAny_bind (T1.at ?_))))))))
  show wpAny _ _ (if (onTheHeap (Value.ref D) && Value.builtin "BaseException.__getattribute__" == Value.builtin "object.__getattribute__") = true then _ else _) _ _ _
  rw [n1, if_neg Bool.false_ne_true]
  unfold getAttrByItsOwn hookBefore
  refine wpAny_bind ?_
  rw [if_pos (show onTheHeap (Value.ref D) = true from rfl)]
  refine T2.at (wpAny_bind (wpAny_attempt (wpAny_holding ?_)))
  unfold callGetattribute
  rw [n0, if_neg Bool.false_ne_true]
  unfold boundAndCalled
  rw [PySem.F.excAttr_ValueError.ga.bind (.ref x)]
  refine wpAny_bind (wpAny_pure ?_)
  show wpAny _ _ (call (.builtin "BaseException.__getattribute__") [.ref x, .str "__class__" t]) _ _ _
  refine wpAny_call (codeAny_call_builtin PySem.F.excAttr_ValueError.ga.plain PySem.F.entry_bexc_ga ?_)
  refine @check_slot (model prog w) _ _ ⟨hp, g, d, t + 1, os⟩ "BaseException.__getattribute__" "BaseException" "__getattribute__" (.ref x) [.str "__class__" t] [] _ (by decide +kernel) (by decide +kernel) isB (PySem.F.args_bexc_ga (.ref x) (.str "__class__" t)) ?_
  unfold Builtin.«object.__getattribute__»
  refine wpAny_bind (wpAny_of_eq (a := ((Value.ref x : Value), [Value.str "__class__" t])) (by first | rfl | (simp only [slotArgs]; rfl)) ?_)
  refine wpAny_bind (wpAny_pure (wpAny_bind (T0.at (wpAny_bind (T3.at ?_)))))
  show wpAny _ _ (holding [Value.builtin "object.__class__"] (call (.builtin "getset_descriptor.__get__") [.builtin "object.__class__", .ref x, .ref D]) >>= ret) _ _ _
  refine wpAny_bind (wpAny_holding (wpAny_call (class_get (s := ⟨hp, g, d, t + 1, os⟩) (ox := ox) (od := some od) X I C.hm ?_)))
  refine wpAny_pure ?_
  show wpAny _ _ (handedOut (.ref D)) _ _ _
  rw [handedOut_of (v := .ref D) rfl]
  first
    | exact wpAny_pure (wpAny_pure h)
    | exact wpAny_pure h
    | exact wpAny_pure (wpAny_bind (wpAny_pure (wpAny_pure h)))
theorem kitx_exc {K : Frag} {x D : Addr} {ox : Obj} {od : Obj} (C : ExcC K D) : KitX K (.ref x) (.ref D) (fun h => InstAt h x ox D (some od)) := by
  obtain ⟨cd, hc, _⟩ := any_some C.hd
  unfold clsIn at hc
  split at hc
  · rename_i c' d' cd' sl' ho
    refine ⟨fun _ _ _ I => I.type, fun _ _ X _ A' Q' E' s' k q => ?_, fun h tp dd its n sl X htp => ?_, fun X I k => exc_class C X I k⟩
    · unfold isType loadHead
      exact wpAny_bind (wpAny_loadPart (k _ _ (X _ _ ho)) (wpAny_pure q))
    · refine Bool.eq_false_iff.mpr fun q => ?_
      obtain rfl : D = tp := Value.ref.inj (beq_iff_eq.mp q)
      have z := (X _ _ ho).symm.trans htp
      cases z
  · cases hc
end
/-- the exception at a stands, of the class at D, with its dict -/
def ExAt (H : Hp) (D a : Addr) : Prop := ∃ (dd : Addr) (fs : List (Str × V)), H a = some (ExV (.ref D) (some dd) a) ∧ H dd = some (.xd fs)
/-- isinstance(e, c); isinstance(e, (c1, ..)) -/
def rIsV (K : PySem.W.Frag) : List V → Hp → VK → Prop := fun xs H Q => ∃ (D a : Addr) (c : V) (u : Value) (b : Bool), xs = [.ref a, c] ∧ ExAt H D a ∧ ExcC K D ∧ ClsV c u ∧ PySem.W.kitOne K (.ref D) u = some b ∧ Q (.bl b) H
def rIsVT (K : PySem.W.Frag) : List V → Hp → VK → Prop := fun xs H Q => ∃ (D a tp : Addr) (cs : List V) (us : List Value) (b : Bool), xs = [.ref a, .ref tp] ∧ ExAt H D a ∧ ExcC K D ∧ H tp = some (.tup cs) ∧ Paired ClsV cs us ∧ PySem.W.kitAny K (.ref D) us = some b ∧ Q (.bl b) H
section
variable {X : Cx}
theorem exAt_inst {pins : List (Addr × Obj)} {σ : L2.St} {H : Hp} {s : Shared} {D a : Addr} (I : Inv X pins σ H s) (h : ExAt H D a) : ∃ ox od, PySem.W.InstAt s.heap a ox D (some od) := by
  obtain ⟨dd, fs, ea, ed⟩ := h
  obtain ⟨⟨oe, ha, hz, vs, hd⟩, _, _⟩ := I.hok a _ ea
  obtain ⟨mA, hns, hr⟩ : ObjOk X.prog X.w H s.heap dd (.xd fs) := I.hok dd _ ed
  obtain ⟨od, ho, hl⟩ := lookIn_ns hns
  exact ⟨oe, od, ha, hz.1, by unfold PySem.W.notCls; rw [hd] <;> rfl, by rw [hz.2]; exact ho⟩
theorem call_isV : CallR X (.builtin "isinstance") (rIsV X.K) := by
  intro pins s σ H xs us Q I r h
  obtain ⟨D, a, c, u, b, rfl, hx, C, k, e, q⟩ := h
  obtain ⟨u1, u2, rfl, r1, r2⟩ := vals2 r
  cases (show u1 = Value.ref a from r1)
  obtain rfl := k.eq r2
  obtain ⟨ox, od, J⟩ := exAt_inst I hx
  exact PySem.W.kia_one (kitx_exc C) I.kIn J e (fun z => nomatch z) fun tk => ⟨.bl b, H, I.tok tk, rfl, q⟩
theorem call_isVT : CallR X (.builtin "isinstance") (rIsVT X.K) := by
  intro pins s σ H xs us Q I r h
  obtain ⟨D, a, tp, cs, ws, b, rfl, hx, C, hT, k, e, q⟩ := h
  obtain ⟨u1, u2, rfl, r1, r2⟩ := vals2 r
  cases (show u1 = Value.ref a from r1)
  cases (show u2 = Value.ref tp from r2)
  obtain ⟨ox, od, J⟩ := exAt_inst I hx
  obtain ⟨_, its, rv, o, h1, h2, n, h3⟩ := (show ObjOk X.prog X.w H s.heap tp (.tup cs) from I.hok tp _ hT)
  have e3 := ClsV.all k rv
  subst e3
  obtain ⟨oc, od', dt, sl⟩ := o
  simp only at h2 h3
  subst h2 h3
  exact PySem.W.kia_tup (kitx_exc C) I.kIn J h1 e (fun z => nomatch z) fun tk => ⟨.bl b, H, I.tok tk, rfl, q⟩
end
end G
set_option maxHeartbeats 1000000
/-! try: .. except x as n: .. , the exception kept behind it -/
namespace G
open PySem PySem.Spec PyProof.Rows L2 Evl
/-- what is wished of an exception of the body -/
def wKeep (K : PySem.W.Frag) (c : Value) (i : Nat) (ts : Addr → Value → Option Addr → TS) (Wout : WX) (D : Ends) : WX := fun cls d σ H =>
  ∃ b, PySem.W.exmOne K cls c = some b ∧ (b = true → ∀ a, H a = none → ts a cls d { nx := fun σ' H' => D.nx (σ'.set i none) (upd H' a (ExV cls d a)), rt := fun _ _ => False, bk := fun _ _ => False, ct := fun _ _ => False } (σ.set i (some (.ref a))) H) ∧ (b = false → Wout cls d σ H)
section
variable {X : Cx} {pins : List (Addr × Obj)} {σ : L2.St} {H : Hp} {s : Shared}
/-- a thing that is new since the entry is tracked from now on -/
theorem inv_trk {a : Addr} {o : HO} (I : Inv X pins σ H s) (n0 : X.s_0.heap.get? a = none) (na : H a = none) (nL : X.env.locals ≠ a) (nC : ∀ x c, X.env.cells.lookup x = some c → c ≠ a) (nP : ∀ p ∈ X.pn ++ pins, p.1 ≠ a) (new : ObjOk X.prog X.w (upd H a o) s.heap a o) : Inv X pins σ (upd H a o) s := by
  have old : ∀ b u, H b = some u → upd H a o b = some u := fun b u e => by rw [upd_ne (ne_of_none e na)]; exact e
  refine ⟨I.ok, I.os, I.bare, ⟨I.base.keep, I.base.slot, fun b u q n x => ?_, I.base.there, fun b xs q => old _ _ (I.base.tups b xs q), fun b u v q => old _ _ (I.base.frzs b u v q), fun b ps q => ?_⟩, I.loc, I.cell, ?_, fun x c e => ?_, fun p hp => ?_, ?_, I.len⟩
  · rw [upd_ne fun z => by rw [z, n0] at q; cases q]
    exact I.base.free b u q n x
  · obtain ⟨more, e⟩ := I.base.tbls b ps q
    exact ⟨more, old _ _ e⟩
  · rw [upd_ne nL]
    exact I.free
  · rw [upd_ne (nC x c e)]
    exact I.freeC x c e
  · obtain ⟨h1, h2, h3⟩ := I.pin p hp
    exact ⟨h1, by rw [upd_ne (nP p hp)]; exact h2, h3⟩
  · exact HOk.laidN I.hok (fun _ _ e => e) na new
end
section
variable {X : Cx} {x n : Str} {c : Value} {i : Nat} {body suite : List Stmt} {b₀ : Stmt} {np pos pos' : Pos} {tb : WX → TS} {ts : Addr → Value → Option Addr → TS} {Wout : WX}
theorem ps_try_keep (hex : X.ex = []) (hs : X.stack = X.env :: X.outer) (hf : X.env.frame = some X.env.locals) (hN : X.N.Nodup) (hi : X.N[i]? = some n) (hln : X.env.kindOf n = some .local) (hc : Names X x c) (tk : Takes X Wout)
    (hb : ∀ (W : WX) (pn : List (Addr × Obj)) (xe : Value → Shared → Prop), Takes (X.tr pn xe) W → PassesOwn (model X.prog X.w) X.A X.env xe → PSs (X.tr pn xe) body (tb W))
    (hsu : ∀ (a : Addr) (oe : Obj) (cls : Value) (d : Option Addr) (pn : List (Addr × Obj)), Zc cls d oe → (∃ vs, oe.data = .fields vs) → PSs (X.suite a ((a, oe) :: pn)) (b₀ :: suite) (ts a cls d)) :
    PS X (.Try body [.ExceptHandler (some (.Name x np)) (some n) (b₀ :: suite) pos'] [] [] pos) (fun D σ H => tb (wKeep X.K c i ts Wout D) D σ H) := by
  refine ⟨fun pins s σ H D I h => ?_⟩
  have ok := I.ok
  have fr0 : X.A.frames = some (X.env :: X.outer) := by rw [ok.frames, hs]
  refine wpAny_Try_except ?_
  refine wpAny_mono ((hb (wKeep X.K c i ts Wout D) (X.pn ++ pins) (fun e s₁ => wpAny (model X.prog X.w) X.A (noteFrame e X.env) (fun _ s₂ => wpAny (model X.prog X.w) X.A (setFlight e none) (fun _ s₃ =>
    wpAny (model X.prog X.w) X.A (handleBy e X.env [.ExceptHandler (some (.Name x np)) (some n) (b₀ :: suite) pos']) (SP X pins D) X.xe s₃) X.xe s₂) X.xe s₁) (fun u s' xx => ?_) PassesOwn.looking).run [] s σ H D (I.toTry _) h) (fun f s1 hsp => ?_) (fun e s1 he => he)
  · obtain ⟨a, B, sI, pins', σ', H', cls, d, rfl, J', nb, up, sky, na, os, ag, b, hb1, hyes, hno⟩ := xx
    have J : Inv X pins σ' H' sI := J'.ofTry ok
    have sky2 : Sky B (X.env :: X.outer) a (Zc cls d) X.env.locals s'.heap := by rw [← hs]; exact sky
    show wpAny (model X.prog X.w) X.A (noteFrame (.ref a) X.env) _ _ _
    refine Sky.land Zc.steady fr0 hf sky2 fun h3 fl3 up3 => ?_
    have J3 : Inv X pins σ' H' { s' with heap := h3 } := J.landed nb fl3.1 (up.trans up3) os ag
    obtain ⟨oe3, vs3, he3, hz3, hd3⟩ := fl3.there
    have nfr : a ∉ frs (X.env :: X.outer) := fun hm => by
      obtain ⟨_, o', e', hnf⟩ := fl3.2.2.1.mem hm
      rw [he3] at e'
      cases e'
      exact hnf _ hd3
    have nL : a ≠ X.env.locals := fun z => nfr (List.mem_filterMap.mpr ⟨X.env, List.mem_cons_self, by rw [hf, z]⟩)
    have nF : a ∉ X.fs := fun hm => by
      obtain ⟨e, he, q⟩ := List.mem_filterMap.mp hm
      exact nfr (List.mem_filterMap.mpr ⟨e, List.mem_cons_of_mem _ he, q⟩)
    -- it is new
    have nI : sI.heap.get? a = none := by
      cases q : sI.heap.get? a with
      | none => rfl
      | some o =>
        have := nb a o q (by rw [hs]; exact nfr)
        rw [fl3.2.1] at this
        cases this
    have n0 : X.s_0.heap.get? a = none := by
      cases q : X.s_0.heap.get? a with
      | none => rfl
      | some o =>
        obtain ⟨o', e⟩ := J.base.there a o q (by rw [hex]; simp)
        rw [nI] at e
        cases e
    have nC : ∀ x c, X.env.cells.lookup x = some c → c ≠ a := fun x c e z => by
      obtain ⟨v, o, ho, _⟩ := J.cell x c e
      rw [z, nI] at ho
      cases ho
    have nP : ∀ p ∈ X.pn ++ pins, p.1 ≠ a := fun p hp z => by
      have := (J.pin p hp).1
      rw [z, nI] at this
      cases this
    have S3 := J3.suite he3 hd3 na nL nF
    refine wpAny_handleBy_cons (codeAny_handlers_test ?_) (by intro q; cases q)
    have LT : PySem.W.Looks (model X.prog X.w) h3 (typeOf (.ref a)) cls := fun A Q E s k q => wpAny_typeOf_ref (k _ _ he3) (by rw [hz3.1]; exact q)
    have LM := PySem.W.exm_one (M := model X.prog X.w) (J3.kIn) LT hb1
    have test : ∀ {Q : Value → Shared → Prop} {E : Value → Shared → Prop}, Q c { s' with heap := h3 } → wpAny (model X.prog X.w) (X.A.mark (some (.ref a))) (eval (.Name x np) X.env) Q E { s' with heap := h3 } := fun {Q E} q => by
      obtain ⟨hg, hdbg, hm | ⟨hm, hv, hnn⟩⟩ := hc
      · exact ld_glob (X := X.suite a ((a, oe3) :: (X.pn ++ pins))) S3 hg hm q hdbg
      · exact ld_blt (X := X.suite a ((a, oe3) :: (X.pn ++ pins))) S3 hg hm hv q hnn hdbg
    refine test (LM.here ?_)
    cases b with
    | true =>
      refine codeAny_handlers_suite_as ?_
      refine HandSPX.lands_againZ fl3 fun h4 fl4 up4 => ?_
      have J4 : Inv X pins σ' H' { s' with heap := h4 } := J.landed nb fl4.1 ((up.trans up3).trans up4) os ag
      obtain ⟨oe4, vs4, he4, hz4, hd4⟩ := fl4.there
      have S4 := J4.suite he4 hd4 na nL nF
      refine store_ok (X := X.suite a ((a, oe4) :: (X.pn ++ pins))) (v := .ref a) S4 hN hi (.inl hln) rfl (fun s5 S5 => ?_) (.inr hln)
      refine wpAny_mono ((hsu a oe4 cls d (X.pn ++ pins) hz4 ⟨_, hd4⟩).run [] s5 _ H' _ S5 (hyes rfl a na)) (fun f s6 hsp => ?_) (fun _ _ z => False.elim z)
      cases f with
      | next =>
        obtain ⟨σ6, H6, S6, q6⟩ := hsp
        refine gone_ok (X := X.suite a ((a, oe4) :: (X.pn ++ pins))) S6 hN hi hln fun s7 S7 => ?_
        obtain ⟨g7, n7, _⟩ := S7.pin (a, oe4) (List.mem_append_left _ List.mem_cons_self)
        exact ⟨_, _, inv_trk (S7.unsuite ok) n0 n7 (Ne.symm nL) nC nP (exV_ok g7 hz4 ⟨_, hd4⟩), q6⟩
      | brk =>
        obtain ⟨σ6, H6, S6, q6⟩ := hsp
        exact False.elim q6
      | cont =>
        obtain ⟨σ6, H6, S6, q6⟩ := hsp
        exact False.elim q6
      | ret u =>
        obtain ⟨v6, σ6, H6, S6, r6, q6⟩ := hsp
        exact False.elim q6
    | false =>
      show wpAny _ X.A (handleBy (.ref a) X.env []) _ _ _
      refine wpAny_handleBy_nil ?_
      obtain ⟨k1, k2, k3, oe, vs, T, oT, ts', he, hz, hd, h1, hr⟩ := id fl3
      unfold PySem.passOn
      refine wpAny_bind (wpAny_field he hd h1 ?_)
      rw [if_neg (show ¬ ((Value.ref T == Value.none) = true) from by simp)]
      have fin : wpAny (model X.prog X.w) X.A (setFlight (.ref a) X.env.frame) (fun _ s4 => wpAny (model X.prog X.w) X.A (throw (.ref a) : Sem Flow) (SP X pins D) X.xe s4) X.xe { s' with heap := h3 } := by
        rw [hf]
        refine HandSPX.setFlight_upZ fl3 fun h4 hh4 up4 => wpAny_throw (tk _ _ ?_)
        exact ⟨a, B, sI, pins, σ', H', cls, d, rfl, J, nb, (up.trans up3).trans up4, .inr (.inr (by rw [hs]; exact hh4)), na, os, ag, hno rfl⟩
      first
        | exact wpAny_bind (wpAny_pure (wpAny_bind fin))
        | exact wpAny_bind fin
  · cases f with
    | next =>
      obtain ⟨σ', H', J', q⟩ := hsp
      exact wpAny_execs_nil ⟨σ', H', J'.ofTry ok, q⟩
    | brk =>
      obtain ⟨σ', H', J', q⟩ := hsp
      exact ⟨σ', H', J'.ofTry ok, q⟩
    | cont =>
      obtain ⟨σ', H', J', q⟩ := hsp
      exact ⟨σ', H', J'.ofTry ok, q⟩
    | ret u =>
      obtain ⟨v, σ', H', J', r, q⟩ := hsp
      exact ⟨v, σ', H', J'.ofTry ok, r, q⟩
end
end G
set_option maxHeartbeats 1000000
/-! xs.count(e) of flat items -/
namespace G
open PySem PySem.Spec PyProof.Rows L2 Evl
def rCntF (K : PySem.W.Frag) : V → List V → Hp → VK → Prop := fun x xs H Q => ∃ (p : Addr) (ys : List V) (y : V), x = .ref p ∧ xs = [y] ∧ SqL K H p ys ∧ flatV y = true ∧ ys.all flatV = true ∧ Q (.int (ys.countP fun z => eqV z y : Nat)) H
theorem countP_eqU {x : V} : ∀ {xs : List V} {us : List Value}, Vals xs us → xs.all flatV = true → us.countP (eqU x) = xs.countP fun y => eqV y x
  | _, _, .nil, _ => rfl
  | y :: xs, u :: us, .cons r t, f => by
    rw [List.all_cons, Bool.and_eq_true] at f
    rw [List.countP_cons, List.countP_cons, eqU_of r f.1, countP_eqU t f.2]
theorem mt_countF {X : Cx} : MtR X "list.count" (rCntF X.K) := by
  intro pins s σ H x xs v us Q I rx rxs h
  obtain ⟨p, ys, y, rfl, rfl, hs, fy, fs, q⟩ := h
  cases rx
  obtain ⟨u, rfl, ru⟩ := rxs.one
  obtain ⟨its, rv, ⟨⟨cls, dd, data, sl⟩, n, ho, hc, hdn, hd⟩, hlen⟩ := I.list hs
  simp only at hc hd
  subst hc hd
  refine call_meets PySem.F.slot_list_count ⟨_, ho, rfl⟩ PySem.F.entry_list_count (PySem.F.args_list_count_2 _ _)
    (SeqAt.list_countAt p its.toArray n dd sl u (eqU y)) ⟨ho, fun z hz => (mem_eqAt ru fy rv fs z (by simpa using hz)), ?_⟩
  have ec : its.toArray.toList.countP (eqU y) = ys.countP fun z => eqV z y := countP_eqU rv fs
  refine ⟨.int (ys.countP fun z => eqV z y : Nat), H, I.tok _, ⟨s.toks, ?_⟩, q⟩
  show Value.int ((its.toArray.toList.countP (eqU y) : Nat) : Int) s.toks = _
  rw [ec]
end G
set_option maxHeartbeats 1000000
/-! _law_said -/
namespace G
open PySem PySem.Spec PyProof.Rows L2 Evl
theorem g_nm {i : Nat} {v : V} {σ : L2.St} {H : Hp} {k : L2.St → Hp → Prop} (h : k (σ.set i (some v)) H) : gName i v σ H k := h
/-- a(), told with the slots -/
def tLCA (P : Program) (w : World) (K : PySem.W.Frag) (mg : Str → Option Value) (base : Heap) (CX : CXT) (k i : Nat) (E : L2.St → XK) : TE := fun σ H Q => ∃ f tr sp, σ[i]? = some (some (V.ref f)) ∧ LamOk P w K mg base CX k f tr sp ∧ Trkd tr H ∧ sp [] H Q (E σ)
theorem pe_lcallA {X : Cx} {CX : CXT} {k i : Nat} {E : L2.St → XK} {a : Str} {p1 pos : Pos} (hr : Room k X.A) (hx : ∀ σ, PassesAt CX X σ (E σ)) (hN : X.N[i]? = some a := by rfl) (hv : Vis X.env.scope a := by first | exact Or.inl rfl | exact Or.inr (Or.inl rfl) | exact Or.inr (Or.inr rfl)) (hd : (a == ("__debug__" : Str)) = false := by decide) (hcd : (a == ("__classdict__" : Str)) = false := by decide) :
    PE X (.Call (.Name a p1) [] [] pos) (tLCA X.prog X.w X.K X.mg X.base CX k i E) := by
  refine ⟨fun pins s σ H Q I h => ?_⟩
  obtain ⟨f, tr, sp, hs, L, ht, q⟩ := h
  refine wpAny_Call_Name_kw (thn ((pe_var (pos := p1) (i := i) hN hv hd hcd).run pins s σ H (fun v H1 => v = .ref f ∧ H1 = H) I ⟨.ref f, hs, rfl, rfl⟩) fun u s1 ⟨v, H1, I1, r1, ev, eH⟩ => ?_)
  subst ev eH
  obtain rfl : u = Value.ref f := r1
  refine PySem.W.callWith_F0 (L.fn _ _ _ _ I1.env0 ht) ?_
  refine wpAny_call (codeAny_mono (L.run X.A X.stack s1 H1 [] [] Q (E σ) hr I1.env0 ht .nil q) fun r s' hq => ?_)
  cases r with
  | error e => exact hx σ pins H1 s1 e s' I1 hq
  | ok fl =>
    cases fl with
    | ret u => exact I1.after hq
    | next => exact False.elim hq
    | brk => exact False.elim hq
    | cont => exact False.elim hq
/-- the error classes, as isinstance and except ask for them -/
structure ErrX (K : PySem.W.Frag) (mg : Str → Option Value) (C gb c1 c2 c3 c4 c6 c7 : Addr) : Prop where
  gG : mg "GraftError" = some (.ref gb)
  g1 : mg "BadSurrounding" = some (.ref c1)
  g2 : mg "BadFilling" = some (.ref c2)
  g3 : mg "TooMany" = some (.ref c3)
  g4 : mg "BadQuestion" = some (.ref c4)
  g5 : mg "BadPart" = some (.ref C)
  g6 : mg "BadText" = some (.ref c6)
  g7 : mg "BadPath" = some (.ref c7)
  ex : PySem.W.exmOne K (.ref C) (.ref gb) = some true
  ka : PySem.W.kitAny K (.ref C) [.ref c1, .ref c2, .ref c3, .ref c4] = some false
  k5 : PySem.W.kitOne K (.ref C) (.ref C) = some true
  k6 : PySem.W.kitOne K (.ref C) (.ref c6) = some false
  k7 : PySem.W.kitOne K (.ref C) (.ref c7) = some false
  eC : ExcC K C
  xC : XfC K C
section
variable {P : Program} {w : World} {K : PySem.W.Frag} {mg : Str → Option Value} {base : Heap} {C gb fI c1 c2 c3 c4 c6 c7 : Addr} {fd : FuncData}
theorem e_C {X : Cx} {x : Str} {p : Pos} {c : Addr} (h : X.mg x = some (.ref c)) (g1 : Gl X x := by rfl) (hd : (x == ("__debug__" : Str)) = false := by decide) : PE X (.Name x p) (tC (.ref c)) := pe_glob (v := V.ref c) g1 h rfl hd
/-- what is handed: a lambda; R: what it may return, Rb: the path and the item of the BadPart that it may raise -/
def spSaid (P : Program) (w : World) (K : PySem.W.Frag) (mg : Str → Option Value) (base : Heap) (k : Nat) (C : Addr) : Sp := fun vs H Q _ => ∃ (f : Addr) (tr : Trk) (sp : Sp) (R : Hp → V → Hp → Prop) (Rb : V → V → Hp → Prop), vs = [.ref f] ∧ LamOk P w K mg base (L2.CX P w) k f tr sp ∧ Trkd tr H ∧
  (∀ H1, Ex H H1 → ∀ (Q' : VK) (E' : XK), (∀ v H2, Ex H1 H2 → R H1 v H2 → Q' v H2) → (∀ dd fs vp vi H2, Ex H1 H2 → H2 dd = some (.xd fs) → fs.lookup (Str.ofString "path") = some vp → fs.lookup (Str.ofString "item") = some vi → Rb vp vi H2 → E' (.ref C) (some dd) H2) → sp [] H1 Q' E') ∧
  (∀ H1 v H2 l H3, Ex H H1 → H1 l = some (.lst []) → Ex H1 H2 → R H1 v H2 → H3 l = some (.lst [v]) → (∀ b o, b ≠ l → H2 b = some o → H3 b = some o) → H l = none → Q (.ref l) H3) ∧
  (∀ vp vi H2 t H3, Ex H H2 → Rb vp vi H2 → Ex H2 H3 → H3 t = some (.tup [.str "part", vp, vi]) → Q (.ref t) H3)
theorem l_said (k : Nat) (T : Txt K mg) (EX : ErrX K mg C gb c1 c2 c3 c4 c6 c7) (BX : BadX K mg C gb fI fd) (hPl : PySem.W.findIn K (.ref C) "place" = some none) : Cal P w K mg base CX0 (k + 1) "_law_said" (spSaid P w K mg base k C) := by
  refine cal_of (k := k) T.f_law_said sc_law_said (fun vs H Q E h => by obtain ⟨f, tr, sp, R, Rb, rfl, _⟩ := h; rfl) ?_
  rintro f0 cdv A outer s H vs Q E hr ⟨f, tr, sp, R, Rb, rfl, L, ht, run, q1, q2⟩
  refine ⟨_, pss_cons (ps_par (i := 1) (j := 2) (by rfl) sc_law_said.nd rfl rfl (by decide) rfl rfl (pa_cons (pe_lst pa_nil) (pa_cons pe_non pa_nil)) (by rfl))
    (pss_cons (ps_try_keep (c := .ref gb) (Wout := fun _ _ _ _ => False) rfl rfl rfl sc_law_said.nd (i := 3) rfl rfl ⟨rfl, by decide, .inl EX.gG⟩ LamX.takes0
      (tb := fun W => tDrop (tBM K "list" rAppend (tVar 1) (tCons (tLCA P w K mg base (L2.CX P w) k 0 (WE W)) tNil)))
      (fun W pn xe tk _ => pss_one (ps_expr (e_app (pv 1) (pe_lcallA hr fun σ => passAt tk σ))))
      (ts := fun a cls d => tAsg (tVar 3) (gName 2))
      (fun a oe cls d pn _ _ => pss_one (ps_set (i := 2) sc_law_said.nd rfl (Or.inl rfl) (pv 3))))
    (pss_cons (ps_if (pt_cmpR op_isN (pv 2) pe_non (nomark _)) (pss_one (ps_ret (pv 1))) pss_nil)
    (pss_cons (ps_if (pt_val (pe_callB call_isVT (by rfl) T.b_isinstance (by decide +kernel) (pa_cons (pv 2) (pa_cons (pe_tup (pa_cons (e_C EX.g1) (pa_cons (e_C EX.g2) (pa_cons (e_C EX.g3) (pa_cons (e_C EX.g4) pa_nil))))) pa_nil)))) (pss_one (ps_ret pe_str)) pss_nil)
    (pss_cons (ps_set (i := 4) sc_law_said.nd rfl (Or.inl rfl) (pe_lst (pa_cons (pe_callB call_isV (by rfl) T.b_isinstance (by decide +kernel) (pa_cons (pv 2) (pa_cons (e_C EX.g5) pa_nil))) (pa_cons (pe_callB call_isV (by rfl) T.b_isinstance (by decide +kernel) (pa_cons (pv 2) (pa_cons (e_C EX.g6) pa_nil))) (pa_cons (pe_callB call_isV (by rfl) T.b_isinstance (by decide +kernel) (pa_cons (pv 2) (pa_cons (e_C EX.g7) pa_nil))) pa_nil)))))
    (pss_cons (ps_if (pt_cmpR op_ne (pe_bm PySem.F.plainAttrs_list PySem.F.slot_list_count PySem.F.type_list_count mt_countF (pv 4) (pa_cons pe_bl pa_nil)) pe_int (nomark _)) (pss_one (ps_ret pe_str)) pss_nil)
    (pss_cons (ps_if (pt_val (pe_callB call_isV (by rfl) T.b_isinstance (by decide +kernel) (pa_cons (pv 2) (pa_cons (e_C EX.g5) pa_nil)))) (pss_one (ps_ret (pe_tup (pa_cons pe_str (pa_cons (pe_xv EX.xC BX.nP (pv 2)) (pa_cons (pe_xv EX.xC BX.nI (pv 2)) pa_nil)))))) pss_nil)
    (pss_one (ps_ret (pe_ifExp (pt_val (pe_callB call_isV (by rfl) T.b_isinstance (by decide +kernel) (pa_cons (pv 2) (pa_cons (e_C EX.g6) pa_nil)))) (pe_tup (pa_cons pe_str (pa_cons (pe_xv EX.xC hPl (pv 2)) pa_nil))) (pe_tup (pa_cons pe_str (pa_cons (pe_xv EX.xC BX.nP (pv 2)) pa_nil)))))))))))), ?_⟩
  refine ⟨by show 0 ≤ sizeLine; decide, fun p hp => ⟨.ref p, .non, rfl, ?_⟩⟩
  have x1 : Ex H (upd H p (.lst [])) := Ex.new hp
  refine ⟨_, rfl, Or.inl ⟨rfl, [], sq_of upd_same⟩, f, tr, sp, rfl, L, ht.ex x1, run _ x1 _ _ (fun v H2 x2 hv => ?_) fun dd fs vp vi H2 x2 hd hp1 hp2 hb => ?_⟩
  · refine ⟨p, [], v, rfl, rfl, x2 p _ upd_same, by decide, ?_⟩
    show tSeq _ _ _ [some (.ref f), some (.ref p), some .non, none, none] (upd H2 p (.lst [v]))
    refine z_when (b := true) (vt_test (B := fun _ => False) (vd_op (vd_var rfl .non) vd_non rd_isN)) (fun hb H4 x4 D' hD => ?_) (fun hb => by cases hb)
    refine ⟨.ref p, rfl, ?_⟩
    rw [hD]
    exact q1 _ v H2 p H4 x1 upd_same x2 hv (x4 p _ upd_same) (fun b o n e => x4 b o (by rw [upd_ne n]; exact e)) hp
  · refine ⟨true, EX.ex, fun _ a ha => ⟨.ref a, rfl, ?_⟩, fun h => by cases h⟩
    have x12 := x1.trans x2
    have na : a ≠ p := (ne_of_none (x2 p _ upd_same) ha).symm
    have xa : Ex H2 (upd H2 a (ExV (.ref C) (some dd) a)) := Ex.new ha
    have hdn : (upd H2 a (ExV (.ref C) (some dd) a)) dd = some (.xd fs) := xa dd _ hd
    have EA : ∀ H3, Ex (upd H2 a (ExV (.ref C) (some dd) a)) H3 → ExAt H3 C a := fun H3 x => ⟨dd, fs, x a _ upd_same, x dd _ hdn⟩
    refine g_nm ?_
    dsimp only [L2.start]
    show tSeq _ _ _ [some (.ref f), some (.ref p), some (.ref a), none, none] (upd H2 a (ExV (.ref C) (some dd) a))
    refine ⟨_, rfl, rfl, _, rfl, iteF ?_⟩
    refine ⟨.ref a, rfl, by show 4 ≤ sizeLine; decide, fun tp htp => ⟨C, a, tp, _, _, false, rfl, EA _ (Ex.new htp), EX.eC, upd_same, .cons (.own c1) (.cons (.own c2) (.cons (.own c3) (.cons (.own c4) .nil))), EX.ka, _, rfl, iteF ?_⟩⟩
    have x4 : Ex (upd H2 a (ExV (.ref C) (some dd) a)) (upd (upd H2 a (ExV (.ref C) (some dd) a)) tp (.tup [.ref c1, .ref c2, .ref c3, .ref c4])) := Ex.new htp
    refine ⟨.ref a, rfl, C, a, .ref C, .ref C, true, rfl, EA _ x4, EX.eC, .own C, EX.k5, ?_⟩
    refine ⟨.ref a, rfl, C, a, .ref c6, .ref c6, false, rfl, EA _ x4, EX.eC, .own c6, EX.k6, ?_⟩
    refine ⟨.ref a, rfl, C, a, .ref c7, .ref c7, false, rfl, EA _ x4, EX.eC, .own c7, EX.k7, ?_⟩
    refine ⟨by show 3 ≤ sizeLine; decide, fun kp hkp => ?_⟩
    refine g_nm ?_
    have x5 := x4.trans (Ex.new (o := .lst [.bl true, .bl false, .bl false]) hkp)
    refine ⟨.ref kp, rfl, Or.inl ⟨rfl, _, sq_of upd_same⟩, kp, _, .bl true, rfl, rfl, SqL.of upd_same, rfl, rfl, ?_⟩
    have ec : (List.countP (fun z => eqV z (V.bl true)) [V.bl true, V.bl false, V.bl false]) = 1 := by decide
    rw [ec]
    refine ⟨rfl, false, by simp, iteF ?_⟩
    have x56 := x5
    refine ⟨.ref a, rfl, C, a, .ref C, .ref C, true, rfl, EA _ x56, EX.eC, .own C, EX.k5, _, rfl, iteT ?_⟩
    refine ⟨.ref a, rfl, a, dd, fs, vp, rfl, x56 a _ upd_same, x56 dd _ hdn, hp1, .ref a, rfl, a, dd, fs, vi, rfl, x56 a _ upd_same, x56 dd _ hdn, hp2, by show 3 ≤ sizeLine; decide, fun t ht => ?_⟩
    exact q2 vp vi H2 t _ (x1.trans x2) hb ((xa.trans x56).trans (Ex.new ht)) upd_same
end
end G
set_option maxHeartbeats 1000000
/-! rules for _law_names_in: d.update(e), dict(pairs), list(tuple), sorted(dict), c[0] -/
namespace G
open PySem PySem.Spec PyProof.Rows L2 Evl
/-- d.update(e), two dicts -/
def rDUpd : V → List V → Hp → VK → Prop := fun x xs H Q => ∃ (a b : Addr) (kvs more : List (Key × V)), x = .ref a ∧ xs = [.ref b] ∧ a ≠ b ∧ H a = some (.dK kvs) ∧ H b = some (.dK more) ∧ kvs.length + more.length ≤ sizeLine ∧ Q .non (upd H a (.dK (mergeK kvs more)))
theorem mt_dupd {X : Cx} : MtR X "dict.update" rDUpd := by
  intro pins s σ H x xs v us Q I rx rxs h
  obtain ⟨a, b, kvs, more, rfl, rfl, hne, ha, hb, hz, q⟩ := h
  cases rx
  obtain ⟨u, rfl, ru⟩ := rxs.one
  cases ru
  obtain ⟨_, hda, va, ra, da⟩ := dk_of I.hok ha
  obtain ⟨_, hdb, vb, rb, db⟩ := dk_of I.hok hb
  refine call_meetsIn PySem.F.slot_dict_update da.typeIs PySem.F.entry_dict_update (PySem.F.args_dict_update_2 _ _) (meets_dict_update (mixKind X.prog X.w) a b hne hdb) ⟨va, vb, da, db, by rw [← ra.length, ← rb.length]; exact hz, fun h' dd' _ hs => ?_⟩
  have hl2 : (mergeK kvs more).length ≤ sizeLine := Nat.le_trans (length_mergeK more kvs) hz
  have he : ∃ q, h'.get? a = some q := let ⟨q, _, _, hq, _⟩ := dd'; ⟨q, hq⟩
  exact ⟨.non, _, d_write (t' := s.toks) I (by rw [ha]; exact True.intro) hs he (dk_new hl2 hda (KV.merge rb ra) dd'), rfl, q⟩
section
variable {K : PySem.W.Frag} {B : Addr → Prop} {σ : L2.St} {H H' : Hp} {te ta tb : TE} {D : Ends} {tw : TS} {ds es : List PyData} {d e : PyData}
/-- dict(pairs), the keys texts, the values 0 -/
def rDof (K : PySem.W.Frag) : List V → Hp → VK → Prop := fun xs H Q => ∃ (a : Addr) (ps : List Addr) (kvs : List (Key × V)), xs = [.ref a] ∧ SqL K H a (ps.map V.ref) ∧ Paired (fun p kv => SqT K H p [kV kv.1, kv.2]) ps kvs ∧ ∀ p, H p = none → Q (.ref p) (upd H p (.dK (mergeK [] kvs)))
def zeroK (s : Str) : Key × V := (.inr s, .int 0)
theorem pairs_in : ∀ {xs : List V} {ss : List Str}, Dens B H xs (ss.map fun s => PyData.tuple [.str s, .int 0]) → ∃ ps : List Addr, xs = ps.map V.ref ∧ Paired (fun p kv => SqT K H p [kV kv.1, kv.2]) ps (ss.map zeroK)
  | _, [], r => by
    cases r
    exact ⟨[], rfl, .nil⟩
  | _, s :: t, r => by
    obtain ⟨v, r1, rfl, dv, rr⟩ := Dens.cons' r
    obtain ⟨ps, rfl, hp⟩ := pairs_in rr
    obtain ⟨a, ys, rfl, ha, _, ry⟩ := dv.tup'
    obtain ⟨y, z, rfl, dy, dz⟩ := ry.two'
    rw [dy.str', dz.int'] at ha
    exact ⟨a :: ps, rfl, .cons (SqT.of ha) hp⟩
theorem z_dupd {kvs : List (Key × V)} {a : Addr} {ss : List Str} (hd : H a = some (.dK kvs)) (ho : Ev ta σ H (.ref a)) (h : EvD B te σ H (.list (ss.map fun s => PyData.tuple [.str s, .int 0]))) (hz : kvs.length + ss.length ≤ 10000000)
    (k : ∀ H1, Ex H H1 → tw D σ (upd H1 a (.dK (mergeK kvs (mergeK [] (ss.map zeroK)))))) : tSeq (tDrop (tBM K "dict" rDUpd ta (tCons (tCB (rDof K) (tCons te tNil)) tNil))) tw D σ H := ho H (Ex.refl H) _ fun H1 x1 =>
  ⟨Or.inr (Or.inr (Or.inl ⟨rfl, .inl ⟨kvs, x1 a _ hd⟩⟩)), h H1 x1 _ fun v H2 x2 dv => by
    obtain ⟨l, xs, rfl, hl, _, r⟩ := dv.lst'
    obtain ⟨ps, rfl, hp⟩ := pairs_in (K := K) r
    refine ⟨l, ps, _, rfl, SqL.of hl, hp, fun p hpn => ⟨a, p, kvs, mergeK [] (ss.map zeroK), rfl, rfl, ?_, ?_, upd_same, ?_, ?_⟩⟩
    · exact ne_of_none (x2 a _ (x1 a _ hd)) hpn
    · exact Ex.new hpn a _ (x2 a _ (x1 a _ hd))
    · have := length_mergeK (ss.map zeroK) []
      rw [List.length_map, List.length_nil] at this
      exact szP (by omega)
    · exact k _ ((x1.trans x2).trans (Ex.new hpn))⟩
/-- c[0], c a text or a tuple that begins with one -/
theorem vd_ix0S {s : Str} (h : EvD B te σ H (.str s)) (h0 : s.cps[0]? = some c) : EvD B (tOp (rIx K) te (tC (.int 0))) σ H (.str ⟨#[c]⟩) := fun H1 x Q q => h H1 x _ fun v H2 x2 dv => by
  have hl := dv.len
  rw [dv.str']
  refine .inr (.inr ⟨s, 0, c, rfl, rfl, szP (by omega), ?_, q _ H2 x2 (.str _ (by show 1 ≤ 1000; decide))⟩)
  exact atI_nat (j := 0) (by rw [Array.getElem?_toList]; exact h0)
theorem vd_ix0T (h : EvD B te σ H (.tuple (d :: ds))) : EvD B (tOp (rIx K) te (tC (.int 0))) σ H d := fun H1 x Q q => h H1 x _ fun v H2 x2 dv => by
  obtain ⟨a, xs, rfl, ha, _, r⟩ := dv.tup'
  obtain ⟨z, hz, dz⟩ := r.get (i := 0) (d := d) rfl
  exact .inr (.inl ⟨a, xs, 0, z, rfl, rfl, SqT.of ha, at_of rfl hz, q z H2 x2 dz⟩)
end
/-! ### what a dict of zeros holds -/
/-- the keys are these texts, each once -/
def DKeys (kvs : List (Key × V)) (ks : List Str) : Prop := kvs.map Prod.fst = ks.map Sum.inr ∧ ks.Nodup
theorem DKeys.nil : DKeys [] [] := ⟨rfl, List.nodup_nil⟩
theorem put_keys {κ : Type} [DecidableEq κ] (kvs : List (κ × V)) (k : κ) (v : V) : (putK kvs k v).map Prod.fst = if k ∈ kvs.map Prod.fst then kvs.map Prod.fst else kvs.map Prod.fst ++ [k] := by
  unfold putK
  by_cases a : (kvs.any fun kv => decide (kv.1 = k)) = true
  · rw [if_pos a, List.map_map]
    have e : (Prod.fst ∘ fun (kv : κ × V) => if kv.1 = k then (kv.1, v) else kv) = Prod.fst := by
      funext kv
      show (if kv.1 = k then (kv.1, v) else kv).1 = kv.1
      split <;> rfl
    have hm : k ∈ kvs.map Prod.fst := by
      rw [List.any_eq_true] at a
      obtain ⟨kv, h1, h2⟩ := a
      exact List.mem_map.mpr ⟨kv, h1, of_decide_eq_true h2⟩
    rw [e, if_pos hm]
  · rw [if_neg a, List.map_append]
    have hm : ¬ k ∈ kvs.map Prod.fst := fun z => by
      obtain ⟨kv, h1, h2⟩ := List.mem_map.mp z
      exact a (List.any_eq_true.mpr ⟨kv, h1, decide_eq_true h2⟩)
    rw [if_neg hm]
    rfl
theorem DKeys.put {kvs : List (Key × V)} {ks : List Str} (h : DKeys kvs ks) (s : Str) (v : V) : ∃ ks', DKeys (putK kvs (.inr s) v) ks' ∧ ∀ x, x ∈ ks' ↔ x = s ∨ x ∈ ks := by
  have hm : (Sum.inr s : Key) ∈ kvs.map Prod.fst ↔ s ∈ ks := by
    rw [h.1, List.mem_map]
    constructor
    · rintro ⟨x, hx, e⟩
      cases e
      exact hx
    · intro hs
      exact ⟨s, hs, rfl⟩
  by_cases hs : s ∈ ks
  · refine ⟨ks, ⟨?_, h.2⟩, fun x => ⟨.inr, fun z => z.elim (fun e => e ▸ hs) id⟩⟩
    rw [put_keys, if_pos (hm.mpr hs)]
    exact h.1
  · refine ⟨ks ++ [s], ⟨?_, ?_⟩, fun x => ?_⟩
    · rw [put_keys, if_neg fun z => hs (hm.mp z), h.1, List.map_append]
      rfl
    · rw [List.nodup_append]
      refine ⟨h.2, by simp, ?_⟩
      intro a ha b hb e
      simp at hb
      subst hb
      subst e
      exact hs ha
    · rw [List.mem_append, List.mem_singleton]
      exact Or.comm
theorem DKeys.merge : ∀ (ps : List (Key × V)) {kvs : List (Key × V)} {ks ms : List Str}, DKeys kvs ks → ps.map Prod.fst = ms.map Sum.inr → ∃ ks', DKeys (mergeK kvs ps) ks' ∧ ∀ x, x ∈ ks' ↔ x ∈ ks ∨ x ∈ ms
  | [], kvs, ks, ms, h, e => by
    cases ms with
    | nil => exact ⟨ks, h, fun x => by simp⟩
    | cons a r => cases e
  | p :: r, kvs, ks, ms, h, e => by
    cases ms with
    | nil => cases e
    | cons m t =>
      rw [List.map_cons, List.map_cons, List.cons.injEq] at e
      obtain ⟨ks1, h1, h2⟩ := h.put m p.2
      obtain ⟨ks2, h3, h4⟩ := DKeys.merge r h1 e.2
      refine ⟨ks2, ?_, fun x => ?_⟩
      · have e0 : mergeK kvs (p :: r) = mergeK (putK kvs p.1 p.2) r := rfl
        rw [e0, e.1]
        exact h3
      · rw [h4, h2, List.mem_cons]
        constructor
        · rintro ((h | h) | h)
          · exact .inr (.inl h)
          · exact .inl h
          · exact .inr (.inr h)
        · rintro (h | h | h)
          · exact .inl (.inr h)
          · exact .inl (.inl h)
          · exact .inr h
theorem DKeys.add {kvs : List (Key × V)} {ks : List Str} (h : DKeys kvs ks) (ss : List Str) : ∃ ks', DKeys (mergeK kvs (mergeK [] (ss.map zeroK))) ks' ∧ ∀ x, x ∈ ks' ↔ x ∈ ks ∨ x ∈ ss := by
  have e : (ss.map zeroK).map Prod.fst = ss.map Sum.inr := by
    rw [List.map_map]
    rfl
  obtain ⟨k1, h1, h2⟩ := DKeys.merge (ss.map zeroK) DKeys.nil e
  obtain ⟨k2, h3, h4⟩ := DKeys.merge _ h h1.1
  exact ⟨k2, h3, fun x => by rw [h4, h2]; simp⟩
theorem DKeys.len {kvs : List (Key × V)} {ks : List Str} (h : DKeys kvs ks) : kvs.length = ks.length := by
  have := congrArg List.length h.1
  rw [List.length_map, List.length_map] at this
  exact this
/-- sorted(d) -/
def rSrtD : List V → Hp → VK → Prop := fun xs H Q => ∃ (a : Addr) (kvs : List (Key × V)) (ks : List Str), xs = [.ref a] ∧ Rd H a (.dK kvs) ∧ kvs.map (·.1) = ks.map Sum.inr ∧ ks.length < 64 ∧
    ∀ ys p, ys.Perm ks → sortedS ys = true → H p = none → Q (.ref p) (upd H p (.lst (ys.map V.str)))
theorem vd_sortedD {B : Addr → Prop} {σ : L2.St} {H : Hp} {te : TE} {a : Addr} {kvs : List (Key × V)} {ks xs : List Str} (hB : BOk B H) (h : Ev te σ H (.ref a)) (hd : H a = some (.dK kvs)) (hk : DKeys kvs ks) (hx : ∀ x, x ∈ ks ↔ x ∈ xs) (hs : ∀ x ∈ xs, x.length ≤ 1000) (hD : Few xs) : EvD B (tCB rSrtD (tCons te tNil)) σ H (.list ((srt xs).map .str)) := fun H1 x Q q => h H1 x _ fun H2 x2 => by
  obtain ⟨D, hl, hm⟩ := hD
  have hlen := nodup_len hk.2 fun y hy => hm y ((hx y).mp hy)
  refine ⟨a, kvs, ks, rfl, .inl ((x.trans x2) a _ hd), hk.1, by omega, fun ys p hp hso hpn => ?_⟩
  have hy : SrtOk ys xs := ⟨hso, hp.nodup_iff.mpr hk.2, fun z => hp.mem_iff.trans (hx z)⟩
  rw [srt_eq hy] at q
  exact q _ _ (x2.trans (Ex.new hpn)) (.lst (by rw [List.length_map, hp.length_eq]; omega) upd_same ((hB.ex (x.trans x2)).new hpn) (dens_strs _ fun z hz => hs z ((hx z).mp (hp.mem_iff.mp hz))))
end G
set_option maxHeartbeats 1000000
/-! _law_names_in -/
namespace G
open PySem PySem.Spec PyProof.Rows L2 Evl
abbrev N4 (B : Addr → Prop) (pf pq pl : Addr) : Addr → Prop := Add (Add (Add B pf) pq) pl
theorem z_names0 {K : PySem.W.Frag} {B : Addr → Prop} {σ : L2.St} {H : Hp} {ta : TE} {D : Ends} {tw : TS} {ds : List PyData} (hB : BOk B H) (h : ∀ B' H', Up B H B' H' → EvN B' ta σ H' ds)
    (k : ∀ pf pw pq pl ys H1, H pf = none → H pq = none → H pl = none → pf ≠ pq → pf ≠ pl → pq ≠ pl → Ex H H1 → H1 pf = some (.dK []) → H1 pq = some (.lst []) → H1 pl = some (.lst ys) → Up B H (N4 B pf pq pl) H1 → Den (N4 B pf pq pl) H1 (.ref pw) (.list []) → Dens (N4 B pf pq pl) H1 ys ds → tw D ((((σ.set 1 (some (.ref pf))).set 2 (some (.ref pw))).set 3 (some (.ref pq))).set 4 (some (.ref pl))) H1) :
    tSeq (tAsg (tTup (tCons tDNewK (tCons (tLst tNil) (tCons (tLst tNil) (tCons ta tNil))))) (gTup K 4 (gCons (gName 1) (gCons (gName 2) (gCons (gName 3) (gCons (gName 4) gNil)))))) tw D σ H :=
  fun pf hpf => ⟨by show 0 ≤ sizeLine; decide, fun pw hpw => ⟨by show 0 ≤ sizeLine; decide, fun pq hpq => by
    have x1 : Ex H (upd H pf (.dK [])) := Ex.new hpf
    have x2 : Ex (upd H pf (.dK [])) (upd (upd H pf (.dK [])) pw (.lst [])) := Ex.new hpw
    have x3 : Ex (upd (upd H pf (.dK [])) pw (.lst [])) (upd (upd (upd H pf (.dK [])) pw (.lst [])) pq (.lst [])) := Ex.new hpq
    have u1 : Up B H (Add B pf) (upd H pf (.dK [])) := upAdd hB x1 hpf upd_same
    have u2 := u1.ex x2
    have u3 : Up (Add B pf) (upd (upd H pf (.dK [])) pw (.lst [])) (Add (Add B pf) pq) (upd (upd (upd H pf (.dK [])) pw (.lst [])) pq (.lst [])) := upAdd u2.ok x3 hpq upd_same
    have u23 := u2.trans u3
    refine h _ _ u23 _ (Ex.refl _) _ fun pl ys H4 hpl x4 hl dy => ⟨by show 4 ≤ sizeLine; decide, fun tt htt => ⟨tt, _, rfl, SqT.of upd_same, rfl, _, _, rfl, _, _, rfl, _, _, rfl, _, _, rfl, rfl, ?_⟩⟩
    have x5 := Ex.new (o := .tup [.ref pf, .ref pw, .ref pq, .ref pl]) htt
    have u4 := upAdd u23.ok x4 hpl hl
    have u5 := (u23.trans u4).ex x5
    have hf3 : (upd (upd (upd H pf (.dK [])) pw (.lst [])) pq (.lst [])) pf = some (.dK []) := x3 pf _ (x2 pf _ upd_same)
    have hw3 : (upd (upd (upd H pf (.dK [])) pw (.lst [])) pq (.lst [])) pw = some (.lst []) := x3 pw _ upd_same
    have nfq : pf ≠ pq := ne_of_none (x2 pf _ upd_same) hpq
    have nwf : pw ≠ pf := (ne_of_none upd_same hpw).symm
    have nwq : pw ≠ pq := ne_of_none upd_same hpq
    have nB : ¬ B pw := hB.new (noneOf x1 hpw)
    have x45 := x4.trans x5
    refine k pf pw pq pl ys _ hpf (noneOf (x1.trans x2) hpq) (noneOf ((x1.trans x2).trans x3) hpl) nfq (ne_of_none hf3 hpl) (ne_of_none upd_same hpl) (((x1.trans x2).trans x3).trans x45) (x45 pf _ hf3) (x45 pq _ upd_same) (x5 pl _ hl) u5 (.lst (by show 0 ≤ 100000; decide) (x45 pw _ hw3) ?_ .nil) (dy.ex x5)
    rintro (((z | z) | z) | z)
    · exact nB z
    · exact nwf z
    · exact nwq z
    · exact ne_of_none hw3 hpl z⟩⟩
/-! ### names -/
/-- all names of an element, and its declarations -/
def namesOf (o : PyData) : List PyData := ([kid o 1] ++ (kids (kid o 3)).map (fun p => kid p 0)) ++ quotedIn o ++ kids (kid o 2)
def HeadS (n : PyData) : Prop := isTup n = true ∧ 0 < (kids n).length ∧ kid n 0 = .str (strOf (kid n 0))
theorem namesOf_str {o : PyData} (el : Elt o) {n : PyData} (h : n ∈ namesOf o) : HeadS n := by
  unfold namesOf at h
  rcases List.mem_append.mp h with h | h
  · rcases List.mem_append.mp h with h | h
    · rcases List.mem_append.mp h with h | h
      · rw [List.mem_singleton.mp h]
        exact name_str el.nm
      · obtain ⟨p, hp, rfl⟩ := List.mem_map.mp h
        exact name_str (attr_mem el hp).2.1
    · exact name_str (quoted_name el h)
  · have q := decl_mem el h
    have hp := pair_of q.1
    refine ⟨by rw [hp]; rfl, by rw [hp]; show 0 < 2; decide, pre_str q.2.1⟩
theorem prefix_len {d : PyData} (h : isPrefix d = true) : (strOf d).length ≤ 1000 := by
  unfold isPrefix isOf at h
  cases d with
  | str s =>
    simp only [Bool.and_eq_true, decide_eq_true_eq] at h
    have := h.1.2.1
    show s.length ≤ 1000
    omega
  | _ => simp at h
theorem name_pre {n : PyData} (h : isName n = true) : isPrefix (kid n 0) = true := by
  unfold isName at h
  rw [Bool.and_eq_true, Bool.and_eq_true] at h
  exact h.2.1
theorem namesOf_short {o : PyData} (el : Elt o) {n : PyData} (h : n ∈ namesOf o) : (strOf (kid n 0)).length ≤ 1000 := by
  refine prefix_len ?_
  unfold namesOf at h
  rcases List.mem_append.mp h with h | h
  · rcases List.mem_append.mp h with h | h
    · rcases List.mem_append.mp h with h | h
      · rw [List.mem_singleton.mp h]
        exact name_pre el.nm
      · obtain ⟨p, hp, rfl⟩ := List.mem_map.mp h
        exact name_pre (attr_mem el hp).2.1
    · exact name_pre (quoted_name el h)
  · exact (decl_mem el h).2.1
theorem namesOf_pre (o : PyData) (x : Str) : x ∈ (namesOf o).map (fun n => strOf (kid n 0)) ↔ x ∈ preOf o := by
  unfold namesOf preOf pre1 pre2 keyS
  simp only [List.map_append, List.map_cons, List.map_nil, List.mem_append, List.mem_cons, List.map_map, List.not_mem_nil, or_false]
  constructor
  · rintro (((h | h) | h) | h)
    · exact .inl (.inl h)
    · exact .inr (.inl h)
    · exact .inr (.inr h)
    · exact .inl (.inr h)
  · rintro ((h | h) | (h | h))
    · exact .inl (.inl (.inl h))
    · exact .inr h
    · exact .inl (.inl (.inr h))
    · exact .inl (.inr h)
theorem namesOf_len (o : PyData) : (namesOf o).length = (preOf o).length := by
  unfold namesOf preOf pre1 pre2
  simp only [List.length_append, List.length_map, List.length_cons, List.length_nil]
  omega
theorem flat_len {α β : Type} {L : List α} {f : α → List β} {e : α} (h : e ∈ L) : (f e).length ≤ (L.flatMap f).length := by
  induction L with
  | nil => cases h
  | cons a r ih =>
    rw [List.flatMap_cons, List.length_append]
    rcases List.mem_cons.mp h with z | z
    · rw [z]; omega
    · have := ih z; omega
theorem flat_mem {α β : Type} {L : List α} {f : α → List β} {e : α} {x : β} (h : e ∈ L) (hx : x ∈ f e) : x ∈ L.flatMap f := List.mem_flatMap.mpr ⟨e, h, hx⟩
theorem pre_short {d : PyData} (hf : fault d = none) {x : Str} (h : x ∈ allPre d) : x.length ≤ 1000 := by
  obtain ⟨e, he, hx⟩ := List.mem_flatMap.mp h
  obtain ⟨n, hn, rfl⟩ := List.mem_map.mp ((namesOf_pre e.2 x).mpr hx)
  exact namesOf_short (elt_of (els_items hf he)) hn
/-! ### the first thing of a child -/
def headS (c : PyData) : Str := match c with
  | .str s => ⟨#[s.cps.getD 0 0]⟩
  | .tuple (.str s :: _) => s
  | _ => Str.empty
theorem hol_no (c : Nat) : ¬ (⟨#[c]⟩ : Str) = HOL := fun h => by
  have := congrArg (fun s : Str => s.cps.size) h
  have e : HOL.cps.size = 4 := by decide +kernel
  rw [e] at this
  exact absurd (show 1 = 4 from this) (by decide)
theorem ele_no (c : Nat) : ¬ (⟨#[c]⟩ : Str) = ELE := fun h => by
  have := congrArg (fun s : Str => s.cps.size) h
  have e : ELE.cps.size = 7 := by decide +kernel
  rw [e] at this
  exact absurd (show 1 = 7 from this) (by decide)
theorem child_shape {c : PyData} {b : Bool} (h : childOk b c = true) : (∃ s, c = .str s ∧ 0 < s.cps.size) ∨ ∃ s r, c = .tuple (.str s :: r) := by
  unfold childOk at h
  split at h
  · rename_i hs
    have e := isStr_of hs
    refine .inl ⟨strOf c, e, ?_⟩
    simp only [Bool.and_eq_true, Bool.not_eq_true', decide_eq_false_iff_not] at h
    have h2 := h.2.1
    refine Nat.pos_of_ne_zero fun z => h2 ?_
    cases hh : strOf c with
    | mk a =>
      rw [hh] at z
      have : a = #[] := Array.eq_empty_of_size_eq_zero z
      rw [this]
      rfl
  · split at h
    · rename_i h2
      obtain ⟨r, rfl⟩ := begins_tup h2
      exact .inr ⟨_, _, rfl⟩
    · obtain ⟨r, rfl⟩ := begins_tup h
      exact .inr ⟨_, _, rfl⟩
theorem head_hol {c : PyData} {b : Bool} (h : childOk b c = true) : decide (headS c = HOL) = begins c HOL := by
  rcases child_shape h with ⟨s, rfl, _⟩ | ⟨s, r, rfl⟩
  · exact decide_eq_false (hol_no _)
  · rfl
theorem head_ele {c : PyData} {b : Bool} (h : childOk b c = true) : decide (headS c = ELE) = begins c ELE := by
  rcases child_shape h with ⟨s, rfl, _⟩ | ⟨s, r, rfl⟩
  · exact decide_eq_false (ele_no _)
  · rfl
theorem vd_head {K : PySem.W.Frag} {B : Addr → Prop} {σ : L2.St} {H : Hp} {te : TE} {c : PyData} {b : Bool} (ok : childOk b c = true) (h : EvD B te σ H c) : EvD B (tOp (rIx K) te (tC (.int 0))) σ H (.str (headS c)) := by
  rcases child_shape ok with ⟨s, rfl, hs⟩ | ⟨s, r, rfl⟩
  · have e : s.cps[0]? = some (s.cps.getD 0 0) := by
      rw [Array.getD_eq_getD_getElem?, Array.getElem?_eq_getElem hs]
      rfl
    exact vd_ix0S h e
  · exact vd_ix0T h
section
variable {P : Program} {w : World} {K : PySem.W.Frag} {mg : Str → Option Value} {base : Heap}
noncomputable def namesD (d : PyData) : PyData := .tuple [.tuple ((srt (allHoles d)).map .str), .tuple ((srt (allPre d)).map .str), .list ((elsOf d).map fun e => pathD e.1)]
def NamePre (d : PyData) : Prop := fault d = none ∧ Few (allPre d) ∧ (allPre d).length < 100000 ∧ Few (allHoles d)
theorem l_names_in (T : Txt K mg) : Cal P w K mg base CX0 1 "_law_names_in" (spD (fun d => [d]) NamePre namesD) := by
  refine calD (k := 0) T.f_law_names_in sc_law_names_in (fun _ => rfl) ?_
  rintro f cdv A outer s H vs E B d hr hB dv ⟨hf, hfp, hpl0, hfh⟩ D q
  have nd := sc_law_names_in.nd
  refine ⟨_, pss_cons (ps_asg (pe_tup (pa_cons pe_dnewK (pa_cons (pe_lst pa_nil) (pa_cons (pe_lst pa_nil) (pa_cons (pe_lst (pa_cons (pe_tup (pa_cons (pe_tup pa_nil) (pa_cons (pv 0) pa_nil))) pa_nil)) pa_nil)))))
      (pg_tup (by rfl) (pgs_cons (pg_name (i := 1) nd rfl (Or.inl rfl)) (pgs_cons (pg_name (i := 2) nd rfl (Or.inl rfl)) (pgs_cons (pg_name (i := 3) nd rfl (Or.inl rfl)) (pgs_cons (pg_name (i := 4) nd rfl (Or.inl rfl)) pgs_nil))))))
    (pss_cons (ps_while PassesOwn.never (pt_cmpR (op_neE (hu0 hr)) (pv 4) (pe_lst pa_nil) (nomark _))
      (pss_cons (ps_asg (e_pop (pv 4)) (pg_tup (by rfl) (pgs_cons (pg_name (i := 5) nd rfl (Or.inr rfl)) (pgs_cons (pg_name (i := 6) nd rfl (Or.inl rfl)) pgs_nil))))
      (pss_cons (ps_expr (e_app (pv 3) (pv 5)))
      (pss_cons (ps_set (i := 7) nd rfl (Or.inl rfl) (pe_op op_cat (pe_lst (pa_cons (pe_ix ix_tup (pv 6) pe_int (fun _ _ => rfl)) pa_nil))
        (pe_lc (own := [("name", 8), ("value", 9)]) (g := gTup K 2 (gCons (gName 8) (gCons (gName 9) gNil))) (tt := tYes) (te := tVar 8) (by rfl) nd (pi_tup (pe_ix ix_tup (pv 6) pe_int (fun _ _ => rfl))) (blkOk_by (own := [("name", 8), ("value", 9)]) (N := n_law_names_in) (sc := defScope s_law_names_in) (by decide +kernel))
          (fun _ _ _ _ _ => pg_tup (by rfl) (pgs_cons (pg_name (i := 8) nd rfl (Or.inl rfl)) (pgs_cons (pg_name (i := 9) nd rfl (Or.inl rfl)) pgs_nil))) (fun _ _ _ _ _ => pts_nil) (fun _ _ _ _ _ => pv 8))))
      (pss_cons (ps_set (i := 7) nd rfl (Or.inl rfl) (pe_op op_cat (pe_op op_cat (pv 7)
        (pe_lc (own := [("name", 8), ("value", 9)]) (g := gTup K 2 (gCons (gName 8) (gCons (gName 9) gNil))) (tt := tB (tCB (rIsi K) (tCons (tVar 9) (tCons (tC (.ty "tuple")) tNil)))) (te := tVar 9) (by rfl) nd (pi_tup (pe_ix ix_tup (pv 6) pe_int (fun _ _ => rfl))) (blkOk_by (own := [("name", 8), ("value", 9)]) (N := n_law_names_in) (sc := defScope s_law_names_in) (by decide +kernel))
          (fun _ _ _ _ _ => pg_tup (by rfl) (pgs_cons (pg_name (i := 8) nd rfl (Or.inl rfl)) (pgs_cons (pg_name (i := 9) nd rfl (Or.inl rfl)) pgs_nil))) (fun _ _ _ _ _ => pts_one (pt_val (e_isTup T (pv 9)))) (fun _ _ _ _ _ => pv 9)))
        (pe_callTy call_list_of (by rfl) T.b_list (by decide +kernel) (pa_cons (pe_ix ix_tup (pv 6) pe_int (fun _ _ => rfl)) pa_nil))))
      (pss_cons (ps_expr (pe_bm PySem.F.plainAttrs_dict PySem.F.slot_dict_update PySem.F.type_dict_update mt_dupd (pv 1) (pa_cons (pe_callTy (call_dictP rfl) (by rfl) T.b_dict (by decide +kernel) (pa_cons
        (pe_lc (own := [("name", 8)]) (g := gName 8) (tt := tYes) (te := tTup (tCons (tOp (rIxT K) (tVar 8) (tC (.int 0))) (tCons (tC (.int 0)) tNil))) (by rfl) nd (pi_list (pv 7)) (blkOk_by (own := [("name", 8)]) (N := n_law_names_in) (sc := defScope s_law_names_in) (by decide +kernel))
          (fun _ _ _ _ _ => pg_name (i := 8) nd rfl (Or.inl rfl)) (fun _ _ _ _ _ => pts_nil) (fun _ _ _ _ _ => pe_tup (pa_cons (pe_ix ix_tup (pv 8) pe_int (fun _ _ => rfl)) (pa_cons pe_int pa_nil)))) pa_nil)) pa_nil)))
      (pss_cons (ps_set (i := 2) nd rfl (Or.inl rfl) (pe_op op_cat (pv 2)
        (pe_lc (own := [("child", 10)]) (g := gName 10) (tt := tTest (tOp rEq (tOp (rIx K) (tVar 10) (tC (.int 0))) (tC (.str "hole")))) (te := tOp (rIxT K) (tVar 10) (tC (.int 1))) (by rfl) nd (pi_tup (pe_ix ix_tup (pv 6) pe_int (fun _ _ => rfl))) (blkOk_by (own := [("child", 10)]) (N := n_law_names_in) (sc := defScope s_law_names_in) (by decide +kernel))
          (fun _ _ _ _ _ => pg_name (i := 10) nd rfl (Or.inl rfl)) (fun _ _ _ _ _ => pts_one (pt_cmpR op_eq (pe_ix ix_seq (pv 10) pe_int (fun _ _ => rfl)) pe_str (nomark _))) (fun _ _ _ _ _ => pe_ix ix_tup (pv 10) pe_int (fun _ _ => rfl)))))
      (pss_cons (ps_setLc (i := 11) (own := [("k", 12), ("child", 10)]) (g := gTup K 2 (gCons (gName 12) (gCons (gName 10) gNil))) (tt := tTest (tOp rEq (tOp (rIx K) (tVar 10) (tC (.int 0))) (tC (.str "element")))) (te := tTup (tCons (tOp (rCatA K) (tVar 5) (tTup (tCons (tVar 12) tNil))) (tCons (tVar 10) tNil)))
        (by rfl) nd rfl rfl (sw_true rfl rfl (by rfl) (by decide +kernel)) (pi_enumT (by rfl) T.b_enumerate (pa_cons (pe_ix ix_tup (pv 6) pe_int (fun _ _ => rfl)) pa_nil)) (blkOk_by (own := [("k", 12), ("child", 10)]) (N := n_law_names_in) (sc := defScope s_law_names_in) (by decide +kernel))
        (fun _ _ _ _ _ => pg_tup (by rfl) (pgs_cons (pg_name (i := 12) nd rfl (Or.inl rfl)) (pgs_cons (pg_name (i := 10) nd rfl (Or.inl rfl)) pgs_nil)))
        (fun _ _ _ _ _ => pts_one (pt_cmpR op_eq (pe_ix ix_seq (pv 10) pe_int (fun _ _ => rfl)) pe_str (nomark _))) (fun _ _ _ _ _ => pe_tup (pa_cons (pe_op op_catA (pv 5) (pe_tup (pa_cons (pv 12) pa_nil))) (pa_cons (pv 10) pa_nil))))
      (pss_one (ps_set (i := 4) nd rfl (Or.inl rfl) (pe_op op_cat (pv 4) (pe_revL (pv 11))))))))))))
    )
    (pss_one (ps_ret (pe_tup (pa_cons (pe_callTy call_tuple_of (by rfl) T.b_tuple (by decide +kernel) (pa_cons (pe_callB cr_sortedS (by rfl) T.b_sorted (by decide +kernel) (pa_cons (pv 2) pa_nil)) pa_nil))
      (pa_cons (pe_callTy call_tuple_of (by rfl) T.b_tuple (by decide +kernel) (pa_cons (pe_callB (call_sortedD rfl) (by rfl) T.b_sorted (by decide +kernel) (pa_cons (pv 1) pa_nil)) pa_nil)) (pa_cons (pv 3) pa_nil))))))), ?_⟩
  obtain ⟨v0, rfl, d0⟩ := dv.one'
  refine z_names0 hB (ds := [entD ([], d)]) (fun B' H' up => vn_lst up.ok (va_cons (vd_tup up.ok (va_cons (vd_tup up.ok va_nil (by show 0 ≤ 100000; decide)) (va_cons (vd_var rfl (d0.up up)) va_nil)) (by show 2 ≤ 100000; decide)) va_nil) (by show 1 ≤ 100000; decide)) ?_
  intro pf pw pq pl0 ys0 H1 hpf hpq hpl n1 n2 n3 x1 hf1 hq1 hl1 up1 dw1 dy1
  refine z_while (fun m σ' H' => ∃ st fnd kvs ks ws xs ys wv pl a5 a6 a7 a11, σ' = [some v0, some (.ref pf), some wv, some (.ref pq), some (.ref pl), a5, a6, a7, none, none, none, a11, none] ∧ Ex H H' ∧ H pl = none ∧ pf ≠ pl ∧ pq ≠ pl ∧
      H' pf = some (.dK kvs) ∧ DKeys kvs ks ∧ (∀ x, x ∈ ks ↔ x ∈ fnd.flatMap fun e => preOf e.2) ∧ H' pq = some (.lst xs) ∧ Dens (N4 B pf pq pl) H' xs (fnd.map fun e => pathD e.1) ∧ H' pl = some (.lst ys) ∧ Dens (N4 B pf pq pl) H' ys (st.map entD).reverse ∧
      ws = (fnd.flatMap fun e => holesIn e.2) ∧ Den (N4 B pf pq pl) H' wv (.list (ws.map .str)) ∧ Up B H (N4 B pf pq pl) H' ∧ Good m st ∧ elsOf d = fnd ++ walkL m st ∧ fnd.length + m ≤ 60) 60 ?_ ?_
  · exact ⟨[([], d)], [], [], [], [], [], ys0, .ref pw, pl0, none, none, none, none, rfl, x1, hpl, n2, n3, hf1, DKeys.nil, fun x => by simp, hq1, .nil, hl1, dy1, rfl, dw1, up1, good_of hf, rfl, by decide⟩
  rintro m σ' H' ⟨st, fnd, kvs, ks, ws, xs, ys, wv, pl, a5, a6, a7, a11, rfl, ex, hpl', n2, n3, hkf, hkd, hks, hkq, dx, hkl, dy, rfl, dw, up, good, hels, hfl⟩
  refine ⟨!st.isEmpty, vt_test (vd_is (vd_cmpL (B := B) (neg := true) (ev_var rfl) (SqL.of hkl)) ?_), ?_, ?_⟩
  · have := dy.length
    rw [List.length_reverse, List.length_map] at this
    show PyData.bool (!ys.isEmpty) = _
    rw [isEmpty_len this]
  · intro hb H2 x2 D' hD hnx
    cases st with
    | nil => cases hb
    | cons e st =>
      obtain ⟨p, o⟩ := e
      obtain ⟨j, rfl, hp8, hit, g'⟩ := good.step
      have el := elt_of hit
      have up2 := up.ex x2
      have dy2 := dy.ex x2
      rw [stack_cons] at dy2
      obtain ⟨zs, v, rfl, dz, dv⟩ := dy2.snoc'
      refine z_pop2 (B := N4 B pf pq pl) (x2 pl _ hkl) (ev_var rfl) dv (.inr rfl) fun u o' H3 kp other hl3 du do3 => ?_
      have hf3 : H3 pf = some (.dK kvs) := other pf _ n2 (x2 pf _ hkf)
      have hq3 : H3 pq = some (.lst xs) := other pq _ n3 (x2 pq _ hkq)
      have ex3 : Ex H H3 := fun c z hc => other c z (fun e => by rw [e, hpl'] at hc; cases hc) (x2 c _ (ex c z hc))
      have up3 := up2.kp kp
      have hxl : xs.length = fnd.length := by
        have := dx.length
        rw [List.length_map] at this
        exact this
      have hme : (p, o) ∈ elsOf d := by
        rw [hels, walkL_cons]
        exact List.mem_append_right _ (List.mem_cons_self ..)
      have hpre : (preOf o).length ≤ (allPre d).length := flat_len (f := fun e : Ent => preOf e.2) hme
      refine z_app (B := N4 B pf pq pl) hq3 (ev_var rfl) (vd_var rfl du) (by omega) fun v4 H4 x4 dv4 => ?_
      have inq : N4 B pf pq pl pq := .inl (.inr rfl)
      have inf : N4 B pf pq pl pf := .inl (.inl (.inr rfl))
      have kw : Kp (N4 B pf pq pl) H3 (upd H4 pq (.lst (xs ++ [v4]))) := (Kp.of x4).wr inq
      have up5 := up3.kp kw
      have ex5 : Ex H (upd H4 pq (.lst (xs ++ [v4]))) := (ex3.trans x4).mut hpq
      have hf5 : (upd H4 pq (.lst (xs ++ [v4]))) pf = some (.dK kvs) := by
        rw [upd_ne n1]
        exact x4 pf _ hf3
      have hl5 : (upd H4 pq (.lst (xs ++ [v4]))) pl = some (.lst zs) := by
        rw [upd_ne n3.symm]
        exact x4 pl _ hl3
      have hq5 : (upd H4 pq (.lst (xs ++ [v4]))) pq = some (.lst (xs ++ [v4])) := upd_same
      have do5 := do3.kp kw
      have du5 := du.kp kw
      have kp5 := kp.trans kw
      have dw5 := (dw.ex x2).kp kp5
      have dz5 := dz.kp kp5
      have dx5 : Dens (N4 B pf pq pl) (upd H4 pq (.lst (xs ++ [v4]))) (xs ++ [v4]) ((fnd ++ [(p, o)]).map fun e => pathD e.1) := by
        rw [List.map_append]
        exact ((dx.ex x2).kp kp5).append (.cons (dv4.kp ((Kp.refl H4).wr inq)) .nil)
      generalize (upd H4 pq (.lst (xs ++ [v4]))) = H5 at *
      have l2 := do5.kidLen (i := 2) el.tup (kid_lt el.len (by omega)) el.decls.1
      have l3 := do5.kidLen (i := 3) el.tup (kid_lt el.len (by omega)) el.attrs.1
      have l4 := do5.kidLen (i := 4) el.tup (kid_lt el.len (by omega)) el.kids4.1
      have nm := name_str el.nm
      have e2 := isTup_kids el.decls.1
      have e3 := isTup_kids el.attrs.1
      have e4 := isTup_kids el.kids4.1
      have hnl := namesOf_len o
      have hnl2 : (namesOf o).length = 1 + (kids (kid o 3)).length + (quotedIn o).length + (kids (kid o 2)).length := by
        unfold namesOf
        simp only [List.length_append, List.length_map, List.length_cons, List.length_nil]
      show tSeq _ _ D' [some v0, some (.ref pf), some wv, some (.ref pq), some (.ref pl), some u, some o', a7, none, none, none, a11, none] H5
      refine z_asg (B := N4 B pf pq pl) (d := .list ([kid o 1] ++ (kids (kid o 3)).map fun p => kid p 0)) (vd_catL (vd_lst up5.ok (va_cons (vd_kid (i := 1) (vd_var rfl do5) el.tup (kid_lt el.len (by omega))) va_nil) (by show 1 ≤ 100000; decide))
        (vd_is (vd_lcP (σ := [some v0, some (.ref pf), some wv, some (.ref pq), some (.ref pl), some u, some o', a7, none, none, none, a11, none]) (vs := [8, 9]) up5.ok (src_tup (vd_is (vd_kid (i := 3) (vd_var rfl do5) el.tup (kid_lt el.len (by omega))) e3)) (fun _ => true) (fun p => kid p 0) l3 (fun p hp => ⟨_, _, pair_of (attr_mem el hp).1⟩) (fun _ _ => rfl) (fun _ H1 _ _ _ _ _ _ _ _ H2 e Q q => q H2 (Ex.refl H2)) ?_) ?_) up5.ok ?_) fun v7 H6 x6 d7 => ?_
      · intro B' H6 up6 a b hm _ x y dx6 dy6
        exact vd_var rfl dx6
      · rw [List.filter_eq_self.mpr (fun _ _ => rfl)]
      · rw [List.length_map]
        show 1 + _ ≤ 100000
        omega
      have up6 := up5.ex x6
      have do6 := do5.ex x6
      show tSeq _ _ D' [some v0, some (.ref pf), some wv, some (.ref pq), some (.ref pl), some u, some o', some v7, none, none, none, a11, none] H6
      refine z_asg (B := N4 B pf pq pl) (d := .list (namesOf o)) (vd_catL (vd_catL (vd_var rfl d7)
        (vd_is (vd_lcP (σ := [some v0, some (.ref pf), some wv, some (.ref pq), some (.ref pl), some u, some o', some v7, none, none, none, a11, none]) (vs := [8, 9]) up6.ok (src_tup (vd_is (vd_kid (i := 3) (vd_var rfl do6) el.tup (kid_lt el.len (by omega))) e3)) (fun p => isTup (kid p 1)) (fun p => kid p 1) l3 (fun p hp => ⟨_, _, pair_of (attr_mem el hp).1⟩) (fun _ _ => rfl) ?_ ?_) rfl) up6.ok ?_)
        (vd_listT up6.ok (vd_is (vd_kid (i := 2) (vd_var rfl do6) el.tup (kid_lt el.len (by omega))) e2)) up6.ok ?_) fun v8 H7 x7 d8 => ?_
      · intro B' H1 up a b hm x y dx dy
        exact vt_B (vd_isTup (vd_var rfl dy))
      · intro B' H1 up a b hm _ x y dx dy
        exact vd_var rfl dy
      · show ([kid o 1] ++ (kids (kid o 3)).map fun p => kid p 0).length + (quotedIn o).length ≤ 100000
        rw [List.length_append, List.length_map]
        show 1 + _ + _ ≤ 100000
        omega
      · show ([kid o 1] ++ (kids (kid o 3)).map (fun p => kid p 0) ++ quotedIn o).length + (kids (kid o 2)).length ≤ 100000
        rw [List.length_append, List.length_append, List.length_map]
        show 1 + _ + _ + _ ≤ 100000
        omega
      have up7 := up6.ex x7
      have x57 := x6.trans x7
      have hkl64 : ks.length < 64 := by
        obtain ⟨D0, hD1, hD2⟩ := hfp
        have := nodup_len hkd.2 fun x hx => hD2 x (by
          have h1 := (hks x).mp hx
          unfold allPre
          rw [hels, List.flatMap_append]
          exact List.mem_append_left _ h1)
        omega
      show tSeq _ _ D' [some v0, some (.ref pf), some wv, some (.ref pq), some (.ref pl), some u, some o', some v8, none, none, none, a11, none] H7
      refine z_dupd (B := N4 B pf pq pl) (ss := (namesOf o).map fun n => strOf (kid n 0)) (x57 pf _ hf5) (ev_var rfl) (vd_is (vd_lcA (σ := [some v0, some (.ref pf), some wv, some (.ref pq), some (.ref pl), some u, some o', some v8, none, none, none, a11, none]) (vs := [8]) up7.ok (src_lst (vd_var rfl d8)) (fun n => .tuple [kid n 0, .int 0]) (by omega) (fun _ => rfl) (fun B' H1 up n hn x dx => ?_)) ?_) ?_ fun H8 x8 => ?_
      · have hh := namesOf_str el hn
        exact vd_tup up.ok (va_cons (vd_kid (i := 0) (vd_var rfl dx) hh.1 hh.2.1) (va_cons vd_int va_nil)) (by show 2 ≤ 100000; decide)
      · rw [List.map_map]
        congr 1
        refine List.map_congr_left fun n hn => ?_
        have hh := namesOf_str el hn
        show PyData.tuple [kid n 0, .int 0] = .tuple [.str (strOf (kid n 0)), .int 0]
        rw [← hh.2.2]
      · have := hkd.len
        rw [List.length_map]
        omega
      obtain ⟨ks2, hkd2, hks2⟩ := hkd.add ((namesOf o).map fun n => strOf (kid n 0))
      generalize hkv2 : mergeK kvs (mergeK [] (((namesOf o).map fun n => strOf (kid n 0)).map zeroK)) = kvs2 at *
      have kw8 : Kp (N4 B pf pq pl) H5 (upd H8 pf (.dK kvs2)) := (Kp.of (x57.trans x8)).wr inf
      have up9 := up5.kp kw8
      have ex9 : Ex H (upd H8 pf (.dK kvs2)) := (ex5.trans (x57.trans x8)).mut hpf
      have hf9 : (upd H8 pf (.dK kvs2)) pf = some (.dK kvs2) := upd_same
      have hq9 : (upd H8 pf (.dK kvs2)) pq = some (.lst (xs ++ [v4])) := by
        rw [upd_ne n1.symm]
        exact (x57.trans x8) pq _ hq5
      have hl9 : (upd H8 pf (.dK kvs2)) pl = some (.lst zs) := by
        rw [upd_ne n2.symm]
        exact (x57.trans x8) pl _ hl5
      have do9 := do5.kp kw8
      have du9 := du5.kp kw8
      have dw9 := dw5.kp kw8
      have dz9 := dz5.kp kw8
      have dx9 := dx5.kp kw8
      generalize (upd H8 pf (.dK kvs2)) = H9 at *
      have hcl : ∀ c ∈ kids (kid o 4), ∃ b, childOk b c = true := fun c hc => childrenGo_mem el.kids4.2 hc
      have k4 : ∀ {σ2 : L2.St} {H2 : Hp}, σ2[6]? = some (some o') → Den (N4 B pf pq pl) H2 o' o → EvD (N4 B pf pq pl) (tOp (rIxT K) (tVar 6) (tC (.int 4))) σ2 H2 (.tuple (kids (kid o 4))) := fun {σ2 H2} hσ d2 => by
        have := vd_kid (K := K) (i := 4) (j := 4) (vd_var hσ d2) el.tup (kid_lt el.len (by omega))
        rw [e4] at this
        exact this
      have hall : (fnd.flatMap fun e => holesIn e.2) ++ holesIn o = (fnd ++ [(p, o)]).flatMap fun e => holesIn e.2 := by
        rw [List.flatMap_append]
        simp
      have hal : (allHoles d).length < 64 := by
        obtain ⟨D0, hD1, hD2⟩ := hfh
        have := nodup_len (allHoles_nodup hf) hD2
        omega
      have hwl : (fnd.flatMap fun e => holesIn e.2).length + (holesIn o).length ≤ (allHoles d).length := by
        unfold allHoles
        rw [hels, List.flatMap_append, walkL_cons, List.flatMap_cons, List.length_append, List.length_append]
        show _ + _ ≤ _ + ((holesIn o).length + _)
        omega
      show tSeq _ _ D' [some v0, some (.ref pf), some wv, some (.ref pq), some (.ref pl), some u, some o', some v8, none, none, none, a11, none] H9
      refine z_asg (B := N4 B pf pq pl) (d := .list (((fnd ++ [(p, o)]).flatMap fun e => holesIn e.2).map .str)) (vd_is (vd_catL (es := (holesIn o).map PyData.str) (vd_var rfl dw9) (vd_is (vd_lcN (σ := [some v0, some (.ref pf), some wv, some (.ref pq), some (.ref pl), some u, some o', some v8, none, none, none, a11, none]) (vs := [10]) up9.ok (src_tup (k4 rfl do9)) (fun c => begins c HOL) (fun c => .str (strOf (kid c 1))) l4 (fun _ => rfl) (fun B' H1 up c hm x dx => ?_) (fun B' H1 up c hm hb x dx => ?_)) ?_) up9.ok ?_) ?_) fun wv2 H10 x10 dw10 => ?_
      · obtain ⟨b, okc⟩ := hcl c hm
        exact vt_test (vd_is (vd_eqS (vd_head okc (vd_var rfl dx)) vd_str) (congrArg PyData.bool (head_hol okc)))
      · have hc := hole_child el.kids4.2 hm hb
        exact vd_is (vd_kid (i := 1) (vd_var rfl dx) hc.1 hc.2.1) hc.2.2.1
      · show PyData.list _ = .list ((holesIn o).map PyData.str)
        rw [holes_filter]
        rfl
      · rw [List.length_map, List.length_map]
        omega
      · rw [← List.map_append, hall]
      have up10 := up9.ex x10
      have hbl : (below p o).length ≤ 100000 := by
        unfold below
        rw [List.length_map]
        exact Nat.le_trans (inside_len _ _) l4
      have du10 := du9.ex x10
      have do10 := do9.ex x10
      refine z_asg (B := N4 B pf pq pl) (d := .list ((below p o).map entD)) (vd_is (vd_lcP (σ := [some v0, some (.ref pf), some wv2, some (.ref pq), some (.ref pl), some u, some o', some v8, none, none, none, a11, none]) (vs := [12, 10]) up10.ok (src_enumT (va_cons (k4 rfl do10) va_nil) l4) (fun x => begins (kid x 1) ELE) (entOf p) (by rw [enumD_len]; exact l4) (fun d hd => enumD_pair hd) (fun _ _ => rfl) ?_ ?_) ?_) fun v9 H11 x11 d11 => ?_
      · intro B' H1 up a b hm x y dx dy
        have hm2 : b ∈ kids (kid o 4) := by
          unfold enumD at hm
          obtain ⟨i, hi, e⟩ := List.mem_map.mp hm
          have e2 := PyData.tuple.inj e
          rw [List.cons.injEq, List.cons.injEq] at e2
          rw [← e2.2.1, List.getD_eq_getElem?_getD, List.getElem?_eq_getElem (List.mem_range.mp hi)]
          exact List.getElem_mem _
        obtain ⟨b1, okc⟩ := hcl b hm2
        exact vt_test (vd_is (vd_eqS (vd_head okc (vd_var rfl dy)) vd_str) (congrArg PyData.bool (head_ele okc)))
      · intro B' H1 up a b hm _ x y dx dy
        have dp : Den B' H1 u (.tuple (p.map fun n => PyData.int (n : Nat))) := du10.up up
        exact vd_tup up.ok (va_cons (vd_catT (vd_var rfl dp) (vd_tup up.ok (va_cons (vd_var rfl dx) va_nil) (by show 1 ≤ 100000; decide)) up.ok (by rw [List.length_map]; show p.length + 1 ≤ 100000; omega)) (va_cons (vd_var rfl dy) va_nil)) (by show 2 ≤ 100000; decide)
      · rw [← below_ent]
        unfold elems
        rw [← enum_elems, List.map_map]
        rfl
      have up11 := up10.ex x11
      refine ⟨.ref pl, rfl, ?_⟩
      refine (vd_rev (K := K) (σ := [some v0, some (.ref pf), some wv2, some (.ref pq), some (.ref pl), some u, some o', some v8, none, none, none, some v9, none]) (te := tVar 11) (vd_var rfl d11) up11.ok) H11 (Ex.refl H11) _ fun rv H12 x12 drv => ?_
      obtain ⟨rb, rs, rfl, hrb, _, rr⟩ := drv.lst'
      have xx := (x10.trans x11).trans x12
      have hzl : zs.length = st.length := by
        have := dz9.length
        rw [List.length_reverse, List.length_map] at this
        exact this
      have hrl : rs.length = (below p o).length := by
        have := rr.length
        rw [List.length_reverse, List.length_map] at this
        exact this
      have hgl := good_len g'
      rw [List.length_append] at hgl
      refine ⟨pl, rb, zs, rs, rfl, rfl, xx pl _ hl9, hrb, szP (by omega), fun np hnp => ?_⟩
      show D'.nx _ _
      have xn : Ex H12 (upd H12 np (.lst (zs ++ rs))) := Ex.new hnp
      have hf12 := xx pf _ hf9
      have hq12 := xx pq _ hq9
      have ex12 := ex9.trans xx
      have np2 : H np = none := noneOf ex12 hnp
      have mv : ∀ b o, H12 b = some o → ¬ N4 B pf pq pl b → upd H12 np (.lst (zs ++ rs)) b = some o ∧ ¬ N4 B pf pq np b := fun b o e n => ⟨xn b o e, fun z => by
        rcases z with z | z
        · exact n (.inl z)
        · exact ne_of_none e hnp z⟩
      have hne : ∀ b, Add (Add B pf) pq b → upd H12 np (.lst (zs ++ rs)) b ≠ none := fun b hb z => by
        have h12 : H12 b = none := by
          by_cases e : b = np
          · rw [e]; exact hnp
          · rw [upd_ne e] at z; exact z
        have u12 := up9.ex xx
        exact u12.ok b (.inl hb) h12
      have upN : Up B H (N4 B pf pq np) (upd H12 np (.lst (zs ++ rs))) := ⟨fun b o e n => by
          have h := (up9.ex xx).keep b o e n
          exact mv b o h.1 h.2, fun b hb => by
          rcases hb with hb | hb
          · exact hne b hb
          · rw [hb, upd_same]; simp, fun b h => (up9.ex xx).dom b ((Kp.of (B := NoB) xn).dom b h)⟩
      refine hnx j _ _ (Nat.lt_succ_self _) ⟨below p o ++ st, fnd ++ [(p, o)], kvs2, ks2, _, xs ++ [v4], zs ++ rs, wv2, np, some u, some o', some v8, some v9, rfl, ex12.trans xn, np2, ne_of_none hf12 hnp, ne_of_none hq12 hnp, xn pf _ hf12, hkd2, fun x => ?_, xn pq _ hq12, (dx9.ex xx).keep' mv, upd_same, ?_, rfl, (dw10.ex (x11.trans x12)).keep' mv, upN, g', ?_, ?_⟩
      · rw [hks2, hks, namesOf_pre, List.flatMap_append, List.mem_append]
        simp
      · rw [stack_push]
        exact ((dz9.ex xx).append rr).keep' mv
      · rw [hels, walkL_cons, List.append_assoc]
        rfl
      · rw [List.length_append]
        show fnd.length + 1 + j ≤ 60
        omega
  · intro hb H2 x2
    cases st with
    | cons e st => cases hb
    | nil =>
      rw [walkL_nil, List.append_nil] at hels
      have x3 := ex.trans x2
      have ok := hB.ex x3
      have hxl := dx.length
      rw [List.length_map] at hxl
      refine sd_rt (B := B) q x3 (vd_tup ok (va_cons (vd_tupOf ok (vd_sortedS ok (xs := allHoles d) (vd_is (vd_var rfl ((dw.ex x2).le fun b h => .inl (.inl (.inl h)))) ?_) (allHoles_nodup hf) hfh)) (va_cons (vd_tupOf ok (vd_sortedD ok (xs := allPre d) (ev_var rfl) (x2 pf _ hkf) hkd (fun x => ?_) (fun x hx => pre_short hf hx) hfp)) (va_cons (vd_var rfl (.lst (ds := fnd.map fun e => pathD e.1) (by omega) (x2 pq _ hkq) (hB.new hpq |> fun n => n) ((dx.ex x2).le fun b h => .inl (.inl (.inl h))))) va_nil))) (by show 3 ≤ 100000; decide)) ?_
      · show PyData.list _ = .list ((allHoles d).map .str)
        unfold allHoles
        rw [hels]
      · rw [hks]
        unfold allPre
        rw [hels]
      · unfold namesD
        rw [hels]
end
end G
set_option maxHeartbeats 1000000
/-! defs that ask for a repr: no repr may be under way around them -/
namespace G
open PySem PySem.Spec PyProof.Rows L2 Evl LamX NdefX
/-- as FnOk, asked only where no repr is under way -/
structure FnG (P : Program) (w : World) (K : PySem.W.Frag) (mg : Str → Option Value) (base : Heap) (CX : CXT) (k : Nat) (f : Addr) (fd : FuncData) (ps : List Str) (sp : Sp) : Prop where
  len : ∀ vs H Q E, sp vs H Q E → vs.length = ps.length
  run : ∀ (A : Around) (outer : List Env) (s : Shared) (H : Hp) (us : List Value) (vs : List V) (Q : VK) (E : XK), A.guards = some [] → Room k A → Env0 P w K mg base A outer s H → BindsTo s fd ⟨us, []⟩ (ps.zip us) → Vals vs us → sp vs H Q E →
    codeAny (model P w) A (.call (.ref f) ⟨us, []⟩) (CR CX outer P w H s Q E) s
section
variable {P : Program} {w : World} {K : PySem.W.Frag} {mg : Str → Option Value} {base : Heap} {CX : CXT} {k : Nat} {f : Addr} {N ps : List Str} {sp : Sp}
theorem fng_body {nm ql : Str} {pa : Arguments} {bd : List Stmt} {sc : Scope} {kV doc pm cd ct oc : Value} {an od : Option Addr} {sl : Array (Option Value)} (lk : K.lookup f = some ⟨oc, od, .func (PySem.W.fnOf nm ql pa bd sc .none kV doc pm an cd ct), sl⟩) (hcd : PySem.W.codeIn K cd ql = true) (S : FnScope N ps sc)
    (len : ∀ vs H Q E, sp vs H Q E → vs.length = ps.length)
    (hbody : ∀ (A : Around) (outer : List Env) (s : Shared) (H : Hp) (vs : List V) (Q : VK) (E : XK), A.guards = some [] → Room k (A.deeper (envOfC ql sc s.heap.objs.size f cd)) → sp vs H Q E →
      ∃ t, PSs (cxOf CX P w K mg base N ql sc f cd A outer s H E) bd t ∧ t { nx := fun _ H' => Q .non H', rt := Q } (start N vs) H) : FnG P w K mg base CX (k + 1) f (PySem.W.fnOf nm ql pa bd sc .none kV doc pm an cd ct) ps sp := by
  constructor
  · exact len
  intro A outer s H us vs Q E hG hr e0 hb rv hsp
  obtain ⟨t, tOk, tRd⟩ := hbody A outer s H vs Q E hG (hr.deeper _) hsp
  have stay : ∀ b o, base.get? b = some o → s.heap.get? b = some o := fun b o e => (e0.bs b o e).1
  have kin : K.In s.heap := e0.mod.kin.keeps stay
  refine codeAny_call_function hr.depth (kin _ _ lk) rfl S.co S.gen rfl (PySem.W.codeRec_of kin hcd) (hb _ _ _ _ ?_)
  have kinds : ∀ y ∈ ps.zip us, sc.names.lookup y.1 = some .local ∨ (sc.names.lookup y.1 = some .cell ∧ ((cellsFrom (s.heap.objs.size + 1) sc.names []).lookup y.1).isSome = true) := by
    rintro ⟨y, u⟩ hy
    refine (S.par y (List.of_mem_zip hy).1).imp id fun c => ⟨c, ?_⟩
    exact PySem.W.cellsFrom_some _ _ _ (.inl c)
  refine wpAny_newFunctionEnv_cells S.kind kinds fun en he s1 x => ?_
  subst he
  refine ⟨(e0.mod.nolimit.keeps stay).keeps x.toInCall.keep, codeAny_func ?_⟩
  have I := inv_start (CX := CX) (E := E) S hr.hd e0 (len _ _ _ _ hsp) rv x
  refine wpAny_mono (tOk.run [] s1 (start N vs) H _ I tRd) (fun fl s2 z => ?_) fun e s2 z => z
  match fl, z with
  | .ret u, z =>
    obtain ⟨v, σ2, H2, J, r, q⟩ := z
    exact ⟨v, H2, J.os, J.bare, J.base, J.hok, r, q⟩
  | .next, z =>
    obtain ⟨σ2, H2, J, q⟩ := z
    exact ⟨V.non, H2, J.os, J.bare, J.base, J.hok, rfl, q⟩
  | .brk, z =>
    obtain ⟨_, _, _, q⟩ := z
    exact False.elim q
  | .cont, z =>
    obtain ⟨_, _, _, q⟩ := z
    exact False.elim q
/-- known by its promise -/
def CalG (P : Program) (w : World) (K : PySem.W.Frag) (mg : Str → Option Value) (base : Heap) (k : Nat) (x : Str) (sp : Sp) : Prop :=
  ∃ (f : Addr) (fd : FuncData) (ps : List Str), FnG P w K mg base CX0 k f fd ps sp ∧ mg x = some (.ref f) ∧ PySem.W.keepIn K (.ref f) = true ∧ Binds K fd ps []
/-- a def that makes lambdas -/
theorem calG_L {x : Str} {st : Stmt} {T : List (Addr × Str)} (D : DefL K mg base x st ps T) (S : FnScope N ps (defScope st)) (len : ∀ vs H Q E, sp vs H Q E → vs.length = ps.length)
    (hbody : ∀ (f c Pt : Addr) (A : Around) (outer : List Env) (s : Shared) (H : Hp) (vs : List V) (Q : VK) (E : XK), TabB base mg c Pt → (Pt, lamQ x st) ∈ T → (∀ p ∈ T, p.1 = Pt → p.2 = lamQ x st) → A.guards = some [] → Room k (A.deeper (envOfC x (defScope st) s.heap.objs.size f (.ref c))) → sp vs H Q E →
      ∃ t, PSs (cxOf CX0 P w K mg base N x (defScope st) f (.ref c) A outer s H E).nox (defBody st) t ∧ t { nx := fun _ H' => Q .non H', rt := Q } (start N vs) H) : CalG P w K mg base (k + 1) x sp := by
  obtain ⟨f, c, Pt, oc, od, kV, doc, pm, an, ct, osl, lk, hcd, hm, kp, b, tb, hT, hu⟩ := D.ex
  refine ⟨f, _, ps, fng_body lk hcd S len fun A outer s H vs Q E hG hr hsp => ?_, hm, kp, b⟩
  obtain ⟨t, h, q⟩ := hbody f c Pt A outer s H vs Q E tb hT hu hG hr hsp
  exact ⟨t, h.nox, q⟩
/-- a def that makes none -/
theorem fng_fn {x : Str} {st : Stmt} {fd : FuncData} (F : Fun K x x st f fd) (S : FnScope N ps (defScope st)) (len : ∀ vs H Q E, sp vs H Q E → vs.length = ps.length)
    (hbody : ∀ (cdv : Value) (A : Around) (outer : List Env) (s : Shared) (H : Hp) (vs : List V) (Q : VK) (E : XK), A.guards = some [] → Room k (A.deeper (envOfC x (defScope st) s.heap.objs.size f cdv)) → sp vs H Q E →
      ∃ t, PSs (cxOf CX0 P w K mg base N x (defScope st) f cdv A outer s H E).nox (defBody st) t ∧ t { nx := fun _ H' => Q .non H', rt := Q } (start N vs) H) : FnG P w K mg base CX0 (k + 1) f fd ps sp := by
  obtain ⟨oc, od, kV, doc, pm, an, cdv, ct, osl, rfl, lk, hcd⟩ := F.ex
  refine fng_body lk hcd S len fun A outer s H vs Q E hG hr hsp => ?_
  obtain ⟨t, h, q⟩ := hbody cdv A outer s H vs Q E hG hr hsp
  exact ⟨t, h.nox, q⟩
end
/-- a call of such a def -/
theorem pe_calG {X : Cx} {k : Nat} {x : Str} {sp : Sp} {p pos : Pos} {e : Expr} {es : List Expr} {t : TA} (c : CalG X.prog X.w X.K X.mg X.base k x sp) (hG : X.A.guards = some []) (hr : Room k X.A) (ha : PA X (e :: es) t) (hg : Gl X x := by rfl) (hdb : (x == ("__debug__" : Str)) = false := by decide)
    (he : starEach (e :: es) X.env = (false, eval e X.env) :: starEach es X.env := by rfl) (hpl : (backTo pos (starEach es X.env)).any (·.1) = false := by rfl) : PE X (.Call (.Name x p) (e :: es) [] pos) (tCall sp [] E0 t) := by
  obtain ⟨f, fd, ps, F, hm, kp, b⟩ := c
  refine ⟨fun pins s σ H Q I h => ?_⟩
  refine wpAny_Call_Name_kw (ld_glob I hg hm ?_ hdb)
  refine PySem.W.callWith_K (h₀ := X.base) I.ok.mod.kin kp (thn (ha.run pos pins s σ H _ I h) fun us s1 ⟨vs, H1, I1, r, q⟩ => ⟨I1.kIn, ?_⟩) he hpl
  have q : sp vs H1 Q E0 := by
    have z : sp (vs ++ []) H1 Q E0 := q
    rw [List.append_nil] at z
    exact z
  have hl : us.length = ps.length := by rw [← r.length]; exact F.len _ _ _ _ q
  have hb := b s1 us I1.kIn (by rw [List.append_nil]; exact hl)
  rw [List.append_nil] at hb
  refine wpAny_call (codeAny_mono (F.run X.A X.stack s1 H1 us vs Q E0 hG hr I1.env0 hb r q) fun rs s2 z => ?_)
  match rs, z with
  | .error u, z => exact pass0 pins σ H1 s1 u s2 I1 z
  | .ok (.ret u), z => exact I1.after z
  | .ok .next, z => exact False.elim z
  | .ok .brk, z => exact False.elim z
  | .ok .cont, z => exact False.elim z
/-! ### repr of data -/
mutual
theorem Den.reads {P : Program} {w : World} {B : Addr → Prop} {H : Hp} {h : Heap} (k : HOk P w H h) : ∀ {v : V} {d : PyData}, Den B H v d → ∀ {u : Value}, L2.RelV v u → ∃ as, Reads h u d as ∧ ∀ a ∈ as, H a ≠ none
  | _, _, .non, u, r => by
    cases r
    exact ⟨[], .none, fun a z => by cases z⟩
  | _, _, .bl b, u, r => by
    cases r
    exact ⟨[], .bool b, fun a z => by cases z⟩
  | _, _, .int i _, u, r => by
    obtain ⟨t, rfl⟩ := r
    exact ⟨[], .int i t, fun a z => by cases z⟩
  | _, _, .str s _, u, r => by
    obtain ⟨t, rfl⟩ := r
    exact ⟨[], .str s t, fun a z => by cases z⟩
  | _, _, .tup (a := a) l e n r0, u, r => by
    cases r
    obtain ⟨_, its, rv, o, h1, h2, n, h3⟩ := (show ObjOk P w H h a (.tup _) from k a _ e)
    obtain ⟨as, q1, q2⟩ := Dens.reads k r0 rv
    exact ⟨as, .tuple h1 h2 h3 (by simpa using q1), q2⟩
  | _, _, .lst (a := a) l e n r0, u, r => by
    cases r
    obtain ⟨_, its, n, rv, h1⟩ := (show ObjOk P w H h a (.lst _) from k a _ e)
    obtain ⟨as, q1, q2⟩ := Dens.reads k r0 rv
    refine ⟨a :: as, .list h1 rfl rfl (by simpa using q1), fun b hb => ?_⟩
    rcases List.mem_cons.mp hb with z | z
    · rw [z, e]; simp
    · exact q2 b z
  | _, _, .dic (a := a) e n, u, r => by
    cases r
    obtain ⟨_, _, vs, rel, dd⟩ := dk_of k e
    cases rel
    obtain ⟨o, es, ep, ho, hc, hd, hk, hp, hn⟩ := dd
    have h0 : es.toList = [] := by
      have := hp.length
      exact List.eq_nil_of_length_eq_zero this
    refine ⟨[a], ?_, fun b hb => ?_⟩
    · have : Reads h (.ref a) (.dict []) (a :: [] ++ []) := .dict ho hc.1 hd (by rw [h0]; exact .nil) (by rw [h0]; exact .nil)
      exact this
    · rw [List.mem_singleton.mp hb, e]; simp
theorem Dens.reads {P : Program} {w : World} {B : Addr → Prop} {H : Hp} {h : Heap} (k : HOk P w H h) : ∀ {vs : List V} {ds : List PyData}, Dens B H vs ds → ∀ {us : List Value}, L2.Vals vs us → ∃ as, ReadsAll h us ds as ∧ ∀ a ∈ as, H a ≠ none
  | _, _, .nil, us, r => by
    cases r
    exact ⟨[], .nil, fun a z => by cases z⟩
  | _, _, .cons d t, us, r => by
    cases r with
    | cons r1 r2 =>
      obtain ⟨a1, x1, y1⟩ := Den.reads k d r1
      obtain ⟨a2, x2, y2⟩ := Dens.reads k t r2
      exact ⟨a1 ++ a2, .cons x1 x2, fun b hb => (List.mem_append.mp hb).elim (y1 b) (y2 b)⟩
end
/-- repr(x), x data -/
def rRepr : List V → Hp → VK → Prop := fun xs H Q => ∃ (B : Addr → Prop) (v : V) (d : PyData), xs = [v] ∧ Den B H v d ∧ d.showable = true ∧ d.depth ≤ 100 ∧ d.shown.length ≤ sizeLine ∧ Q (.str d.shown) H
theorem call_reprD {X : Cx} (hG : X.A.guards = some []) (hu : X.A.units + 110 < cLine) (hS : ∃ o, X.base.get? sysModules = some o) : CallR X (.builtin "repr") rRepr := by
  intro pins s σ H xs us Q I r h
  obtain ⟨B, v, d, rfl, dv, hs, hd, hz, q⟩ := h
  obtain ⟨u, rfl, ru⟩ := vals1 r
  obtain ⟨as, rd, tr⟩ := dv.reads I.hok ru
  have hno : sysModules ∉ as := fun z => by
    obtain ⟨o, ho⟩ := hS
    exact tr _ z (I.env0.bs _ _ ho).2
  have fin : ∀ (h' : Heap) (u tk : Nat), (∀ b o, s.heap.get? b = some o → h'.get? b = some o) → EP X pins σ Q (.str d.shown u) { s with heap := h', toks := tk } := fun h' u tk hk => ⟨.str d.shown, H, I.kept hk, ⟨u, rfl⟩, q⟩
  have now : EP X pins σ Q (.str d.shown s.toks) { s with toks := s.toks + 1 } := fin s.heap s.toks (s.toks + 1) fun _ _ e => e
  have obj : ∀ a, u = .ref a → wpAny (model X.prog X.w) X.A (call (.builtin "repr") [u]) (EP X pins σ Q) X.xe s := fun a e => by
    subst e
    exact repr_of_reads' rd hs (fun _ => hno) hG (by omega) (fun _ _ e => e) fin hz
  cases dv with
  | non =>
    cases ru
    exact P.repr_of_none (by simpa only [PyData.shown] using now)
  | bl b =>
    cases ru
    exact P.repr_of_bool (by simpa only [PyData.shown] using now)
  | int i hi =>
    obtain ⟨t, rfl⟩ := ru
    exact P.repr_of_int (by simpa [PyData.showable] using hs) (by simpa only [PyData.shown] using now)
  | str z hl =>
    obtain ⟨t, rfl⟩ := ru
    exact P.repr_of_str (by simpa only [PyData.shown] using now) (by simpa only [PyData.shown] using hz)
  | tup l e n r0 => exact obj _ ru
  | lst l e n r0 => exact obj _ ru
  | dic e n => exact obj _ ru
end G
set_option maxHeartbeats 1000000
/-! sizes of what is told by repr -/
namespace G
open PySem PySem.Spec PyProof.Rows L2 Evl
/-! ### parts of data whose leaves are few -/
theorem lv_kids {d x : PyData} (h : lv d = true) (hx : x ∈ kids d) : lv x = true := by
  cases d with
  | tuple xs =>
    rw [lvT, lvs_all, List.all_eq_true] at h
    exact h x hx
  | _ => cases hx
theorem lv_kid {d : PyData} (h : lv d = true) (i : Nat) : lv (kid d i) = true := by
  unfold kid
  rw [List.getD_eq_getElem?_getD]
  cases e : (kids d)[i]? with
  | none => rfl
  | some x => exact lv_kids h (List.mem_of_getElem? e)
theorem lv_str {s : Str} (h : lv (.str s) = true) : s ∈ SS := of_decide_eq_true h
theorem mem_inside : ∀ {ds : List PyData} {k : Nat} {e : Nat × PyData}, e ∈ inside k ds → e.2 ∈ ds
  | d :: r, k, e, h => by
    unfold inside at h
    split at h
    · rcases List.mem_cons.mp h with z | z
      · rw [z]
        exact List.mem_cons_self ..
      · exact List.mem_cons_of_mem _ (mem_inside z)
    · exact List.mem_cons_of_mem _ (mem_inside h)
theorem lv_below {p : List Nat} {d : PyData} (h : lv d = true) {e : Ent} (he : e ∈ below p d) : lv e.2 = true := by
  unfold below at he
  obtain ⟨z, hz, rfl⟩ := List.mem_map.mp he
  exact lv_kids (lv_kid h 4) (mem_inside hz)
theorem lv_walk : ∀ (k : Nat) (st : List Ent), (∀ e ∈ st, lv e.2 = true) → ∀ e ∈ walkL k st, lv e.2 = true
  | 0, st, _, e, h => by cases st <;> cases h
  | k + 1, [], _, e, h => by cases h
  | k + 1, (p, d) :: st, hs, e, h => by
    rw [walkL_cons] at h
    have hd := hs (p, d) (List.mem_cons_self ..)
    rcases List.mem_cons.mp h with z | z
    · rw [z]
      exact hd
    · refine lv_walk k _ (fun x hx => ?_) e z
      rcases List.mem_append.mp hx with y | y
      · exact lv_below hd y
      · exact hs x (List.mem_cons_of_mem _ y)
theorem lv_els {d : PyData} (h : lv d = true) {e : Ent} (he : e ∈ elsOf d) : lv e.2 = true := lv_walk 60 _ (fun x hx => by rw [List.mem_singleton.mp hx]; exact h) e he
theorem lv_names {o n : PyData} (h : lv o = true) (hn : n ∈ namesOf o) : lv n = true := by
  unfold namesOf at hn
  rcases List.mem_append.mp hn with hn | hn
  · rcases List.mem_append.mp hn with hn | hn
    · rcases List.mem_append.mp hn with hn | hn
      · rw [List.mem_singleton.mp hn]
        exact lv_kid h 1
      · obtain ⟨p, hp, rfl⟩ := List.mem_map.mp hn
        exact lv_kid (lv_kids (lv_kid h 3) hp) 0
    · unfold quotedIn at hn
      obtain ⟨p, hp, rfl⟩ := List.mem_map.mp hn
      exact lv_kid (lv_kids (lv_kid h 3) (List.mem_filter.mp hp).1) 1
  · exact lv_kids (lv_kid h 2) hn
theorem pre_ss {d : PyData} (h : lv d = true) (hf : fault d = none) : ∀ x ∈ allPre d, x ∈ SS := by
  intro x hx
  obtain ⟨e, he, hx⟩ := List.mem_flatMap.mp hx
  obtain ⟨n, hn, rfl⟩ := List.mem_map.mp ((namesOf_pre e.2 x).mpr hx)
  have hh := namesOf_str (elt_of (els_items hf he)) hn
  have := lv_kid (lv_names (lv_els h he) hn) 0
  rw [hh.2.2] at this
  exact lv_str this
theorem mem_holes : ∀ {ds : List PyData} {x : Str}, x ∈ holesOf ds → ∃ c ∈ ds, begins c HOL = true ∧ x = strOf (kid c 1)
  | c :: r, x, h => by
    unfold holesOf at h
    split at h
    · rename_i hb
      rcases List.mem_cons.mp h with z | z
      · exact ⟨c, List.mem_cons_self .., hb, z⟩
      · obtain ⟨c', h1, h2⟩ := mem_holes z
        exact ⟨c', List.mem_cons_of_mem _ h1, h2⟩
    · obtain ⟨c', h1, h2⟩ := mem_holes h
      exact ⟨c', List.mem_cons_of_mem _ h1, h2⟩
theorem few_pre {d : PyData} (h : lv d = true) (hf : fault d = none) : Few (allPre d) := ⟨SS, by decide +kernel, pre_ss h hf⟩
theorem holes_ss {d : PyData} (h : lv d = true) (hf : fault d = none) : ∀ x ∈ allHoles d, x ∈ SS := by
  intro x hx
  obtain ⟨e, he, hx⟩ := List.mem_flatMap.mp hx
  obtain ⟨c, hc, hb, rfl⟩ := mem_holes hx
  have hh := hole_child (elt_of (els_items hf he)).kids4.2 hc hb
  have := lv_kid (lv_kids (lv_kid (lv_els h he) 4) hc) 1
  rw [hh.2.2.1] at this
  exact lv_str this
theorem few_holes {d : PyData} (h : lv d = true) (hf : fault d = none) : Few (allHoles d) := ⟨SS, by decide +kernel, holes_ss h hf⟩
/-! how many -/
def SSP : List Str := SS.filter fun s => isPrefix (.str s)
def SSN : List (Str × Str) := SSP.flatMap fun s => (SS.filter fun s => isLocal (.str s)).map fun z => (s, z)
theorem ssp_len : SSP.length ≤ 20 := by decide +kernel
theorem ssn_len : SSN.length ≤ 400 := by decide +kernel
theorem pre_len {o : PyData} (h : lv o = true) (el : Elt o) : (preOf o).length ≤ 900 := by
  have h1 : (kids (kid o 2)).length ≤ 20 := by
    have := nodup_len (D := SSP) el.decls.2.2 fun x hx => by
      obtain ⟨p, hp, rfl⟩ := List.mem_map.mp hx
      have q := decl_mem el hp
      have hk := lv_kid (lv_kids (lv_kid h 2) hp) 0
      have e := pre_str q.2.1
      rw [e] at hk
      refine List.mem_filter.mpr ⟨lv_str hk, ?_⟩
      show isPrefix (.str (strOf (kid p 0))) = true
      rw [← e]
      exact q.2.1
    rw [List.length_map] at this
    have := ssp_len
    omega
  have h2 : (kids (kid o 3)).length ≤ 400 := by
    have := nodup_len (D := SSN) el.attrs.2.2 fun x hx => by
      obtain ⟨p, hp, rfl⟩ := List.mem_map.mp hx
      have q := attr_mem el hp
      have hk := lv_kid (lv_kids (lv_kid h 3) hp) 0
      have hn := name_tup q.2.1
      have hq := q.2.1
      show (strOf (kid (kid p 0) 0), strOf (kid (kid p 0) 1)) ∈ SSN
      generalize kid p 0 = n at hk hn hq
      unfold isName at hq
      rw [Bool.and_eq_true, Bool.and_eq_true] at hq
      have k0 := lv_kid hk 0
      have k1 := lv_kid hk 1
      have e0 : kid n 0 = .str (strOf (kid n 0)) := pre_str hq.2.1
      have e1 : kid n 1 = .str (strOf (kid n 1)) := by
        have := congrArg (fun x => kid x 1) hn
        exact this
      rw [e0] at k0
      rw [e1] at k1
      refine List.mem_flatMap.mpr ⟨_, List.mem_filter.mpr ⟨lv_str k0, ?_⟩, List.mem_map.mpr ⟨_, List.mem_filter.mpr ⟨lv_str k1, ?_⟩, rfl⟩⟩
      · show isPrefix (.str (strOf (kid n 0))) = true
        rw [← e0]
        exact hq.2.1
      · show isLocal (.str (strOf (kid n 1))) = true
        rw [← e1]
        exact hq.2.2
    rw [List.length_map] at this
    have := ssn_len
    omega
  have h3 : (quotedIn o).length ≤ (kids (kid o 3)).length := by
    unfold quotedIn
    rw [List.length_map]
    exact List.length_filter_le _ _
  unfold preOf pre1 pre2
  simp only [List.length_append, List.length_map, List.length_cons]
  omega
theorem flat_le {α β : Type} {f : α → List β} {n : Nat} : ∀ {L : List α}, (∀ e ∈ L, (f e).length ≤ n) → (L.flatMap f).length ≤ L.length * n
  | [], _ => Nat.zero_le _
  | a :: r, h => by
    rw [List.flatMap_cons, List.length_append, List.length_cons, Nat.add_mul, Nat.one_mul]
    have h1 := h a (List.mem_cons_self ..)
    have h2 := flat_le (L := r) fun e he => h e (List.mem_cons_of_mem _ he)
    omega
theorem right_pre {d : PyData} (h : lv d = true) (hf : fault d = none) : NamePre d := by
  refine ⟨hf, few_pre h hf, ?_, few_holes h hf⟩
  have h1 : (allPre d).length ≤ (elsOf d).length * 900 := flat_le fun e he => pre_len (lv_els h he) (elt_of (els_items hf he))
  have h2 : (elsOf d).length ≤ 60 := walkL_len 60 _
  have h3 : (elsOf d).length * 900 ≤ 60 * 900 := Nat.mul_le_mul_right _ h2
  omega
theorem holes_small {d : PyData} (h : lv d = true) (hf : fault d = none) : (allHoles d).length < 64 := by
  obtain ⟨D, h1, h2⟩ := few_holes h hf
  have := nodup_len (allHoles_nodup hf) h2
  omega
theorem srt_small {xs : List Str} (h : Few xs) : (srt xs).length < 64 ∧ ∀ y ∈ srt xs, y ∈ xs := by
  unfold srt
  split
  · rename_i hx
    have hy := hx.choose_spec
    obtain ⟨D, h1, h2⟩ := h
    have := nodup_len hy.2.1 fun x hx' => h2 x ((hy.2.2 x).mp hx')
    exact ⟨by omega, fun y hy' => (hy.2.2 y).mp hy'⟩
  · exact ⟨by decide, fun y hy => by cases hy⟩
/-! ### where a fault is -/
theorem addHoles_path (p q : List Nat) : ∀ (hs w : List Str) (t : Option (List Nat)), (addHoles p hs w t).2 = some q → t = some q ∨ q = p
  | [], w, t, h => .inl h
  | x :: r, w, t, h => by
    have h' : (addHoles p r (w ++ [x]) (if x ∈ w then t.orElse fun _ => some p else t)).2 = some q := h
    rcases addHoles_path p q r _ _ h' with z | z
    · split at z
      · cases t with
        | none => exact .inr (Option.some.inj z).symm
        | some a => exact .inl z
      · exact .inl z
    · exact .inr z
theorem walk_path : ∀ (k : Nat) (st : List Ent) (w : List Str) (t : Option (List Nat)) (p : List Nat) (r : Res), (∀ e ∈ st, e.1.length ≤ 8) → (∀ q, t = some q → q.length ≤ 8) → walkF k st w t = some (p, r) → p.length ≤ 8
  | k, [], w, t, p, r, _, ht, h => by
    have h' : (t.map fun p => (p, Res.hole)) = some (p, r) := by
      cases k <;> exact h
    cases t with
    | none => cases h'
    | some q =>
      have := Option.some.inj h'
      have e : q = p := congrArg Prod.fst this
      rw [← e]
      exact ht q rfl
  | 0, (q, d) :: st, w, t, p, r, hs, _, h => by
    unfold walkF at h
    have e : q = p := congrArg Prod.fst (Option.some.inj h)
    rw [← e]
    exact hs (q, d) (List.mem_cons_self ..)
  | k + 1, (q, d) :: st, w, t, p, r, hs, ht, h => by
    have hq := hs (q, d) (List.mem_cons_self ..)
    unfold walkF at h
    split at h
    · have e : q = p := congrArg Prod.fst (Option.some.inj h)
      rw [← e]
      exact hq
    · rename_i h8
      split at h
      · have e : q = p := congrArg Prod.fst (Option.some.inj h)
        rw [← e]
        exact hq
      · refine walk_path k _ _ _ p r (fun e he => ?_) (fun z hz => ?_) h
        · rcases List.mem_append.mp he with y | y
          · unfold below at y
            obtain ⟨x, _, rfl⟩ := List.mem_map.mp y
            show (q ++ [x.1]).length ≤ 8
            rw [List.length_append]
            show q.length + 1 ≤ 8
            omega
          · exact hs e (List.mem_cons_of_mem _ y)
        · rcases addHoles_path q z _ _ _ hz with y | y
          · exact ht z y
          · rw [y]
            exact hq
theorem fault_path {d : PyData} {p : List Nat} {r : Res} (h : fault d = some (p, r)) : p.length ≤ 8 := walk_path 60 _ _ _ p r (fun e he => by rw [List.mem_singleton.mp he]; exact Nat.zero_le _) (fun q z => by cases z) h
/-! ### what may be shown -/
/-- all signs are signs -/
def StrC (s : Str) : Prop := ∀ c ∈ s.cps.toList, c < 16 ^ 8
mutual
inductive OkC : PyData → Prop
  | non : OkC .none
  | bl (b : Bool) : OkC (.bool b)
  | int (i : Int) : i.natAbs < 10 ^ 39 → OkC (.int i)
  | str (s : Str) : StrC s → OkC (.str s)
  | lst {xs : List PyData} : OkCs xs → OkC (.list xs)
  | tup {xs : List PyData} : OkCs xs → OkC (.tuple xs)
  | dic : OkC (.dict [])
inductive OkCs : List PyData → Prop
  | nil : OkCs []
  | cons {x : PyData} {r : List PyData} : OkC x → OkCs r → OkCs (x :: r)
end
theorem log_small {i : Int} (h : i.natAbs < 10 ^ 39) : i.natAbs.log2 < 1920 := by
  rcases Nat.eq_zero_or_pos i.natAbs with e | e
  · rw [e]
    decide
  · rw [Nat.log2_lt (by omega)]
    exact Nat.lt_of_lt_of_le h (by decide +kernel)
mutual
theorem OkC.show : ∀ {d : PyData}, OkC d → d.showable = true ∧ d.leavesShort 41 = true
  | _, .non => ⟨by rw [PyData.showable], by rw [PyData.leavesShort]⟩
  | _, .bl b => ⟨by rw [PyData.showable], by rw [PyData.leavesShort]⟩
  | _, .int i h => ⟨by rw [PyData.showable]; exact decide_eq_true (log_small h), by
      rw [PyData.leavesShort]
      refine decide_eq_true ?_
      show (Str.ofString (toString i)).length ≤ 41
      have h1 := int_text_length_le10 (k := 39) (by decide) h
      rw [PySem.ofString_length]
      omega⟩
  | _, .str s h => ⟨by rw [PyData.showable], by
      rw [PyData.leavesShort, List.all_eq_true]
      exact fun c hc => decide_eq_true (h c hc)⟩
  | _, .lst h => by
    obtain ⟨a, b⟩ := OkCs.show h
    exact ⟨by rw [PyData.showable]; exact a, by rw [PyData.leavesShort]; exact b⟩
  | _, .tup h => by
    obtain ⟨a, b⟩ := OkCs.show h
    exact ⟨by rw [PyData.showable]; exact a, by rw [PyData.leavesShort]; exact b⟩
  | _, .dic => ⟨by rw [PyData.showable, PyData.showableKv], by rw [PyData.leavesShort, PyData.leavesShortKv]⟩
theorem OkCs.show : ∀ {ds : List PyData}, OkCs ds → PyData.showableAll ds = true ∧ PyData.leavesShortAll 41 ds = true
  | _, .nil => ⟨by rw [PyData.showableAll], by rw [PyData.leavesShortAll]⟩
  | _, .cons a r => by
    obtain ⟨a1, a2⟩ := OkC.show a
    obtain ⟨b1, b2⟩ := OkCs.show r
    exact ⟨by rw [PyData.showableAll, a1, b1]; rfl, by rw [PyData.leavesShortAll, a2, b2]; rfl⟩
end
theorem ss_c {s : Str} (h : s ∈ SS) : StrC s := by
  have q := of_all (L := SS) (f := fun s => s.cps.toList.all fun c => decide (c < 16 ^ 8)) (by decide +kernel) h
  rw [List.all_eq_true] at q
  exact fun c hc => of_decide_eq_true (q c hc)
mutual
theorem lv_ok : ∀ {d : PyData}, lv d = true → OkC d
  | .none, _ => .non
  | .bool b, _ => .bl b
  | .int i, h => .int i (by
      have h' : (decide (i = 5) || decide (i = 10 ^ 30)) = true := h
      rw [Bool.or_eq_true, decide_eq_true_eq, decide_eq_true_eq] at h'
      rcases h' with rfl | rfl <;> decide +kernel)
  | .str s, h => .str s (ss_c (lv_str h))
  | .list xs, h => .lst (lvs_ok h)
  | .tuple xs, h => .tup (lvs_ok h)
  | .dict kvs, h => by
    have h' : kvs.isEmpty = true := h
    rw [List.isEmpty_iff.mp h']
    exact .dic
theorem lvs_ok : ∀ {ds : List PyData}, lvs ds = true → OkCs ds
  | [], _ => .nil
  | x :: r, h => by
    have h' : (lv x && lvs r) = true := h
    rw [Bool.and_eq_true] at h'
    exact .cons (lv_ok h'.1) (lvs_ok h'.2)
end
/-! ### what is told, what is due -/
noncomputable def outH (d : PyData) : PyData := .tuple ((srt (allHoles d)).map .str)
noncomputable def outP (d : PyData) : PyData := .tuple ((srt (allPre d)).map .str)
def outW (d : PyData) : PyData := .list ((elsOf d).map fun e => pathD e.1)
def badD (p : List Nat) (r : Res) : PyData := .tuple [.str "part", pathD p, .str r.str]
/-- what one call tells: F of a part, else where the fault is -/
def toldD (F : PyData → PyData) (d : PyData) : PyData := match fault d with
  | none => .list [F d]
  | some (p, r) => badD p r
noncomputable def heardD (d : PyData) : PyData := .list [toldD (fun x => x) d, toldD outH d, toldD outP d, toldD outW d]
/-- what repr may be asked of -/
structure Shw (d : PyData) : Prop where
  ok : OkC d
  b : d.bulk ≤ 300000
  d : d.depth ≤ 100
theorem Shw.len {d : PyData} (h : Shw d) : d.shown.length ≤ sizeLine := by
  have e := PyData.shown_le_bulk 41 (by decide) d h.ok.show.2
  have := h.b
  rw [sizeLine_eq]
  omega
theorem strsOk : ∀ {xs : List Str}, (∀ x ∈ xs, StrC x) → OkCs (xs.map .str)
  | [], _ => .nil
  | x :: r, h => .cons (.str x (h x (List.mem_cons_self ..))) (strsOk fun y hy => h y (List.mem_cons_of_mem _ hy))
theorem strsBulk {n : Nat} : ∀ {xs : List Str}, (∀ x ∈ xs, x.cps.size ≤ n) → PyData.bulkAll (xs.map .str) ≤ xs.length * (n + 1)
  | [], _ => by rw [List.map_nil, PyData.bulkAll]; exact Nat.zero_le _
  | x :: r, h => by
    rw [List.map_cons, bulk_cons, PyData.bulk, List.length_cons, Nat.add_mul, Nat.one_mul]
    have := strsBulk (n := n) (xs := r) fun y hy => h y (List.mem_cons_of_mem _ hy)
    have := h x (List.mem_cons_self ..)
    omega
theorem strsDepth : ∀ {xs : List Str}, PyData.depthAll (xs.map .str) = 0
  | [] => by rw [List.map_nil, PyData.depthAll]
  | x :: r => by
    rw [List.map_cons, depth_cons, PyData.depth, strsDepth (xs := r)]
    rfl
theorem intsOk : ∀ {p : List Nat}, (∀ n ∈ p, n < 10 ^ 39) → OkCs (p.map fun n => .int (n : Nat))
  | [], _ => .nil
  | x :: r, h => .cons (.int _ (by rw [Int.natAbs_natCast]; exact h x (List.mem_cons_self ..))) (intsOk fun y hy => h y (List.mem_cons_of_mem _ hy))
theorem intsBulk : ∀ {p : List Nat}, PyData.bulkAll (p.map fun n => PyData.int (n : Nat)) = p.length
  | [] => by rw [List.map_nil, PyData.bulkAll]; rfl
  | x :: r => by
    rw [List.map_cons, bulk_cons, PyData.bulk, intsBulk (p := r), List.length_cons]
    omega
theorem intsDepth : ∀ {p : List Nat}, PyData.depthAll (p.map fun n => PyData.int (n : Nat)) = 0
  | [] => by rw [List.map_nil, PyData.depthAll]
  | x :: r => by
    rw [List.map_cons, depth_cons, PyData.depth, intsDepth (p := r)]
    rfl
theorem bulk0 : PyData.bulkAll [] = 0 := by rw [PyData.bulkAll]
theorem depth0 : PyData.depthAll [] = 0 := by rw [PyData.depthAll]
theorem ss_size {s : Str} (h : s ∈ SS) : s.cps.size ≤ 21 := by
  have q := of_all (L := SS) (f := fun s => decide (s.cps.size ≤ 21)) (by decide +kernel) h
  exact of_decide_eq_true q
/-- a tuple of few texts of those -/
theorem shw_strs {xs : List Str} (h1 : xs.length < 64) (h2 : ∀ x ∈ xs, x ∈ SS) : OkC (.tuple (xs.map .str)) ∧ (PyData.tuple (xs.map .str)).bulk ≤ 1500 ∧ (PyData.tuple (xs.map .str)).depth ≤ 1 := by
  refine ⟨.tup (strsOk fun x hx => ss_c (h2 x hx)), ?_, ?_⟩
  · rw [bulkT]
    have := strsBulk (n := 21) fun x hx => ss_size (h2 x hx)
    omega
  · rw [depthT, strsDepth]
    exact Nat.le_refl _
theorem shw_path {p : List Nat} (h1 : p.length ≤ 8) (h2 : ∀ n ∈ p, n < 10 ^ 39) : OkC (pathD p) ∧ (pathD p).bulk ≤ 8 ∧ (pathD p).depth ≤ 1 := by
  unfold pathD
  refine ⟨.tup (intsOk h2), ?_, ?_⟩
  · rw [bulkT, intsBulk]
    exact h1
  · rw [depthT, intsDepth]
    exact Nat.le_refl _
theorem shw_paths : ∀ {ps : List (List Nat)}, (∀ p ∈ ps, p.length ≤ 8 ∧ ∀ n ∈ p, n < 10 ^ 39) → OkCs (ps.map pathD) ∧ PyData.bulkAll (ps.map pathD) ≤ ps.length * 9 ∧ PyData.depthAll (ps.map pathD) ≤ 1
  | [], _ => ⟨.nil, by rw [List.map_nil, bulk0]; exact Nat.zero_le _, by rw [List.map_nil, depth0]; exact Nat.zero_le _⟩
  | p :: r, h => by
    obtain ⟨a1, a2, a3⟩ := shw_paths (ps := r) fun q hq => h q (List.mem_cons_of_mem _ hq)
    obtain ⟨b1, b2⟩ := h p (List.mem_cons_self ..)
    obtain ⟨c1, c2, c3⟩ := shw_path b1 b2
    refine ⟨.cons c1 a1, ?_, ?_⟩
    · rw [List.map_cons, bulk_cons, List.length_cons, Nat.add_mul, Nat.one_mul]
      omega
    · rw [List.map_cons, depth_cons]
      omega
/-- numbers in what is told are small -/
def Ints (d : PyData) : Prop := (fault d = none → ∀ e ∈ elsOf d, ∀ n ∈ e.1, n < 10 ^ 39) ∧ ∀ p r, fault d = some (p, r) → ∀ n ∈ p, n < 10 ^ 39
theorem res_c (r : Res) : StrC r.str ∧ r.str.cps.size ≤ 20 := by
  cases r with
  | item i =>
    have q : ∀ i : Item, ((i.str.cps.toList.all fun c => decide (c < 16 ^ 8)) && decide (i.str.cps.size ≤ 20)) = true := fun i => by cases i <;> decide +kernel
    have h := q i
    rw [Bool.and_eq_true, List.all_eq_true, decide_eq_true_eq] at h
    exact ⟨fun c hc => of_decide_eq_true (h.1 c hc), h.2⟩
  | hole =>
    have h : ((HOL.cps.toList.all fun c => decide (c < 16 ^ 8)) && decide (HOL.cps.size ≤ 20)) = true := by decide +kernel
    rw [Bool.and_eq_true, List.all_eq_true, decide_eq_true_eq] at h
    exact ⟨fun c hc => of_decide_eq_true (h.1 c hc), h.2⟩
theorem part_c : StrC (Str.ofString "part") ∧ (Str.ofString "part").cps.size ≤ 4 := by
  have h : (((Str.ofString "part").cps.toList.all fun c => decide (c < 16 ^ 8)) && decide ((Str.ofString "part").cps.size ≤ 4)) = true := by decide +kernel
  rw [Bool.and_eq_true, List.all_eq_true, decide_eq_true_eq] at h
  exact ⟨fun c hc => of_decide_eq_true (h.1 c hc), h.2⟩
theorem shw_bad {p : List Nat} {r : Res} (h1 : p.length ≤ 8) (h2 : ∀ n ∈ p, n < 10 ^ 39) : OkC (badD p r) ∧ (badD p r).bulk ≤ 40 ∧ (badD p r).depth ≤ 2 := by
  obtain ⟨a1, a2, a3⟩ := shw_path h1 h2
  obtain ⟨b1, b2⟩ := res_c r
  obtain ⟨c1, c2⟩ := part_c
  unfold badD
  refine ⟨.tup (.cons (.str _ c1) (.cons a1 (.cons (.str _ b1) .nil))), ?_, ?_⟩
  · rw [bulkT, bulk_cons, bulk_cons, bulk_cons, bulk0, PyData.bulk, show (PyData.str r.str).bulk = r.str.cps.size by rw [PyData.bulk]]
    omega
  · rw [depthT, depth_cons, depth_cons, depth_cons, depth0, PyData.depth, show (PyData.str r.str).depth = 0 by rw [PyData.depth]]
    omega
theorem shw_four {a b c d : PyData} {n k : Nat} (h1 : OkC a ∧ a.bulk ≤ n ∧ a.depth ≤ k) (h2 : OkC b ∧ b.bulk ≤ n ∧ b.depth ≤ k) (h3 : OkC c ∧ c.bulk ≤ n ∧ c.depth ≤ k) (h4 : OkC d ∧ d.bulk ≤ n ∧ d.depth ≤ k) (hb : a.bulk + b.bulk + c.bulk + d.bulk + 4 ≤ 300000) (hk : k + 1 ≤ 100) : Shw (.list [a, b, c, d]) := by
  refine ⟨.lst (.cons h1.1 (.cons h2.1 (.cons h3.1 (.cons h4.1 .nil)))), ?_, ?_⟩
  · rw [bulkL, bulk_cons, bulk_cons, bulk_cons, bulk_cons, bulk0]
    omega
  · rw [depthL, depth_cons, depth_cons, depth_cons, depth_cons, depth0]
    omega
theorem shw_one {a : PyData} {n k : Nat} (h : OkC a ∧ a.bulk ≤ n ∧ a.depth ≤ k) : OkC (.list [a]) ∧ (PyData.list [a]).bulk ≤ n + 1 ∧ (PyData.list [a]).depth ≤ k + 1 := by
  refine ⟨.lst (.cons h.1 .nil), ?_, ?_⟩
  · rw [bulkL, bulk_cons, bulk0]
    omega
  · rw [depthL, depth_cons, depth0]
    omega
theorem shw_le {a : PyData} {n m k j : Nat} (h : OkC a ∧ a.bulk ≤ n ∧ a.depth ≤ k) (h1 : n ≤ m) (h2 : k ≤ j) : OkC a ∧ a.bulk ≤ m ∧ a.depth ≤ j := ⟨h.1, Nat.le_trans h.2.1 h1, Nat.le_trans h.2.2 h2⟩
/-- what the law makes: sizes as _law_right wants them -/
abbrev RightPre (d : PyData) : Prop := Sz 130000 60 d
theorem shw_self {d : PyData} (h : RightPre d) : Shw d := ⟨lv_ok h.l, by have := h.b; omega, by have := h.d; omega⟩
theorem shw_heard {d : PyData} (h : RightPre d) (hi : Ints d) : Shw (heardD d) := by
  unfold heardD toldD
  cases hf : fault d with
  | none =>
    show Shw (.list [.list [d], .list [outH d], .list [outP d], .list [outW d]])
    have a := shw_one (n := 130000) (k := 60) ⟨lv_ok h.l, h.b, h.d⟩
    have sh := srt_small (few_holes h.l hf)
    have sp := srt_small (few_pre h.l hf)
    have b := shw_one (shw_strs sh.1 fun x hx => holes_ss h.l hf x (sh.2 x hx))
    have c := shw_one (shw_strs sp.1 fun x hx => pre_ss h.l hf x (sp.2 x hx))
    have e : OkC (outW d) ∧ (outW d).bulk ≤ 600 ∧ (outW d).depth ≤ 2 := by
      obtain ⟨q1, q2, q3⟩ := shw_paths (ps := (elsOf d).map fun e => e.1) fun p hp => by
        obtain ⟨e, he, rfl⟩ := List.mem_map.mp hp
        exact ⟨Nat.le_of_lt (walk_items 60 _ (good_of hf) e he).2, hi.1 hf e he⟩
      rw [List.map_map] at q1 q2 q3
      have hl : (elsOf d).length ≤ 60 := walkL_len 60 _
      unfold outW
      refine ⟨.lst q1, ?_, ?_⟩
      · rw [bulkL]
        rw [List.length_map] at q2
        exact Nat.le_trans q2 (by omega)
      · rw [depthL]
        exact Nat.succ_le_succ q3
    have e := shw_one e
    have b1 : OkC (.list [outH d]) ∧ (PyData.list [outH d]).bulk ≤ 1500 + 1 ∧ (PyData.list [outH d]).depth ≤ 1 + 1 := b
    have c1 : OkC (.list [outP d]) ∧ (PyData.list [outP d]).bulk ≤ 1500 + 1 ∧ (PyData.list [outP d]).depth ≤ 1 + 1 := c
    have a2 := a.2.1
    have b2 := b1.2.1
    have c2 := c1.2.1
    have e2 := e.2.1
    refine shw_four (n := 130001) (k := 61) a (shw_le b1 (by omega) (by omega)) (shw_le c1 (by omega) (by omega)) (shw_le e (by omega) (by omega)) ?_ (by omega)
    omega
  | some pr =>
    obtain ⟨p, r⟩ := pr
    show Shw (.list [badD p r, badD p r, badD p r, badD p r])
    have a := shw_bad (r := r) (fault_path hf) (hi.2 p r hf)
    have a2 := a.2.1
    exact shw_four a a a a (by omega) (by omega)
end G
set_option maxHeartbeats 1000000
/-! _law_said(lambda: f(thing)) -/
namespace G
open PySem PySem.Spec PyProof.Rows L2 Evl LamX NdefX
/-- the promise of such a lambda, thing's value being vv -/
def spOut (C cc : Addr) (Pre : PyData → Prop) (Fo : PyData → PyData) (vv : V) : Sp := fun vs H Q E => vs = [] ∧ ∃ (B : Addr → Prop) (d : PyData), BOk B H ∧ ¬ B cc ∧ Den B H vv d ∧ (fault d = none → Pre d ∧ ∀ v H', Ex H H' → Den B H' v (Fo d) → Q v H') ∧ ∀ p r, fault d = some (p, r) → EBad C B H (pathD p) (.str r.str) E
section
variable {P : Program} {w : World} {K : PySem.W.Frag} {mg : Str → Option Value} {base : Heap} {C gb fI c1 c2 c3 c4 c6 c7 : Addr} {fd : FuncData}
theorem c_need_top (T : Txt K mg) (TB : BadX K mg C gb fI fd) : Cal P w K mg base (L2.CX P w) 7 "need_part" (spTop C (fun _ => True) fun d => d) := by
  obtain ⟨f, fd2, ps, F, r⟩ := c_need_part (P := P) (w := w) (base := base) T TB
  exact ⟨f, fd2, ps, (F.mono (by decide)).imp fun vs H Q E ⟨B, d, h1, h2, h3, h4⟩ => ⟨B, d, h1, h2, fun hf => (h3 hf).2, h4⟩, r⟩
theorem Den.dropC {cs : List (Addr × Obj × V)} {B : Addr → Prop} {H : Hp} (hc : HasC cs H) {v : V} {d : PyData} (h : Den B H v d) : Den B (G.dropC cs H) v d := h.dat fun b o hd e n => ⟨by
  rw [dropC_no (hc.out e fun v z => dat_cell hd _ _ z)]
  exact e, n⟩
theorem lam_out {k i : Nat} {f cc : Addr} {o : Obj} {vv : V} {F : NF} {e : Expr} {dV : Value} {N ps : List Str} {dus : List Value} {dvs : List V} {tr : Trk} {Pre : PyData → Prop} {Fo : PyData → PyData} (S : NScope N ps ["thing"] F.scope) (hf : (f, LmO f F e dV) ∈ tr) (hc : (F.c, CodeO F.c F.qual) ∈ tr) (hcc : (cc, CellO cc (o, vv)) ∈ tr) (hcl : F.cl = [(Str.ofString "thing", cc)])
    (hb : ∀ (s : Shared) (H : Hp) (doc pm ctv : Value), HOk P w H s.heap → Trkd tr H → BindsTo s (PySem.W.kdv_fn F.name F.qual F.params (.expr e) F.scope F.cl dV doc pm (.ref F.c) ctv) ⟨[], []⟩ (ps.zip dus)) (rd : Vals dvs dus) (hn : dus.length = ps.length) (hi : (startF N dvs [some vv])[i]? = some (some vv))
    (hbody : ∀ (A : Around) (outer : List Env) (s : Shared) (H : Hp) (E : XK), Room k (A.deeper (envF F f s.heap.objs.size)) → PE (ncx (L2.CX P w) P w K mg base N F f A outer s H E) e (tCall (spTop C Pre Fo) [] E (tCons (tVar i) tNil))) : LamOk P w K mg base (L2.CX P w) (k + 1) f tr (spOut C cc Pre Fo vv) := by
  refine (lamOk_of (n := 0) (cs := [(cc, o, vv)]) (ws := [some vv]) (te := fun E => tCall (spTop C Pre Fo) [] E (tCons (tVar i) tNil)) S hf hc (fun b v z => ?_) (fun y c z => ?_) (fun x y c z1 z2 => ?_) rfl (fun j y z => ?_) (fun s H doc pm ctv us h1 h2 h3 => ?_) rd (by omega) (fun outer s s' H E u HC hok nf h => cx_back HC hok nf h) hbody).imp fun vs H Q E t h => ?_
  · obtain ⟨rfl, rfl⟩ := one_look z
    exact hcc
  · rw [hcl] at z
    obtain ⟨_, rfl⟩ := one_lookS z
    exact ⟨(o, vv), by simp⟩
  · rw [hcl] at z1 z2
    rw [(one_lookS z1).1, (one_lookS z2).1]
  · cases j with
    | zero =>
      have e : ("thing" : Str) = y := by simpa using z
      subst e
      exact ⟨cc, (o, vv), by rw [hcl]; simp, rfl, by simp⟩
    | succ j => simp at z
  · match us, h3 with
    | [], _ => exact hb s H doc pm ctv h1 h2
  · obtain ⟨rfl, B, d, hB, ncc, dv, qn, qe⟩ := h
    have HC : HasC [(cc, o, vv)] H := fun b v z => by
      obtain ⟨rfl, rfl⟩ := one_look z
      exact t _ hcc
    refine ⟨rfl, vv, hi, B, d, bok_drop hB (fun b p z => by rw [(one_look z).1]; exact ncc), .cons (dv.dropC HC) .nil, fun hf => ⟨(qn hf).1, fun v H' x dz nc => (qn hf).2 v _ (ex_back HC x) (dz.backC nc)⟩, fun p r hf dd v u H' x hn nb hd dp di nc => ?_⟩
    refine qe p r hf dd v u _ (ex_back HC x) ?_ nb (backC_some nc hd) (dp.backC nc) (di.backC nc)
    cases z : [(cc, o, vv)].lookup dd with
    | none =>
      rw [dropC_no z] at hn
      exact hn
    | some q =>
      have := nc dd q z
      rw [hd] at this
      cases this
/-- what is new since H -/
def newIn (H H1 : Hp) : Addr → Prop := fun b => H b = none ∧ H1 b ≠ none
theorem said_do {f cc : Addr} {tr : Trk} {Pre : PyData → Prop} {Fo : PyData → PyData} {vv : V} {d : PyData} {H : Hp} {Q : VK} {E : XK} (L : LamOk P w K mg base (L2.CX P w) 8 f tr (spOut C cc Pre Fo vv)) (ht : Trkd tr H) (hcc : H cc ≠ none) (dv : Den NoB H vv d) (hpre : fault d = none → Pre d)
    (q : ∀ u H', Ex H H' → Den NoB H' u (toldD Fo d) → Q u H') : spSaid P w K mg base 8 C [.ref f] H Q E := by
  refine ⟨f, tr, _, fun H1 v H2 => fault d = none ∧ Den (newIn H H1) H2 v (Fo d), fun vp vi H2 => ∃ p r, fault d = some (p, r) ∧ Den NoB H2 vp (pathD p) ∧ Den NoB H2 vi (.str r.str), rfl, L, ht, ?_, ?_, ?_⟩
  · intro H1 x1 Q' E' hR hB
    refine ⟨rfl, newIn H H1, d, fun b z => z.2, fun z => hcc z.1, dv.keep' fun b o e _ => ⟨x1 b o e, fun z => by rw [z.1] at e; cases e⟩, fun hf => ⟨hpre hf, fun v H' x dz => hR v H' x ⟨hf, dz⟩⟩, fun p r hf dd v u H' x hn nb hd dp di => ?_⟩
    refine hB dd _ v u H' x hd ?_ ?_ ⟨p, r, hf, dp.noB, di.noB⟩
    · rfl
    · rfl
  · rintro H1 v H2 l H3 x1 hl x2 ⟨hf, dz⟩ hl3 keep hn
    have e : toldD Fo d = .list [Fo d] := by
      unfold toldD
      rw [hf]
    have nl : ∀ b o, H2 b = some o → ¬ newIn H H1 b → b ≠ l := fun b o _ n z => n (by
      rw [z]
      exact ⟨hn, by rw [hl]; simp⟩)
    refine q (.ref l) H3 (fun b o eb => keep b o (fun z => by rw [z, hn] at eb; cases eb) ((x1.trans x2) b o eb)) ?_
    rw [e]
    exact .lst (by show 1 ≤ 100000; decide) hl3 id (.cons (dz.keep' fun b o eb n => ⟨keep b o (nl b o eb n) eb, id⟩) .nil)
  · rintro vp vi H2 t H3 x1 ⟨p, r, hf, dp, di⟩ x2 ht3
    have e : toldD Fo d = badD p r := by
      unfold toldD
      rw [hf]
    refine q (.ref t) H3 (x1.trans x2) ?_
    rw [e]
    exact .tup (by show 3 ≤ 100000; decide) ht3 id (.cons (.str _ (by decide +kernel)) (.cons (dp.ex x2) (.cons (di.ex x2) .nil)))
end
/-! ### in the def that asks -/
/-- an expression whose value is d, tables may grow -/
def EvM (T : List (Addr × Str)) (te : TE) (σ : L2.St) (H : Hp) (d : PyData) : Prop := Tabs T H → ∀ Q : VK, (∀ u H', Mkd T H H' → Den NoB H' u d → Q u H') → te σ H Q
section
variable {X : Cx} {T : List (Addr × Str)} {params : Arguments} {scope : Scope} {body : Expr} {C : Addr} {Pre : PyData → Prop} {Fo : PyData → PyData} {vv : V} {d : PyData} {σ : L2.St} {H : Hp}
theorem told_back {cc : Addr} {o : Obj} {vv : V} {H1 : Hp} {Q : VK} {Fo : PyData → PyData} {d : PyData} (M : Mkd T H H1) (nC : H1 cc = none) (q : ∀ u H', Mkd T H H' → Den NoB H' u (toldD Fo d) → Q u H') :
    ∀ u H', Ex (backC [(cc, o, vv)] H1) H' → Den NoB H' u (toldD Fo d) → Q u (dropC [(cc, o, vv)] H') := fun u H' x du => by
  have hone : ∀ b p, [(cc, o, vv)].lookup b = some p → H1 b = none := fun b p z => by
    obtain ⟨rfl, _⟩ := one_look z
    exact nC
  exact q u _ (mkd_drop M hone x) (du.dropC fun b p z => x b _ (backC_yes z))
theorem m_saidL (hσ : σ[0]? = some (some vv)) (dv : Den NoB H vv d) (hpre : fault d = none → Pre d) (hcl : ∀ cc c', X.env.cells.lookup (Str.ofString "thing") = some cc → (lamF X params scope c').cl = [(Str.ofString "thing", cc)]) (S : NScope ["thing"] [] ["thing"] scope)
    (hb : ∀ c' doc pm ctv, bindArgs (PySem.W.kdv_fn (lamF X params scope c').name (lamF X params scope c').qual (lamF X params scope c').params (.expr body) (lamF X params scope c').scope (lamF X params scope c').cl .none doc pm (.ref (lamF X params scope c').c) ctv) ⟨[], []⟩ = pure [])
    (hbody : ∀ (f c' : Addr) (A : Around) (outer : List Env) (s : Shared) (H : Hp) (E : XK), Room 7 (A.deeper (envF (lamF X params scope c') f s.heap.objs.size)) → PE (ncx (L2.CX X.prog X.w) X.prog X.w X.K X.mg X.base ["thing"] (lamF X params scope c') f A outer s H E) body (tCall (spTop C Pre Fo) [] E (tCons (tVar 0) tNil))) :
    EvM T (tCallC X (spSaid X.prog X.w X.K X.mg X.base 8 C) "thing" 0 (tCons (tLam X T params scope body) tNil)) σ H (toldD Fo d) := fun hT Q q => ⟨vv, hσ, fun cc hcc => ⟨hT, fun f c' H1 M n e1 k1 => fun nC o => by
  have hone : ∀ b p, [(cc, o, vv)].lookup b = some p → H1 b = none := fun b p z => by
    obtain ⟨rfl, _⟩ := one_look z
    exact nC
  have hcell : backC [(cc, o, vv)] H1 cc = some (CellO cc (o, vv)) := backC_yes (by simp)
  refine said_do (tr := [(f, LmO f (lamF X params scope c') body .none), (c', CodeO c' (X.env.qual ++ "<lambda>")), (cc, CellO cc (o, vv))]) (lam_out (k := 7) (i := 0) (o := o) (ps := []) (dus := []) (dvs := []) S (.head _) (.tail _ (.head _)) (.tail _ (.tail _ (.head _))) (hcl cc c' hcc) (fun s H doc pm ctv _ _ => BindsTo.of_eq (hb c' doc pm ctv)) .nil rfl rfl (hbody f c')) (fun p hp => ?_) (by rw [hcell]; simp) ((dv.mkd M).backC hone) hpre (told_back M nC q)
  rcases List.mem_cons.mp hp with rfl | hp
  · exact backC_some hone e1
  · rcases List.mem_cons.mp hp with rfl | hp
    · exact backC_some hone k1
    · rw [List.mem_singleton.mp hp]
      exact hcell⟩⟩
theorem m_saidD {i : Int} (hσ : σ[0]? = some (some vv)) (dv : Den NoB H vv d) (hpre : fault d = none → Pre d) (hcl : ∀ cc c', X.env.cells.lookup (Str.ofString "thing") = some cc → (lamF X params scope c').cl = [(Str.ofString "thing", cc)]) (S : NScope ["at", "thing"] ["at"] ["thing"] scope)
    (hb : ∀ c' (t : Addr) (tk : Tok) (s : Shared) doc pm ctv, s.heap.get? t = some (PySem.W.kdv_tup [.int i tk]) → BindsTo s (PySem.W.kdv_fn (lamF X params scope c').name (lamF X params scope c').qual (lamF X params scope c').params (.expr body) (lamF X params scope c').scope (lamF X params scope c').cl (.ref t) doc pm (.ref (lamF X params scope c').c) ctv) ⟨[], []⟩ [(Str.ofString "at", .int i tk)])
    (hbody : ∀ (f c' : Addr) (A : Around) (outer : List Env) (s : Shared) (H : Hp) (E : XK), Room 7 (A.deeper (envF (lamF X params scope c') f s.heap.objs.size)) → PE (ncx (L2.CX X.prog X.w) X.prog X.w X.K X.mg X.base ["at", "thing"] (lamF X params scope c') f A outer s H E) body (tCall (spTop C Pre Fo) [] E (tCons (tVar 1) tNil))) :
    EvM T (tCallC X (spSaid X.prog X.w X.K X.mg X.base 8 C) "thing" 0 (tCons (tLamD X T params scope body i) tNil)) σ H (toldD Fo d) := fun hT Q q => ⟨vv, hσ, fun cc hcc => ⟨hT, fun f c' t tk H1 M n nt et e1 k1 => fun nC o => by
  have hone : ∀ b p, [(cc, o, vv)].lookup b = some p → H1 b = none := fun b p z => by
    obtain ⟨rfl, _⟩ := one_look z
    exact nC
  have hcell : backC [(cc, o, vv)] H1 cc = some (CellO cc (o, vv)) := backC_yes (by simp)
  refine said_do (tr := [(f, LmO f (lamF X params scope c') body (.ref t)), (c', CodeO c' (X.env.qual ++ "<lambda>")), (cc, CellO cc (o, vv)), (t, DefO t [.int i tk])]) (lam_out (k := 7) (i := 1) (o := o) (ps := ["at"]) (dus := [.int i tk]) (dvs := [.int i]) S (.head _) (.tail _ (.head _)) (.tail _ (.tail _ (.head _))) (hcl cc c' hcc) (fun s H doc pm ctv h1 h2 => hb c' t tk s doc pm ctv (defO_at h1 (h2 _ (.tail _ (.tail _ (.tail _ (.head _))))))) (.cons ⟨tk, rfl⟩ .nil) rfl rfl (hbody f c')) (fun p hp => ?_) (by rw [hcell]; simp) ((dv.mkd M).backC hone) hpre (told_back M nC q)
  rcases List.mem_cons.mp hp with rfl | hp
  · exact backC_some hone e1
  · rcases List.mem_cons.mp hp with rfl | hp
    · exact backC_some hone k1
    · rcases List.mem_cons.mp hp with rfl | hp
      · exact hcell
      · rw [List.mem_singleton.mp hp]
        exact backC_some hone et⟩⟩
end
end G
set_option maxHeartbeats 1000000
/-! _law_right -/
namespace G
open PySem PySem.Spec PyProof.Rows L2 Evl LamX NdefX
section
variable {K : PySem.W.Frag} {T : List (Addr × Str)} {B : Addr → Prop} {σ : L2.St} {H : Hp} {te ta tb : TE} {d e : PyData} {ds es : List PyData} {D : Ends} {tw : TS}
theorem EvD.m (h : EvD B te σ H d) : EvM T te σ H d := fun hT Q q => h H (Ex.refl H) Q fun v H' x dv => q v H' (Mkd.of hT x) dv.noB
theorem em_lst2 (h1 : EvM T ta σ H d) (h2 : ∀ H1, Mkd T H H1 → EvM T tb σ H1 e) : EvM T (tLst (tCons ta (tCons tb tNil))) σ H (.list [d, e]) := fun hT Q q => h1 hT _ fun v H1 M1 dv => h2 H1 M1 M1.tb _ fun u H2 M2 du =>
  ⟨by show 2 ≤ sizeLine; decide, fun p hp => q (.ref p) _ ((M1.trans M2).new hp) (.lst (by show 2 ≤ 100000; decide) upd_same id (.cons ((dv.mkd M2).ex (Ex.new hp)) (.cons (du.ex (Ex.new hp)) .nil)))⟩
theorem em_cat (h1 : EvM T ta σ H (.list ds)) (h2 : ∀ H1, Mkd T H H1 → EvM T tb σ H1 (.list es)) (hl : ds.length + es.length ≤ 100000) : EvM T (tOp rCat ta tb) σ H (.list (ds ++ es)) := fun hT Q q => h1 hT _ fun v H1 M1 dv => h2 H1 M1 M1.tb _ fun u H2 M2 du => by
  have dv2 := dv.mkd M2
  obtain ⟨a, xs, rfl, hxa, na, ra⟩ := dv2.lst'
  obtain ⟨b, ys, rfl, hyb, nb, rb⟩ := du.lst'
  have la := ra.length
  have lb := rb.length
  refine ⟨a, b, xs, ys, rfl, rfl, hxa, hyb, szP (by omega), fun p hp => ?_⟩
  exact q _ _ ((M1.trans M2).new hp) (.lst (by rw [List.length_append]; omega) upd_same id ((ra.ex (Ex.new hp)).append (rb.ex (Ex.new hp))))
theorem em_asg {i : Nat} (h : EvM T te σ H d) (hT : Tabs T H) (k : ∀ v H1, Mkd T H H1 → Den NoB H1 v d → tw D (σ.set i (some v)) H1) : tSeq (tAsg te (gName i)) tw D σ H := h hT _ k
theorem m_callD {g : PyData → PyData} {Q : VK} {E : XK} (hB : BOk B H) (h : EvD B te σ H d) (ht : Tabs T H) (k : ∀ u H', Mkd T H H' → Den NoB H' u (g d) → Q u H') : tCall (spLD T g) [] E (tCons te tNil) σ H Q := h H (Ex.refl H) _ fun v H1 x1 dv => ⟨B, v, d, rfl, hB.ex x1, dv, ht.ext x1, fun u H' m => k u H' ((Mkd.of ht x1).trans m)⟩
/-- repr(e) -/
theorem ev_repr (h : EvD B te σ H d) (hs : Shw d) : Ev (tCB rRepr (tCons te tNil)) σ H (.str d.shown) := fun H1 x Q q => h H1 x _ fun v H2 x2 dv => ⟨B, v, d, rfl, dv, hs.ok.show.1, hs.d, hs.len, q H2 x2⟩
theorem et_neR {s : Str} (h1 : Ev ta σ H (.str s)) (h2 : Ev tb σ H (.str s)) : EvT (tTest (tOp rNe ta tb)) σ H false := fun H1 x Q q => h1 H1 x _ fun H2 x2 => h2 H2 (x.trans x2) _ fun H3 x3 => ⟨rfl, false, by rw [decide_eq_true rfl]; rfl, q H3 (x2.trans x3)⟩
/-- xs * k -/
theorem vd_rep {k : Nat} (hB : BOk B H) (h : EvD B ta σ H (.list ds)) (hl : ds.length * k ≤ 100000) (hk : k ≤ 1000) : EvD B (tOp rRep ta (tC (.int (k : Nat)))) σ H (.list (List.replicate k ds).flatten) := fun H1 x Q q => h H1 x _ fun v H2 x2 dv => by
  obtain ⟨a, xs, rfl, ha, na, ra⟩ := dv.lst'
  have la := ra.length
  have hrep : ∀ j, Dens B H2 (List.replicate j xs).flatten (List.replicate j ds).flatten := fun j => by
    induction j with
    | zero => exact .nil
    | succ j ih =>
      rw [List.replicate_succ, List.replicate_succ, List.flatten_cons, List.flatten_cons]
      exact ra.append ih
  have hlen := (hrep k).length
  have hlen2 : (List.replicate k ds).flatten.length = ds.length * k := by
    rw [List.length_flatten, List.map_replicate, List.sum_replicate_nat, Nat.mul_comm]
  refine ⟨a, (k : Nat), xs, rfl, rfl, ha, by omega, by omega, ?_, fun p hp => ?_⟩
  · rw [Int.toNat_natCast, la]
    exact szP (by omega)
  · rw [Int.toNat_natCast]
    exact q _ _ (x2.trans (Ex.new hp)) (.lst (by omega) upd_same ((hB.ex (x.trans x2)).new hp) ((hrep k).ex (Ex.new hp)))
theorem path_ints {v : V} {p : List Nat} (h : Den B H v (pathD p)) : ∀ n ∈ p, n < 10 ^ 39 := fun n hn => by
  obtain ⟨a, xs, _, _, _, r⟩ := h.tup'
  obtain ⟨i, hi⟩ := List.getElem?_of_mem hn
  obtain ⟨z, _, dz⟩ := r.get (i := i) (d := .int (n : Nat)) (by rw [List.getElem?_map, hi]; rfl)
  have := dz.lenI
  rw [Int.natAbs_natCast] at this
  exact this
theorem den_ints {v : V} (h : Den B H v (heardD d)) : Ints d := by
  unfold heardD toldD at h
  refine ⟨fun hf e he n hn => ?_, fun p r hf => ?_⟩
  · rw [hf] at h
    obtain ⟨a, xs, _, _, _, r1⟩ := h.lst'
    obtain ⟨z, _, dz⟩ := r1.get (i := 3) (d := .list [outW d]) rfl
    obtain ⟨a, xs, _, _, _, r2⟩ := dz.lst'
    obtain ⟨z, _, dz⟩ := r2.get (i := 0) (d := outW d) rfl
    obtain ⟨a, xs, _, _, _, r3⟩ := dz.lst'
    obtain ⟨i, hi⟩ := List.getElem?_of_mem he
    obtain ⟨z, _, dz⟩ := r3.get (i := i) (d := pathD e.1) (by rw [List.getElem?_map, hi]; rfl)
    exact path_ints dz n hn
  · rw [hf] at h
    obtain ⟨a, xs, _, _, _, r1⟩ := h.lst'
    obtain ⟨z, _, dz⟩ := r1.get (i := 0) (d := badD p r) rfl
    obtain ⟨a, xs, _, _, _, r2⟩ := dz.tup'
    obtain ⟨z, _, dz⟩ := r2.get (i := 1) (d := pathD p) rfl
    exact path_ints dz
end
/-- the promise of _law_right -/
def spLR (T : List (Addr × Str)) : Sp := fun vs H Q _ => ∃ (B : Addr → Prop) (v : V) (d : PyData), vs = [v] ∧ BOk B H ∧ Den B H v d ∧ RightPre d ∧ Tabs T H ∧ ∀ H', Mkd T H H' → Q (.bl true) H'
section
variable {P : Program} {w : World} {K : PySem.W.Frag} {mg : Str → Option Value} {base : Heap} {C gb fI c1 c2 c3 c4 c6 c7 : Addr} {fd : FuncData} {Tb : List (Addr × Str)}
theorem l_right (T : Txt K mg) (EX : ErrX K mg C gb c1 c2 c3 c4 c6 c7) (BX : BadX K mg C gb fI fd) (hPl : PySem.W.findIn K (.ref C) "place" = some none) (D1 : DefL K mg base "_law_are_declarations" s_law_are_declarations p_law_are_declarations Tb) (D2 : DefL K mg base "_law_are_attributes" s_law_are_attributes p_law_are_attributes Tb) (D3 : DefL K mg base "_law_right" s_law_right p_law_right Tb)
    (hS : ∃ o, base.get? sysModules = some o) : CalG P w K mg base 10 "_law_right" (spLR Tb) := by
  refine calG_L (k := 9) D3 sc_law_right (fun vs H Q E h => by obtain ⟨B, v, d, rfl, _⟩ := h; rfl) ?_
  rintro f c Pt A outer s H vs Q E tb hT hu hG hr ⟨B, v, d, rfl, hB, dv, hp, ht, q⟩
  have nd := sc_law_right.nd
  have hun : (A.deeper (envOfC "_law_right" (defScope s_law_right) s.heap.objs.size f (.ref c))).units + 110 < cLine := by
    have := hr.un
    omega
  have LS := l_said (P := P) (w := w) (base := base) 8 T EX BX hPl
  refine ⟨_, pss_cons (ps_par (i := 1) (j := 2) (by rfl) nd rfl rfl (by decide) rfl rfl (pa_cons (pe_cal (l_fault T D1 D2) (hr.mono (by decide)) (pa_cons (pv 0) pa_nil)) (pa_cons (pe_callB (call_reprD hG hun hS) (by rfl) T.b_repr (by decide +kernel) (pa_cons (pv 0) pa_nil)) pa_nil)) (by rfl))
    (pss_cons (ps_set (i := 3) nd rfl (Or.inl rfl) (pe_op op_rep (pe_lc (own := [("path", 4), ("item", 5)]) (g := gTup K 2 (gCons (gName 4) (gCons (gName 5) gNil))) (tt := tYes) (te := tTup (tCons (tC (.str "part")) (tCons (tVar 4) (tCons (tVar 5) tNil)))) (by rfl) nd (pi_list (pv 1)) (blkOk_by (own := [("path", 4), ("item", 5)]) (N := n_law_right) (sc := defScope s_law_right) (by decide +kernel))
        (fun _ _ _ _ _ => pg_tup (by rfl) (pgs_cons (pg_name (i := 4) nd rfl (Or.inl rfl)) (pgs_cons (pg_name (i := 5) nd rfl (Or.inl rfl)) pgs_nil))) (fun _ _ _ _ _ => pts_nil) (fun _ _ _ _ _ => pe_tup (pa_cons pe_str (pa_cons (pv 4) (pa_cons (pv 5) pa_nil))))) pe_int))
    (pss_cons (ps_if (pt_cmpR (op_eqE (hu0 hr)) (pv 1) (pe_lst pa_nil) (nomark _)) (pss_one (ps_set (i := 3) nd rfl (Or.inl rfl) (pe_op op_cat (pe_lst (pa_cons (pe_lst (pa_cons (pv 0) pa_nil)) pa_nil))
        (pe_lc (own := [("one", 6)]) (g := gName 6) (tt := tYes) (te := tLst (tCons (tVar 6) tNil)) (by rfl) nd (pi_tup (pe_cal (l_names_in T) (hr.mono (by decide)) (pa_cons (pv 0) pa_nil))) (blkOk_by (own := [("one", 6)]) (N := n_law_right) (sc := defScope s_law_right) (by decide +kernel))
          (fun _ _ _ _ _ => pg_name (i := 6) nd rfl (Or.inl rfl)) (fun _ _ _ _ _ => pts_nil) (fun _ _ _ _ _ => pe_lst (pa_cons (pv 6) pa_nil)))))) pss_nil)
    (pss_cons (ps_for PassesOwn.never rfl (pi_range1 (by rfl) T.b_range (pa_cons pe_int pa_nil)) (pg_name (i := 7) nd rfl (Or.inl rfl))
      (pss_cons (ps_set (i := 8) nd rfl (Or.inl rfl) (pe_lst (pa_cons (pe_callC (j := 0) (y := "thing") LS hr (pa_cons (pe_lam tb rfl hT hu (fun ok => free_by ok rfl) rfl) pa_nil) rfl rfl rfl) (pa_cons (pe_callC (j := 0) (y := "thing") LS hr (pa_cons (pe_lamD tb rfl hT hu (fun ok => free_by ok rfl) rfl rfl) pa_nil) rfl rfl rfl) pa_nil))))
      (pss_cons (ps_set (i := 8) nd rfl (Or.inl rfl) (pe_op op_cat (pv 8) (pe_lst (pa_cons (pe_callC (j := 0) (y := "thing") LS hr (pa_cons (pe_lam tb rfl hT hu (fun ok => free_by ok rfl) rfl) pa_nil) rfl rfl rfl) (pa_cons (pe_callC (j := 0) (y := "thing") LS hr (pa_cons (pe_lamD tb rfl hT hu (fun ok => free_by ok rfl) rfl rfl) pa_nil) rfl rfl rfl) pa_nil)))))
      (pss_one (ps_if (pw_or (pt_cmpR op_ne (pe_callB (call_reprD hG hun hS) (by rfl) T.b_repr (by decide +kernel) (pa_cons (pv 8) pa_nil)) (pe_callB (call_reprD hG hun hS) (by rfl) T.b_repr (by decide +kernel) (pa_cons (pv 3) pa_nil)) (nomark _))
        (pw_or1 (pt_cmpR op_ne (pe_callB (call_reprD hG hun hS) (by rfl) T.b_repr (by decide +kernel) (pa_cons (pv 0) pa_nil)) (pv 2) (nomark _)))).pt (pss_one (ps_ret pe_bl)) pss_nil)))))
    (pss_one (ps_ret pe_bl))))), ?_⟩
  have hrt : ({ nx := fun _ H' => Q .non H', rt := Q } : Ends).rt = Q := rfl
  generalize ({ nx := fun _ H' => Q .non H', rt := Q } : Ends) = D at hrt ⊢
  refine m_callD hB (vd_var rfl dv) ht fun u1 H1 M1 d1 => ?_
  have sd : Shw d := shw_self hp
  refine ev_repr (B := NoB) (σ := [some v, none, none, none, none, none, none, none, none]) (H := H1) (vd_var (i := 0) rfl (dv.mkd M1)) sd H1 (Ex.refl H1) _ fun H2 x2 => ⟨_, _, rfl, ?_⟩
  have M2 := M1.ex' x2
  have d2 := d1.ex x2
  have dv2 := dv.mkd M2
  dsimp only
  show tSeq _ _ D [some v, some u1, some (.str d.shown), none, none, none, none, none, none] H2
  -- what is due
  refine z_asg (B := NoB) (d := match fault d with
    | none => .list []
    | some (p, r) => .list [badD p r, badD p r, badD p r, badD p r]) ?_ fun u3 H3 x3 d3 => ?_
  · cases hf : fault d with
    | none =>
      have d2' : Den NoB H2 u1 (.list []) := by
        have := d2
        rw [hf] at this
        exact this
      exact vd_is (vd_rep (k := 4) noB (vd_lcP (σ := [some v, some u1, some (.str d.shown), none, none, none, none, none, none]) (vs := [4, 5]) noB (src_lst (vd_var rfl d2')) (fun _ => true) (fun p => .tuple [.str "part", kid p 0, kid p 1]) (by decide) (fun x hx => by cases hx) (fun _ _ => rfl) (fun _ H1 _ _ _ _ _ _ _ _ H2 e Q q => q H2 (Ex.refl H2))
        (fun B' H1 up a b hm _ x y dx dy => by cases hm)) (by decide) (by decide)) rfl
    | some pr =>
      obtain ⟨p, r⟩ := pr
      have d2' : Den NoB H2 u1 (.list [faultE p r.str]) := by
        have := d2
        rw [hf] at this
        exact this
      exact vd_is (vd_rep (k := 4) noB (vd_lcP (σ := [some v, some u1, some (.str d.shown), none, none, none, none, none, none]) (vs := [4, 5]) noB (src_lst (vd_var rfl d2')) (fun _ => true) (fun p => .tuple [.str "part", kid p 0, kid p 1]) (by show 1 ≤ 100000; decide) (fun x hx => ⟨_, _, List.mem_singleton.mp hx⟩) (fun _ _ => rfl) (fun _ H1 _ _ _ _ _ _ _ _ H2 e Q q => q H2 (Ex.refl H2))
        (fun B' H1 up a b hm _ x y dx dy => vd_tup up.ok (va_cons vd_str (va_cons (vd_var rfl dx) (va_cons (vd_var rfl dy) va_nil))) (by show 3 ≤ 100000; decide))) (by show 1 * 4 ≤ 100000; decide) (by decide)) rfl
  have M3 := M2.ex' x3
  have dv3 := dv.mkd M3
  refine z_ifAsg (B := NoB) (b := (fault d).isNone) (d := heardD d) ?_ (fun hb => ?_) (fun hb => ?_) fun u4 H4 x4 d4 => ?_
  · cases hf : fault d with
    | none =>
      have d3' : Den NoB H3 u1 (.list []) := by
        have := d2.ex x3
        rw [hf] at this
        exact this
      exact vt_test (vd_cmpE (neg := false) (vd_var rfl d3'))
    | some pr =>
      obtain ⟨p, r⟩ := pr
      have d3' : Den NoB H3 u1 (.list [faultE p r.str]) := by
        have := d2.ex x3
        rw [hf] at this
        exact this
      exact vt_test (vd_cmpE (neg := false) (vd_var rfl d3'))
  · have hf : fault d = none := Option.isNone_iff_eq_none.mp hb
    have e : heardD d = .list ([.list [d]] ++ [PyData.list [outH d], .list [outP d], .list [outW d]]) := by
      unfold heardD toldD
      rw [hf]
      rfl
    rw [e]
    refine vd_catL (vd_lst noB (va_cons (vd_lst noB (va_cons (vd_var rfl dv3) va_nil) (by show 1 ≤ 100000; decide)) va_nil) (by show 1 ≤ 100000; decide)) (vd_is (vd_lcA (σ := [some v, some u1, some (.str d.shown), some u3, none, none, none, none, none]) (vs := [6]) noB (src_tup (vd_call (F := namesD) d noB (va_cons (vd_var rfl dv3) va_nil) (right_pre hp.l hf))) (fun x => .list [x]) (by show 3 ≤ 100000; decide) (fun _ => rfl) (fun B' H1 up x hx y dy => vd_lst up.ok (va_cons (vd_var rfl dy) va_nil) (by show 1 ≤ 100000; decide))) rfl) noB (by show 1 + 3 ≤ 100000; decide)
  · refine ⟨u3, rfl, ?_⟩
    cases hf : fault d with
    | none => rw [hf] at hb; cases hb
    | some pr =>
      obtain ⟨p, r⟩ := pr
      have e : heardD d = .list [badD p r, badD p r, badD p r, badD p r] := by
        unfold heardD toldD
        rw [hf]
      rw [e]
      have := d3
      rw [hf] at this
      exact this
  have M4 := M3.ex' x4
  have dv4 := dv.mkd M4
  have sh : Shw (heardD d) := shw_heard hp (den_ints d4)
  show tSeq _ _ D [some v, some u1, some (.str d.shown), some u4, none, none, none, none, none] H4
  -- twice
  have hcell : ∀ cc : Addr, (cxOf CX0 P w K mg base n_law_right "_law_right" (defScope s_law_right) f (.ref c) A outer s H E).nox.env.cells.lookup (Str.ofString "thing") = some cc → s.heap.objs.size + 1 = cc := fun cc h => Option.some.inj h
  refine ⟨2, rfl, by decide, by decide, for_range (lo := 0) (n := 2) (fun i σ' H' => ∃ y7 y8, σ' = [some v, some u1, some (.str d.shown), some u4, none, none, none, y7, y8] ∧ Mkd Tb H4 H') ⟨none, none, rfl, Mkd.of M4.tb (Ex.refl H4)⟩ ?_ ?_⟩
  · rintro i σ' H5 hi ⟨y7, y8, rfl, M5⟩
    refine g_name' ?_
    dsimp only [List.set]
    generalize hD1 : Ends.mk _ _ _ _ = D1
    have hnx : ∀ H6, Mkd Tb H4 H6 → ∀ y z, D1.nx [some v, some u1, some (.str d.shown), some u4, none, none, none, y, z] H6 := fun H6 M y z => by
      rw [← hD1]
      exact ⟨y, z, rfl, M⟩
    clear hD1
    have dv5 : Den NoB H5 v d := dv4.mkd M5
    have pnP : ∀ E' : XK, E' = E' := fun _ => rfl
    refine em_asg (T := Tb) (em_lst2 (m_saidL (Fo := fun x => x) (Pre := fun _ => True) rfl dv5 (fun _ => trivial) (fun cc c' h => by rw [← hcell cc h]; rfl) (nscope_by rfl) (fun c' doc pm ctv => rfl)
        (fun f c' A outer s H E hr => pe_calX (c_need_top T BX) hr (passes_call (takes_of rfl rfl rfl rfl) (fun _ _ _ _ h => h)) (pa_cons (pv 0) pa_nil)))
      (fun H6 M6 => m_saidD (Fo := outH) (Pre := fun d => Few (allHoles d) ∧ (allHoles d).length < 100000) rfl (dv5.mkd M6) (fun hf => ⟨few_holes hp.l hf, by have := holes_small hp.l hf; omega⟩) (fun cc c' h => by rw [← hcell cc h]; rfl) (nscope_by rfl) (fun c' t tk s doc pm ctv h => BindsTo.of_defaults rfl h rfl rfl rfl)
        (fun f c' A outer s H E hr => pe_calX (c_holes T BX) hr (passes_call (takes_of rfl rfl rfl rfl) (fun _ _ _ _ h => h)) (pa_cons (pv 1) pa_nil)))) M5.tb fun v8 H6 M6 d8 => ?_
    dsimp only [List.set]
    have dv6 := dv5.mkd M6
    refine em_asg (T := Tb) (em_cat (EvD.m (vd_var (i := 8) rfl d8)) (fun H7 M7 => em_lst2 (m_saidL (Fo := outP) (Pre := fun d => Few (allPre d) ∧ (allPre d).length < 100000) rfl (dv6.mkd M7) (fun hf => ⟨few_pre hp.l hf, (right_pre hp.l hf).2.2.1⟩) (fun cc c' h => by rw [← hcell cc h]; rfl) (nscope_by rfl) (fun c' doc pm ctv => rfl)
        (fun f c' A outer s H E hr => pe_calX (c_prefixes T BX) hr (passes_call (takes_of rfl rfl rfl rfl) (fun _ _ _ _ h => h)) (pa_cons (pv 0) pa_nil)))
      (fun H8 M8 => m_saidD (Fo := outW) (Pre := fun _ => True) rfl ((dv6.mkd M7).mkd M8) (fun hf => trivial) (fun cc c' h => by rw [← hcell cc h]; rfl) (nscope_by rfl) (fun c' t tk s doc pm ctv h => BindsTo.of_defaults rfl h rfl rfl rfl)
        (fun f c' A outer s H E hr => pe_calX (c_paths T BX) hr (passes_call (takes_of rfl rfl rfl rfl) (fun _ _ _ _ h => h)) (pa_cons (pv 1) pa_nil)))) (by show 2 + 2 ≤ 100000; decide)) M6.tb fun v9 H7 M7 d9 => ?_
    dsimp only [List.set]
    have d9' : Den NoB H7 v9 (heardD d) := d9
    have M67 := M6.trans M7
    have du7 : Den NoB H7 u4 (heardD d) := (d4.mkd M5).mkd M67
    have dv7 := dv5.mkd M67
    refine s_if (b := false || false) (et_or (et_neR (ev_repr (vd_var (i := 8) rfl d9') sh) (ev_repr (vd_var (i := 3) rfl du7) sh)) fun _ => et_neR (ev_repr (vd_var (i := 0) rfl dv7) sd) (ev_var (i := 2) rfl)) (fun hb => by cases hb) fun _ H8 x8 => hnx H8 ((M5.trans M67).ex' x8) _ _
  · rintro σ' H5 ⟨y7, y8, rfl, M5⟩
    show D.rt (.bl true) H5
    rw [hrt]
    exact q H5 (M4.trans M5)
end
end G
set_option maxHeartbeats 1000000
/-! law -/
namespace G
open PySem PySem.Spec PyProof.Rows L2 Evl LamX NdefX
/-! ### draws and tables at once: what stays is the data -/
/-- data stay -/
structure Zr (ds la : Addr) (H H' : Hp) : Prop where
  den : ∀ v d, Den (StB ds la) H v d → Den (StB ds la) H' v d
/-- the law's state -/
structure ZS (T : List (Addr × Str)) (ds ca la : Addr) (n : Nat) (H : Hp) : Prop where
  st : StAt ds ca la n H
  tb : Tabs T H
section
variable {T : List (Addr × Str)} {ds ca la : Addr} {n n' c c1 c2 : Nat} {H H1 H2 H' : Hp} {K : PySem.W.Frag} {σ : L2.St} {te ta tb : TE} {tx : TA} {t u : TT} {φ ψ : PyData → Prop} {d : PyData} {D : Ends} {tw tu : TS} {a b : Bool}
theorem Zr.refl (H : Hp) : Zr ds la H H := ⟨fun _ _ h => h⟩
theorem Zr.trans (a : Zr ds la H H1) (b : Zr ds la H1 H2) : Zr ds la H H2 := ⟨fun v d h => b.den v d (a.den v d h)⟩
theorem Zr.kp (k : Kp (StB ds la) H H') : Zr ds la H H' := ⟨fun v d h => h.kp k⟩
theorem Zr.ex (x : Ex H H') : Zr ds la H H' := ⟨fun v d h => h.ex x⟩
theorem Zr.mk' (m : Mkd T H H') : Zr ds la H H' := ⟨fun v d h => h.mkdB m⟩
theorem StAt.bn (S : StAt ds ca la n H) : BN (StB ds la) H := by
  obtain ⟨cs, ls, _, hl, _⟩ := S.ex
  refine ⟨fun b hb z => ?_, fun b xs hb z => ?_⟩
  · rcases hb with rfl | rfl
    · rw [S.st] at z; cases z
    · rw [hl] at z; cases z
  · rcases hb with rfl | rfl
    · rw [S.st] at z; cases z
    · rw [hl] at z; cases z
theorem StAt.mk' (S : StAt ds ca la n H) (m : Mkd T H H') : StAt ds ca la n H' := by
  obtain ⟨cs, ls, hc, hl, e, p⟩ := S.ex
  exact ⟨m.ex ds _ S.st (fun ps z => by cases z), ⟨cs, ls, m.ex ca _ hc (fun ps z => by cases z), m.ex la _ hl (fun ps z => by cases z), e, p⟩, S.n1, S.n2, S.n3⟩
theorem ZS.ex (S : ZS T ds ca la n H) (x : Ex H H') : ZS T ds ca la n H' := ⟨S.st.exx x, S.tb.ext x⟩
theorem ZS.mk' (S : ZS T ds ca la n H) (m : Mkd T H H') : ZS T ds ca la n H' := ⟨S.st.mk' m, m.tb⟩
theorem ZS.kp (S : ZS T ds ca la n H) (k : Kp (StB ds la) H H') (S' : StAt ds ca la n' H') : ZS T ds ca la n' H' := by
  refine ⟨S', fun p hp => ?_⟩
  obtain ⟨cs, ls, _, hl, _⟩ := S.st.ex
  have nb : ∀ b o, H b = some o → (∀ xs, o ≠ .lst xs) → (∀ kvs, o ≠ .dK kvs) → H' b = some o := fun b o e n1 n2 => k.keep b o e fun z => by
    rcases z with rfl | rfl
    · rw [S.st.st] at e; exact n2 _ (Option.some.inj e).symm
    · rw [hl] at e; exact n1 _ (Option.some.inj e).symm
  obtain ⟨ps, a1, a2, a3⟩ := S.tb p hp
  refine ⟨ps, nb _ _ a1 (fun _ z => by cases z) (fun _ z => by cases z), a2, fun pos cv z => ?_⟩
  obtain ⟨c0, b1, b2⟩ := a3 pos cv z
  exact ⟨c0, b1, nb _ _ b2 (fun _ z => by unfold CodeO at z; cases z) (fun _ z => by unfold CodeO at z; cases z)⟩
/-- te draws at most c numbers, tables may grow, its value is a datum of φ -/
def EvZ (T : List (Addr × Str)) (ds ca la : Addr) (c : Nat) (te : TE) (σ : L2.St) (H : Hp) (φ : PyData → Prop) : Prop := ∀ n H1, Zr ds la H H1 → ZS T ds ca la n H1 → n + c ≤ 100000000 → ∀ Q : VK,
  (∀ v d n' H2, Zr ds la H1 H2 → ZS T ds ca la n' H2 → n' ≤ n + c → φ d → Den (StB ds la) H2 v d → Q v H2) → te σ H1 Q
def EvZA (T : List (Addr × Str)) (ds ca la : Addr) (c : Nat) (ta : TA) (σ : L2.St) (H : Hp) (φ : List PyData → Prop) : Prop := ∀ n H1, Zr ds la H H1 → ZS T ds ca la n H1 → n + c ≤ 100000000 → ∀ Q : List V → Hp → Prop,
  (∀ vs es n' H2, Zr ds la H1 H2 → ZS T ds ca la n' H2 → n' ≤ n + c → φ es → Dens (StB ds la) H2 vs es → Q vs H2) → ta σ H1 Q
def EvTZ (T : List (Addr × Str)) (ds ca la : Addr) (c : Nat) (t : TT) (σ : L2.St) (H : Hp) (b : Bool) : Prop := ∀ n H1, Zr ds la H H1 → ZS T ds ca la n H1 → n + c ≤ 100000000 → ∀ Q : Bool → Hp → Prop,
  (∀ n' H2, Zr ds la H1 H2 → ZS T ds ca la n' H2 → n' ≤ n + c → Q b H2) → t σ H1 Q
theorem EvZ.go (h : EvZ T ds ca la c te σ H φ) (z : Zr ds la H H') : EvZ T ds ca la c te σ H' φ := fun n H1 z1 => h n H1 (z.trans z1)
theorem ez_pure (h : ∀ H1, Zr ds la H H1 → BOk (StB ds la) H1 → EvD (StB ds la) te σ H1 d) : EvZ T ds ca la 0 te σ H (fun e => e = d) := fun n H1 z S hn Q q => h H1 z S.st.bn.ok H1 (Ex.refl H1) Q fun v H2 x dv => q v d n H2 (.ex x) (S.ex x) (Nat.le_refl _) rfl dv
theorem ez_var {i : Nat} {v : V} (hσ : σ[i]? = some (some v)) (dv : Den (StB ds la) H v d) : EvZ T ds ca la 0 (tVar i) σ H (fun e => e = d) := ez_pure fun H1 z B => vd_var hσ (z.den _ _ dv)
theorem ez_str {s : Str} (h : s.length ≤ 1000 := by decide +kernel) : EvZ T ds ca la 0 (tC (.str s)) σ H (fun e => e = .str s) := ez_pure fun H1 z B => vd_str h
theorem ez_imp (h : EvZ T ds ca la c te σ H φ) (hp : ∀ d, φ d → ψ d) : EvZ T ds ca la c te σ H ψ := fun n H1 z S hn Q q => h n H1 z S hn Q fun v d n' H2 z2 S2 hn2 hd dv => q v d n' H2 z2 S2 hn2 (hp d hd) dv
theorem Dens.zr {vs : List V} {es : List PyData} (z : Zr ds la H H') (h : Dens (StB ds la) H vs es) : Dens (StB ds la) H' vs es := by
  induction vs generalizing es with
  | nil => cases h; exact .nil
  | cons v r ih => cases h with
    | cons a t => exact .cons (z.den _ _ a) (ih t)
/-- a def that draws -/
theorem ez_call {α : Type} {arg : α → List PyData} {Pre : α → Prop} {Φ : α → PyData → Prop} {i : Nat} {E : XK} (x : α) (hσ : σ[i]? = some (some (.ref ds))) (h : ∀ H1, Zr ds la H H1 → EvAD (StB ds la) tx σ H1 (arg x)) (hp : Pre x) :
    EvZ T ds ca la c (tCall (spS c arg Pre Φ) [] E (tCons (tVar i) tx)) σ H (Φ x) := fun n H1 z S hn Q q => ⟨_, hσ, h H1 z H1 (Ex.refl H1) _ fun ws H2 x2 dv =>
  ⟨StB ds la, ds, ca, la, n, x, ws, by rw [List.append_nil], (S.ex x2).st.bn, fun b hb => hb, (S.ex x2).st, hn, dv, hp, fun v d n' H3 k3 S3 hn3 hd dv => q v d n' H3 ((Zr.ex x2).trans (.kp k3)) ((S.ex x2).kp k3 S3) hn3 hd dv⟩⟩
theorem ez_nil : EvZA T ds ca la 0 tNil σ H (fun es => es = []) := fun n H1 z S hn Q q => q [] [] n H1 (Zr.refl H1) S (Nat.le_refl _) rfl .nil
theorem ez_cons {χ : List PyData → Prop} (h : EvZ T ds ca la c1 te σ H φ) (r : EvZA T ds ca la c2 tx σ H χ) : EvZA T ds ca la (c1 + c2) (tCons te tx) σ H (fun es => ∃ e r, es = e :: r ∧ φ e ∧ χ r) := fun n H1 z S hn Q q =>
  h n H1 z S (by omega) _ fun v d n1 H2 z2 S2 hn2 hd dv => r n1 H2 (z.trans z2) S2 (by omega) _ fun vs es n2 H3 z3 S3 hn3 he des => q (v :: vs) (d :: es) n2 H3 (z2.trans z3) S3 (by omega) ⟨d, es, rfl, hd, he⟩ (.cons (z3.den _ _ dv) des)
theorem ez_tup {χ : List PyData → Prop} (h : EvZA T ds ca la c tx σ H χ) (hl : ∀ es, χ es → es.length ≤ 100000) : EvZ T ds ca la c (tTup tx) σ H (fun d => ∃ es, d = .tuple es ∧ χ es) := fun n H1 z S hn Q q => h n H1 z S hn _ fun vs es n' H2 z2 S2 hn2 he des =>
  ⟨by rw [des.length]; exact sz_of (hl es he), fun p hp => q (.ref p) (.tuple es) n' _ (z2.trans (.ex (Ex.new hp))) (S2.ex (Ex.new hp)) hn2 ⟨es, rfl, he⟩ (.tup (by rw [des.length]; exact hl es he) upd_same (S2.st.bn.ok.new hp) (des.ex (Ex.new hp)))⟩
/-! tests -/
theorem tz_not (h : EvTZ T ds ca la c t σ H b) : EvTZ T ds ca la c (tNot t) σ H (!b) := fun n H1 z S hn Q q => h n H1 z S hn _ q
theorem tz_or (h1 : EvTZ T ds ca la c1 t σ H a) (h2 : a = false → EvTZ T ds ca la c2 u σ H b) : EvTZ T ds ca la (c1 + c2) (tOr t u) σ H (a || b) := fun n H1 z S hn Q q => h1 n H1 z S (by omega) _ fun n1 H2 z2 S2 hn2 => by
  cases a with
  | true => exact iteT (q n1 H2 z2 S2 (by omega))
  | false => exact iteF (h2 rfl n1 H2 (z.trans z2) S2 (by omega) Q fun n2 H3 z3 S3 hn3 => q n2 H3 (z2.trans z3) S3 (by omega))
/-- _law_right(e) -/
theorem tz_right {E : XK} (h : EvZ T ds ca la c te σ H φ) (hp : ∀ d, φ d → RightPre d) : EvTZ T ds ca la c (tB (tCall (spLR T) [] E (tCons te tNil))) σ H true := fun n H1 z S hn Q q => h n H1 z S hn _ fun v d n' H2 z2 S2 hn2 hd dv =>
  ⟨StB ds la, v, d, rfl, S2.st.bn.ok, dv, hp d hd, S2.tb, fun H3 m => ⟨true, rfl, q n' H3 (z2.trans (.mk' m)) (S2.mk' m) hn2⟩⟩
/-- _law_fault(e) != [] -/
theorem tz_fault {E : XK} (h : EvZ T ds ca la c te σ H φ) (hp : ∀ d, φ d → fault d = none) : EvTZ T ds ca la c (tTest (tOp (rCmpE K true) (tCall (spLD T fun d => faultD (fault d)) [] E (tCons te tNil)) (tLst tNil))) σ H false := fun n H1 z S hn Q q => h n H1 z S hn _ fun v d n' H2 z2 S2 hn2 hd dv =>
  ⟨StB ds la, v, d, rfl, S2.st.bn.ok, dv, S2.tb, fun u H3 m du => by
    have du' : Den NoB H3 u (faultD (fault d)) := du
    rw [hp d hd] at du'
    obtain ⟨a, xs, rfl, ha, _, r⟩ := Den.lst' du'
    cases r
    exact ⟨by show 0 ≤ sizeLine; decide, fun p hpn => ⟨a, p, [], rfl, rfl, .inl ⟨SqL.of (Ex.new hpn a _ ha), SqL.of upd_same⟩, false, rfl, q n' _ ((z2.trans (.mk' m)).trans (.ex (Ex.new hpn))) ((S2.mk' m).ex (Ex.new hpn)) hn2⟩⟩⟩
/-! statements -/
theorem zz_asg {i : Nat} (h : EvZ T ds ca la c te σ H φ) (S : ZS T ds ca la n H) (hn : n + c ≤ 100000000) (k : ∀ v d n' H1, Zr ds la H H1 → ZS T ds ca la n' H1 → n' ≤ n + c → φ d → Den (StB ds la) H1 v d → tw D (σ.set i (some v)) H1) : tSeq (tAsg te (gName i)) tw D σ H := h n H (Zr.refl H) S hn _ k
theorem zz_if (h : EvTZ T ds ca la c t σ H false) (S : ZS T ds ca la n H) (hn : n + c ≤ 100000000) (k : ∀ n' H1, Zr ds la H H1 → ZS T ds ca la n' H1 → n' ≤ n + c → tw D σ H1) : tSeq (tIfS t tu tNext) tw D σ H := h n H (Zr.refl H) S hn _ fun n' H1 z S1 hn1 => iteF (k n' H1 z S1 hn1)
theorem zz_ifE (h : EvTZ T ds ca la c t σ H false) (S : ZS T ds ca la n H) (hn : n + c ≤ 100000000) (k : ∀ n' H1, Zr ds la H H1 → ZS T ds ca la n' H1 → n' ≤ n + c → D.nx σ H1) : tIfS t tu tNext D σ H := h n H (Zr.refl H) S hn _ fun n' H1 z S1 hn1 => iteF (k n' H1 z S1 hn1)
end
/-- law's promise -/
def spLaw (K : PySem.W.Frag) (T : List (Addr × Str)) : Sp := fun vs H Q _ => ∃ (a : Addr) (ns : List Int), vs = [.ref a] ∧ SqL K H a (ns.map V.int) ∧ ns.length ≤ 63 ∧ Tabs T H ∧ ∀ H', Q (.bl true) H'
section
variable {P : Program} {w : World} {K : PySem.W.Frag} {mg : Str → Option Value} {base : Heap} {C gb fI c1 c2 c3 c4 c6 c7 : Addr} {fd : FuncData} {Tb : List (Addr × Str)}
theorem l_law (T : Txt K mg) (EX : ErrX K mg C gb c1 c2 c3 c4 c6 c7) (BX : BadX K mg C gb fI fd) (hPl : PySem.W.findIn K (.ref C) "place" = some none) (D1 : DefL K mg base "_law_are_declarations" s_law_are_declarations p_law_are_declarations Tb) (D2 : DefL K mg base "_law_are_attributes" s_law_are_attributes p_law_are_attributes Tb) (D3 : DefL K mg base "_law_right" s_law_right p_law_right Tb)
    (hS : ∃ o, base.get? sysModules = some o) {f : Addr} {fdl : FuncData} (FL : Fun K "law" "law" slaw f fdl) : FnG P w K mg base CX0 32 f fdl plaw (spLaw K Tb) := by
  refine fng_fn (k := 31) FL sclaw (fun vs H Q E h => by obtain ⟨a, ns, rfl, _⟩ := h; rfl) ?_
  rintro cdv A outer s H vs Q E hG hr ⟨a, ns, rfl, hq, hl, ht, q⟩
  have nd := sclaw.nd
  have LR := l_right (P := P) (w := w) (base := base) T EX BX hPl D1 D2 D3 hS
  have RS := r_spoilt (P := P) (w := w) (base := base) T 26 (by decide)
  have RO := r_odd (P := P) (w := w) (base := base) T
  refine ⟨_, pss_cons (ps_set (i := 1) nd rfl (Or.inl rfl) (pe_cal (r_begin T) (hr.mono (by decide)) (pa_cons (pv 0) pa_nil)))
    (pss_cons (ps_for PassesOwn.never rfl (pi_range1 (by rfl) T.b_range (pa_cons (pe_op op_add pe_int (pe_callB (call_min2 rfl) (by rfl) T.b_min (by decide +kernel) (pa_cons pe_int (pa_cons (e_len T (pv 0)) pa_nil)))) pa_nil)) (pg_name (i := 2) nd rfl (Or.inl rfl))
      (pss_cons (ps_set (i := 3) nd rfl (Or.inl rfl) (pe_cal (r_grown T) (hr.mono (by decide)) (pa_cons (pv 1) pa_nil)))
      (pss_cons (ps_if (pw_or (pt_cmpR (op_neE (hu0 hr)) (pe_cal (l_fault T D1 D2) (hr.mono (by decide)) (pa_cons (pv 3) pa_nil)) (pe_lst pa_nil) (nomark _)) (pw_or1 (pt_not (pt_val (pe_calG LR hG (hr.mono (by decide)) (pa_cons (pv 3) pa_nil)))))).pt (pss_one (ps_ret pe_bl)) pss_nil)
      (pss_cons (ps_for PassesOwn.never rfl (pi_range1 (by rfl) T.b_range (pa_cons pe_int pa_nil)) (pg_name (i := 4) nd rfl (Or.inl rfl))
        (pss_cons (ps_set (i := 5) nd rfl (Or.inl rfl) (pe_cal RS hr (pa_cons (pv 1) (pa_cons (pv 3) pa_nil))))
        (pss_one (ps_if (pw_or (pt_not (pt_val (pe_calG LR hG (hr.mono (by decide)) (pa_cons (pv 5) pa_nil)))) (pw_or1 (pt_not (pt_val (pe_calG LR hG (hr.mono (by decide)) (pa_cons (pe_cal RS hr (pa_cons (pv 1) (pa_cons (pv 5) pa_nil))) pa_nil)))))).pt (pss_one (ps_ret pe_bl)) pss_nil))))
      (pss_cons (ps_set (i := 6) nd rfl (Or.inl rfl) (pe_tup (pa_cons pe_str (pa_cons (pe_tup (pa_cons pe_str (pa_cons pe_str pa_nil))) (pa_cons (pe_tup pa_nil) (pa_cons (pe_tup pa_nil) (pa_cons (pe_tup (pa_cons (pv 3) (pa_cons pe_str (pa_cons (pe_cal RS hr (pa_cons (pv 1) (pa_cons (pv 3) pa_nil))) (pa_cons (pe_cal RO (hr.mono (by decide)) (pa_cons (pv 1) pa_nil)) pa_nil))))) pa_nil)))))))
      (pss_one (ps_if (pw_or (pt_not (pt_val (pe_calG LR hG (hr.mono (by decide)) (pa_cons (pv 6) pa_nil)))) (pw_or1 (pt_not (pt_val (pe_calG LR hG (hr.mono (by decide)) (pa_cons (pe_cal RO (hr.mono (by decide)) (pa_cons (pv 1) pa_nil)) pa_nil)))))).pt (pss_one (ps_ret pe_bl)) pss_nil)))))))
    (pss_one (ps_ret pe_bl))), ?_⟩
  have hrt : ({ nx := fun _ H' => Q .non H', rt := Q } : Ends).rt = Q := rfl
  generalize ({ nx := fun _ H' => Q .non H', rt := Q } : Ends) = D at hrt ⊢
  refine ⟨_, rfl, a, ns, by rfl, hq, by omega, fun ds ca la H1 x1 hds hca hla S1 => ?_⟩
  refine g_name' ?_
  dsimp only
  have Z1 : ZS Tb ds ca la 0 H1 := ⟨S1, ht.ext x1⟩
  have hq1 : SqL K H1 a (ns.map V.int) := ex_l x1 hq
  have min2 : ∃ r : Nat, r ≤ 6 ∧ (3 : Int) + (if ((ns.map V.int).length : Int) < 3 then ((ns.map V.int).length : Int) else 3) = (r : Nat) := by
    split
    · exact ⟨3 + (ns.map V.int).length, by omega, by omega⟩
    · exact ⟨6, by omega, by omega⟩
  obtain ⟨r, hr6, er⟩ := min2
  refine ⟨_, rfl, .inl ⟨a, _, rfl, .inl hq1, 3, _, rfl, 3, _, rfl, rfl, _, rfl, ?_, ?_, ?_⟩⟩
  · rw [er]; omega
  · rw [er]; omega
  rw [er, Int.toNat_natCast]
  have costs : cSp 26 = 79 := rfl
  refine for_range (lo := 0) (n := r) (fun i σ' H' => ∃ y2 y3 y4 y5 y6 n, σ' = [some (.ref a), some (.ref ds), y2, y3, y4, y5, y6] ∧ ZS Tb ds ca la n H' ∧ n ≤ i * 10000) ⟨none, none, none, none, none, 0, rfl, Z1, Nat.zero_le _⟩ ?_ ?_
  · rintro i σ' H2 hi ⟨y2, y3, y4, y5, y6, n, rfl, S2, hn2⟩
    refine g_name' ?_
    dsimp only [List.set]
    generalize hD1 : Ends.mk _ _ _ _ = D1
    have hnx : ∀ (H3 : Hp) (n' : Nat), ZS Tb ds ca la n' H3 → n' ≤ n + 10000 → ∀ y2 y3 y4 y5 y6, D1.nx [some (.ref a), some (.ref ds), y2, y3, y4, y5, y6] H3 := fun H3 n' S hn y2 y3 y4 y5 y6 => by
      rw [← hD1]
      exact ⟨y2, y3, y4, y5, y6, n', rfl, S, by rw [Nat.add_mul, Nat.one_mul]; omega⟩
    clear hD1
    have hi6 : i * 10000 ≤ 60000 := by omega
    refine zz_asg (ez_call (α := Unit) (arg := fun _ => []) (Pre := fun _ => True) (Φ := fun _ d => GrownD d) () rfl (fun H3 z => va_nil) trivial) S2 (by omega) fun vp part n3 H3 z3 S3 hn3 gr dp => ?_
    dsimp only [List.set]
    have grR : RightPre part := gr.sz.le (by decide) (by decide)
    refine zz_if (tz_or (a := false) (b := false) (c1 := 0) (c2 := 0) (tz_fault (ez_var rfl dp) (fun d e => by rw [e]; exact gr.ok)) fun _ => tz_not (tz_right (ez_var rfl dp) (fun d e => by rw [e]; exact grR))) S3 (by omega) fun n4 H4 z4 S4 hn4 => ?_
    have spl : ∀ {d : PyData} {vd : V} {i : Nat} {σ : L2.St} {H : Hp}, σ[1]? = some (some (.ref ds)) → σ[i]? = some (some vd) → Den (StB ds la) H vd d → d.depth < 26 → d.bulk ≤ 90000 → EvZ Tb ds ca la (cSp 26) (tCall (spS (cSp 26) (fun (d : PyData) => [d]) (fun d => d.depth < 26 ∧ d.bulk ≤ 90000) SpD) [] E0 (tCons (tVar 1) (tCons (tVar i) tNil))) σ H (SpD d) := fun {d vd i σ H} h1 h2 hd hde hbu =>
      ez_call (α := PyData) (arg := fun d => [d]) (Pre := fun d => d.depth < 26 ∧ d.bulk ≤ 90000) (Φ := SpD) d h1 (fun H3 z => va_cons (vd_var h2 (z.den _ _ hd)) va_nil) ⟨hde, hbu⟩
    have dp4 := z4.den _ _ dp
    have gl := gr.sz.l
    have gb := gr.sz.b
    have gd := gr.sz.d
    have sp1 : ∀ e, SpD part e → lv e = true ∧ e.bulk ≤ 60200 ∧ e.depth ≤ 24 := fun e h => ⟨h.l gl, by have := h.b; omega, by have := h.d; omega⟩
    have six : ∀ {D' : Ends} {tw : TS}, (∀ n6 H6 y4 y5, Zr ds la H4 H6 → ZS Tb ds ca la n6 H6 → n6 ≤ n4 + 1000 → tw D' [some (.ref a), some (.ref ds), some (.int ((0 : Int) + (i : Nat))), some vp, y4, y5, y6] H6) →
      tSeq (tFor (iRng1 (tCons (tC (.int 6)) tNil)) (gName 4) (tSeq (tAsg (tCall (spS (cSp 26) (fun (d : PyData) => [d]) (fun d => d.depth < 26 ∧ d.bulk ≤ 90000) SpD) [] E0 (tCons (tVar 1) (tCons (tVar 3) tNil))) (gName 5))
        (tIfS (tOr (tNot (tB (tCall (spLR Tb) [] E0 (tCons (tVar 5) tNil)))) (tNot (tB (tCall (spLR Tb) [] E0 (tCons (tCall (spS (cSp 26) (fun (d : PyData) => [d]) (fun d => d.depth < 26 ∧ d.bulk ≤ 90000) SpD) [] E0 (tCons (tVar 1) (tCons (tVar 5) tNil))) tNil))))) (tRet (tC (.bl false))) tNext))) tw D' [some (.ref a), some (.ref ds), some (.int ((0 : Int) + (i : Nat))), some vp, y4, y5, y6] H4 := fun {D' tw} fin => by
      refine ⟨6, rfl, by decide, by decide, for_range (lo := 0) (n := 6) (fun j σ' H' => ∃ y4 y5 n', σ' = [some (.ref a), some (.ref ds), some (.int ((0 : Int) + (i : Nat))), some vp, y4, y5, y6] ∧ Zr ds la H4 H' ∧ ZS Tb ds ca la n' H' ∧ n' ≤ n4 + j * 160) ⟨y4, y5, n4, rfl, Zr.refl _, S4, Nat.le_refl _⟩ ?_ ?_⟩
      · rintro j σ' H5 hj ⟨y4, y5, n5, rfl, z5, S5, hn5⟩
        refine g_name' ?_
        dsimp only [List.set]
        refine zz_asg (spl rfl rfl (z5.den _ _ dp4) (by omega) (by omega)) S5 (by omega) fun vt thing n6 H6 z6 S6 hn6 ht dt => ?_
        dsimp only [List.set]
        obtain ⟨t1, t2, t3⟩ := sp1 thing ht
        refine zz_ifE (tz_or (a := false) (b := false) (c1 := 0) (c2 := cSp 26) (tz_not (tz_right (ez_var rfl dt) (fun d e => by rw [e]; exact ⟨t1, by omega, by omega⟩))) fun _ => tz_not (tz_right (spl rfl rfl dt (by omega) (by omega)) (fun d h => ⟨h.l t1, by have := h.b; omega, by have := h.d; omega⟩))) S6 (by omega) fun n7 H7 z7 S7 hn7 => ?_
        exact ⟨_, _, n7, rfl, (z5.trans z6).trans z7, S7, by rw [Nat.add_mul]; omega⟩
      · rintro σ' H5 ⟨y4, y5, n5, rfl, z5, S5, hn5⟩
        exact fin n5 H5 y4 y5 z5 S5 (by omega)
    refine six fun n6 H6 y4 y5 z6 S6 hn6 => ?_
    clear six
    have dp6 := z6.den _ _ dp4
    refine zz_asg (c := 0 + (0 + (0 + (0 + ((0 + (0 + (cSp 26 + (1 + 0)))) + 0))))) (φ := RightPre) ?_ S6 (by omega) fun vo one n7 H7 z7 S7 hn7 hone done => ?_
    · refine ez_imp (ez_tup (ez_cons ez_str (ez_cons (ez_pure (d := .tuple [.str "", .str "a"]) fun H7 z B => vd_tup B (va_cons vd_str (va_cons vd_str va_nil)) (by show 2 ≤ 100000; decide)) (ez_cons (ez_pure (d := .tuple []) fun H7 z B => vd_tup B va_nil (by show 0 ≤ 100000; decide)) (ez_cons (ez_pure (d := .tuple []) fun H7 z B => vd_tup B va_nil (by show 0 ≤ 100000; decide))
        (ez_cons (ez_tup (ez_cons (ez_var rfl dp6) (ez_cons ez_str (ez_cons (spl rfl rfl dp6 (by omega) (by omega)) (ez_cons (ez_call (α := Unit) (arg := fun _ => []) (Pre := fun _ => True) (Φ := fun _ d => OddD d) () rfl (fun H3 z => va_nil) trivial) ez_nil)))) ?_) ez_nil))))) ?_) ?_
      · rintro es ⟨e1, r1, rfl, _, e2, r2, rfl, _, e3, r3, rfl, _, e4, r4, rfl, _, rfl⟩
        show 4 ≤ 100000
        decide
      · rintro es ⟨e1, r1, rfl, _, e2, r2, rfl, _, e3, r3, rfl, _, e4, r4, rfl, _, e5, r5, rfl, _, rfl⟩
        show 5 ≤ 100000
        decide
      · rintro d ⟨es, rfl, e1, r1, rfl, rfl, e2, r2, rfl, rfl, e3, r3, rfl, rfl, e4, r4, rfl, rfl, e5, r5, rfl, ⟨es2, rfl, f1, s1, rfl, rfl, f2, s2, rfl, rfl, f3, s3, rfl, h3, f4, s4, rfl, h4, rfl⟩, rfl⟩
        obtain ⟨t1, t2, t3⟩ := sp1 f3 h3
        have i3 : Sz 60200 40 f3 := ⟨t1, t2, by omega⟩
        have inner := (Szs.cons (gr.sz.le (Nat.le_refl _) (show 18 ≤ 40 by decide)) (Szs.cons (sz_str (s := "t") (n := 1) (by decide +kernel) (by decide +kernel)) (Szs.cons i3 (Szs.cons ((l_odd f4 h4).le (Nat.le_refl _) (show 6 ≤ 40 by decide)) Szs.nil)))).tup
        have nm : Sz 4 41 (.tuple [.str "", .str "a"]) := (Szs.cons (k := 40) (sz_str (s := "") (n := 0) (by decide +kernel) (by decide +kernel)) (Szs.cons (sz_str (s := "a") (n := 1) (by decide +kernel) (by decide +kernel)) Szs.nil)).tup.le (by decide) (Nat.le_refl _)
        have mt : Sz 0 41 (.tuple []) := (Szs.nil (k := 40)).tup
        exact (Szs.cons (sz_str (s := "element") (n := 7) (by decide +kernel) (by decide +kernel)) (Szs.cons nm (Szs.cons mt (Szs.cons mt (Szs.cons inner Szs.nil))))).tup.le (by decide) (by decide)
    dsimp only [List.set]
    refine zz_ifE (tz_or (a := false) (b := false) (c1 := 0) (c2 := 1) (tz_not (tz_right (ez_var rfl done) (fun d e => by rw [e]; exact hone))) fun _ => tz_not (tz_right (ez_call (α := Unit) (arg := fun _ => []) (Pre := fun _ => True) (Φ := fun _ d => OddD d) () rfl (fun H3 z => va_nil) trivial) (fun d h => (l_odd d h).le (by decide) (by decide)))) S7 (by omega) fun n8 H8 z8 S8 hn8 => ?_
    exact hnx H8 n8 S8 (by omega) _ _ _ _ _
  · rintro σ' H2 ⟨y2, y3, y4, y5, y6, n, rfl, S2, hn2⟩
    show D.rt (.bl true) H2
    rw [hrt]
    exact q H2
end
end G
set_option maxHeartbeats 4000000
/-! the defs as data, the facts that the head is asked for, its run -/
namespace G
open PySem PySem.Spec PyProof.Rows L2
def d_BadPart__init__ : He.DefD := ⟨(("BadPart", some "__init__") : Str × Option Str), "__init__", "BadPart.__init__", defArgs sBadPart, defBody sBadPart, defScope sBadPart, [], []⟩
def d_is_of : He.DefD := ⟨(("is_of", none) : Str × Option Str), "is_of", "is_of", defArgs sis_of, defBody sis_of, defScope sis_of, [], []⟩
def d_is_prefix : He.DefD := ⟨(("is_prefix", none) : Str × Option Str), "is_prefix", "is_prefix", defArgs sis_prefix, defBody sis_prefix, defScope sis_prefix, [], []⟩
def d_is_local : He.DefD := ⟨(("is_local", none) : Str × Option Str), "is_local", "is_local", defArgs sis_local, defBody sis_local, defScope sis_local, [], []⟩
def d_is_address : He.DefD := ⟨(("is_address", none) : Str × Option Str), "is_address", "is_address", defArgs sis_address, defBody sis_address, defScope sis_address, [], []⟩
def d_is_name : He.DefD := ⟨(("is_name", none) : Str × Option Str), "is_name", "is_name", defArgs sis_name, defBody sis_name, defScope sis_name, [], []⟩
def d_is_plain : He.DefD := ⟨(("is_plain", none) : Str × Option Str), "is_plain", "is_plain", defArgs sis_plain, defBody sis_plain, defScope sis_plain, [], []⟩
def d_is_word : He.DefD := ⟨(("is_word", none) : Str × Option Str), "is_word", "is_word", defArgs sis_word, defBody sis_word, defScope sis_word, [], []⟩
def d_is_pair : He.DefD := ⟨(("is_pair", none) : Str × Option Str), "is_pair", "is_pair", defArgs sis_pair, defBody sis_pair, defScope sis_pair, [], []⟩
def d_are_declarations : He.DefD := ⟨(("are_declarations", none) : Str × Option Str), "are_declarations", "are_declarations", defArgs sare_declarations, defBody sare_declarations, defScope sare_declarations, [], []⟩
def d_are_attributes : He.DefD := ⟨(("are_attributes", none) : Str × Option Str), "are_attributes", "are_attributes", defArgs sare_attributes, defBody sare_attributes, defScope sare_attributes, [], []⟩
def d_begins_with : He.DefD := ⟨(("begins_with", none) : Str × Option Str), "begins_with", "begins_with", defArgs sbegins_with, defBody sbegins_with, defScope sbegins_with, [], []⟩
def d_are_children : He.DefD := ⟨(("are_children", none) : Str × Option Str), "are_children", "are_children", defArgs sare_children, defBody sare_children, defScope sare_children, [], []⟩
def d_fault_of : He.DefD := ⟨(("fault_of", none) : Str × Option Str), "fault_of", "fault_of", defArgs sfault_of, defBody sfault_of, defScope sfault_of, [], []⟩
def d_need_part : He.DefD := ⟨(("need_part", none) : Str × Option Str), "need_part", "need_part", defArgs sneed_part, defBody sneed_part, defScope sneed_part, [], []⟩
def d_child_elements : He.DefD := ⟨(("child_elements", none) : Str × Option Str), "child_elements", "child_elements", defArgs schild_elements, defBody schild_elements, defScope schild_elements, [], []⟩
def d_holes_in : He.DefD := ⟨(("holes_in", none) : Str × Option Str), "holes_in", "holes_in", defArgs sholes_in, defBody sholes_in, defScope sholes_in, [], []⟩
def d_quoted_in : He.DefD := ⟨(("quoted_in", none) : Str × Option Str), "quoted_in", "quoted_in", defArgs squoted_in, defBody squoted_in, defScope squoted_in, [], []⟩
def d_walked : He.DefD := ⟨(("walked", none) : Str × Option Str), "walked", "walked", defArgs swalked, defBody swalked, defScope swalked, [], []⟩
def d_holes : He.DefD := ⟨(("holes", none) : Str × Option Str), "holes", "holes", defArgs sholes, defBody sholes, defScope sholes, [], []⟩
def d_prefixes_in : He.DefD := ⟨(("prefixes_in", none) : Str × Option Str), "prefixes_in", "prefixes_in", defArgs sprefixes_in, defBody sprefixes_in, defScope sprefixes_in, [], []⟩
def d_prefixes : He.DefD := ⟨(("prefixes", none) : Str × Option Str), "prefixes", "prefixes", defArgs sprefixes, defBody sprefixes, defScope sprefixes, [], []⟩
def d_paths : He.DefD := ⟨(("paths", none) : Str × Option Str), "paths", "paths", defArgs spaths, defBody spaths, defScope spaths, [], []⟩
def d__law_mixed : He.DefD := ⟨(("_law_mixed", none) : Str × Option Str), "_law_mixed", "_law_mixed", defArgs s_law_mixed, defBody s_law_mixed, defScope s_law_mixed, [], []⟩
def d__law_begin : He.DefD := ⟨(("_law_begin", none) : Str × Option Str), "_law_begin", "_law_begin", defArgs s_law_begin, defBody s_law_begin, defScope s_law_begin, [], []⟩
def d__law_draw : He.DefD := ⟨(("_law_draw", none) : Str × Option Str), "_law_draw", "_law_draw", defArgs s_law_draw, defBody s_law_draw, defScope s_law_draw, [], []⟩
def d__law_of : He.DefD := ⟨(("_law_of", none) : Str × Option Str), "_law_of", "_law_of", defArgs s_law_of, defBody s_law_of, defScope s_law_of, [], []⟩
def d__law_prefix : He.DefD := ⟨(("_law_prefix", none) : Str × Option Str), "_law_prefix", "_law_prefix", defArgs s_law_prefix, defBody s_law_prefix, defScope s_law_prefix, [], []⟩
def d__law_name : He.DefD := ⟨(("_law_name", none) : Str × Option Str), "_law_name", "_law_name", defArgs s_law_name, defBody s_law_name, defScope s_law_name, [], []⟩
def d__law_declarations : He.DefD := ⟨(("_law_declarations", none) : Str × Option Str), "_law_declarations", "_law_declarations", defArgs s_law_declarations, defBody s_law_declarations, defScope s_law_declarations, [], []⟩
def d__law_attributes : He.DefD := ⟨(("_law_attributes", none) : Str × Option Str), "_law_attributes", "_law_attributes", defArgs s_law_attributes, defBody s_law_attributes, defScope s_law_attributes, [], []⟩
def d__law_element : He.DefD := ⟨(("_law_element", none) : Str × Option Str), "_law_element", "_law_element", defArgs s_law_element, defBody s_law_element, defScope s_law_element, [], []⟩
def d__law_grown : He.DefD := ⟨(("_law_grown", none) : Str × Option Str), "_law_grown", "_law_grown", defArgs s_law_grown, defBody s_law_grown, defScope s_law_grown, [], []⟩
def d__law_is_of : He.DefD := ⟨(("_law_is_of", none) : Str × Option Str), "_law_is_of", "_law_is_of", defArgs s_law_is_of, defBody s_law_is_of, defScope s_law_is_of, [], []⟩
def d__law_is_word : He.DefD := ⟨(("_law_is_word", none) : Str × Option Str), "_law_is_word", "_law_is_word", defArgs s_law_is_word, defBody s_law_is_word, defScope s_law_is_word, [], []⟩
def d__law_is_name : He.DefD := ⟨(("_law_is_name", none) : Str × Option Str), "_law_is_name", "_law_is_name", defArgs s_law_is_name, defBody s_law_is_name, defScope s_law_is_name, [], []⟩
def d__law_are_pairs : He.DefD := ⟨(("_law_are_pairs", none) : Str × Option Str), "_law_are_pairs", "_law_are_pairs", defArgs s_law_are_pairs, defBody s_law_are_pairs, defScope s_law_are_pairs, [], []⟩
def d__law_are_declarations : He.DefD := ⟨(("_law_are_declarations", none) : Str × Option Str), "_law_are_declarations", "_law_are_declarations", defArgs s_law_are_declarations, defBody s_law_are_declarations, defScope s_law_are_declarations, [], []⟩
def d__law_is_plain : He.DefD := ⟨(("_law_is_plain", none) : Str × Option Str), "_law_is_plain", "_law_is_plain", defArgs s_law_is_plain, defBody s_law_is_plain, defScope s_law_is_plain, [], []⟩
def d__law_are_attributes : He.DefD := ⟨(("_law_are_attributes", none) : Str × Option Str), "_law_are_attributes", "_law_are_attributes", defArgs s_law_are_attributes, defBody s_law_are_attributes, defScope s_law_are_attributes, [], []⟩
def d__law_begins : He.DefD := ⟨(("_law_begins", none) : Str × Option Str), "_law_begins", "_law_begins", defArgs s_law_begins, defBody s_law_begins, defScope s_law_begins, [], []⟩
def d__law_are_children : He.DefD := ⟨(("_law_are_children", none) : Str × Option Str), "_law_are_children", "_law_are_children", defArgs s_law_are_children, defBody s_law_are_children, defScope s_law_are_children, [], []⟩
def d__law_item : He.DefD := ⟨(("_law_item", none) : Str × Option Str), "_law_item", "_law_item", defArgs s_law_item, defBody s_law_item, defScope s_law_item, [], []⟩
def d__law_fault : He.DefD := ⟨(("_law_fault", none) : Str × Option Str), "_law_fault", "_law_fault", defArgs s_law_fault, defBody s_law_fault, defScope s_law_fault, [], []⟩
def d__law_said : He.DefD := ⟨(("_law_said", none) : Str × Option Str), "_law_said", "_law_said", defArgs s_law_said, defBody s_law_said, defScope s_law_said, [], []⟩
def d__law_odd : He.DefD := ⟨(("_law_odd", none) : Str × Option Str), "_law_odd", "_law_odd", defArgs s_law_odd, defBody s_law_odd, defScope s_law_odd, [], []⟩
def d__law_spoilt : He.DefD := ⟨(("_law_spoilt", none) : Str × Option Str), "_law_spoilt", "_law_spoilt", defArgs s_law_spoilt, defBody s_law_spoilt, defScope s_law_spoilt, [], []⟩
def d__law_names_in : He.DefD := ⟨(("_law_names_in", none) : Str × Option Str), "_law_names_in", "_law_names_in", defArgs s_law_names_in, defBody s_law_names_in, defScope s_law_names_in, [], []⟩
def d__law_right : He.DefD := ⟨(("_law_right", none) : Str × Option Str), "_law_right", "_law_right", defArgs s_law_right, defBody s_law_right, defScope s_law_right, [], []⟩
def d_law : He.DefD := ⟨(("law", none) : Str × Option Str), "law", "law", defArgs slaw, defBody slaw, defScope slaw, [], []⟩
def fn0 : List He.DefD := [d_BadPart__init__, d_is_of, d_is_prefix, d_is_local, d_is_address, d_is_name, d_is_plain, d_is_word, d_is_pair, d_are_declarations, d_are_attributes, d_begins_with, d_are_children, d_fault_of, d_need_part, d_child_elements, d_holes_in, d_quoted_in, d_walked, d_holes, d_prefixes_in, d_prefixes, d_paths, d__law_mixed, d__law_begin, d__law_draw, d__law_of, d__law_prefix, d__law_name, d__law_declarations]
def fn1 : List He.DefD := [d__law_attributes, d__law_element, d__law_grown, d__law_is_of, d__law_is_word, d__law_is_name, d__law_are_pairs, d__law_are_declarations, d__law_is_plain, d__law_are_attributes, d__law_begins, d__law_are_children, d__law_item, d__law_fault, d__law_said, d__law_odd, d__law_spoilt, d__law_names_in, d__law_right, d_law]
def fn : List He.DefD := fn0 ++ fn1
def fa0 : List He.Fa := [.glo "GraftError", .glo "BadPart", .glo "BadText", .glo "BadSurrounding", .glo "BadFilling", .glo "BadPath", .glo "TooMany", .glo "BadQuestion", .glo "is_of", .glo "is_prefix", .glo "is_local", .glo "is_address", .glo "is_name", .glo "is_plain", .glo "is_word", .glo "is_pair", .glo "are_declarations", .glo "are_attributes", .glo "begins_with", .glo "are_children", .glo "fault_of", .glo "need_part", .glo "child_elements", .glo "holes_in", .glo "quoted_in", .glo "walked", .glo "holes", .glo "prefixes_in", .glo "prefixes", .glo "paths"]
def fa1 : List He.Fa := [.glo "_law_mixed", .glo "_law_begin", .glo "_law_draw", .glo "_law_of", .glo "_law_prefix", .glo "_law_name", .glo "_law_declarations", .glo "_law_attributes", .glo "_law_element", .glo "_law_grown", .glo "_law_is_of", .glo "_law_is_word", .glo "_law_is_name", .glo "_law_are_pairs", .glo "_law_are_declarations", .glo "_law_is_plain", .glo "_law_are_attributes", .glo "_law_begins", .glo "_law_are_children", .glo "_law_item", .glo "_law_fault", .glo "_law_said", .glo "_law_odd", .glo "_law_spoilt", .glo "_law_names_in", .glo "_law_right", .glo "law", .free "isinstance", .free "str", .free "tuple"]
def fa2 : List He.Fa := [.free "len", .free "all", .free "enumerate", .free "set", .free "sorted", .free "int", .free "list", .free "dict", .free "range", .free "repr", .free "min", .free "ValueError", .str "LETTERS" "abcdefghijklmnopqrstuvwxyz", .str "ADDRESS_SIGNS" "abcdefghijklmnopqrstuvwxyz0123456789./:-", .str "PLAIN_SIGNS" "abcdefghijklmnopqrstuvwxyz0123456789 ./-", .str "BARRED" "xmlns", .str "ELEMENT" "element", .str "HOLE" "hole", .int "MOST_ELEMENTS" 60, .int "MOST_LEVELS" 8, .int "MOST_LETTERS" 8, .int "MOST_PLAIN" 20, .exm "BadPart" "GraftError" true, .noat "BadPart" "path", .noat "BadPart" "item", .noat "BadPart" "place", .meth "BadPart" "__init__", .keep "BadPart"]
def fa : List He.Fa := fa0 ++ fa1 ++ fa2
/-- the other names that the top binds -/
def loose0 : List PySem.Str := ["GraftError", "BadPart", "BadText", "BadSurrounding", "BadFilling", "BadPath", "TooMany", "BadQuestion", "MOST_ELEMENTS", "MOST_LEVELS", "MOST_LETTERS", "MOST_PLAIN", "LETTERS", "DIGITS", "ADDRESS_SIGNS", "PLAIN_SIGNS", "BARRED", "ELEMENT", "HOLE", "is_of", "is_prefix", "is_local", "is_address", "is_name", "is_plain", "is_word", "is_pair", "are_declarations", "are_attributes", "begins_with"]
def loose1 : List PySem.Str := ["are_children", "fault_of", "need_part", "child_elements", "holes_in", "quoted_in", "walked", "holes", "prefixes_in", "prefixes", "paths", "_law_mixed", "_law_begin", "_law_draw", "_law_of", "_law_prefix", "_law_name", "_law_declarations", "_law_attributes", "_law_element", "_law_grown", "_law_is_of", "_law_is_word", "_law_is_name", "_law_are_pairs", "_law_are_declarations", "_law_is_plain", "_law_are_attributes", "_law_begins", "_law_are_children"]
def loose2 : List PySem.Str := ["_law_item", "_law_fault", "_law_said", "_law_odd", "_law_spoilt", "_law_names_in", "_law_right"]
def loose : List PySem.Str := loose0 ++ loose1 ++ loose2
/-- the defs whose bodies make functions -/
def tf : List He.Defn := [("_law_are_declarations", none), ("_law_are_attributes", none), ("_law_right", none)]
/-- what is asked besides -/
def dOpt (a b : Option Bool) : Bool := decide (a = b)
def dVal (a b : Option Value) : Bool := decide (a = b)
/-- the class's own object: an exception's, over ValueError -/
def oexB (K : PySem.W.Frag) (C : Addr) : Bool := match K.lookup C with
  | some ⟨.type c, _, .cls cd, sl⟩ => (match cd.mro, sl.toList with
    | .ref D :: bm, [_, _, _, _, some (.builtin n), _] => decide (c = "type") && (decide (D = C) && (decide (n = "ValueError.__new__") && (!cd.hasDel && (cd.hasDict && PySem.HandSPX.refsVE bm))))
    | _, _ => false)
  | _ => false
def isFc (a : Option PySem.W.CFound) (n : String) : Bool := match a with
  | some (.val (.builtin m)) => decide (m = n)
  | _ => false
def tbA (K : PySem.W.Frag) (x : Str) : Addr := (He.cT K (x, none)).2
def exA (K : PySem.W.Frag) (C gb : Addr) : List Bool := [
  oexB K C,
  dOpt (PySem.W.subIn K (.ref C) (.type "BaseException")) (some true),
  dVal (PySem.W.typeIn K (.ref C)) (some (.type "type")),
  He.eqO (PySem.W.findIn K (.ref C) "__setattr__") (some (some (.builtin "object.__setattr__"))),
  He.eqO (PySem.W.findIn K (.ref C) "__getattribute__") (some (some (.builtin "BaseException.__getattribute__"))),
  He.eqO (PySem.W.findIn K (.ref C) "__getattr__") (some none),
  PySem.W.hasDictIn K C,
  dVal (PySem.W.typeIn K (.ref (He.ma K C "__init__"))) (some (.type "function")),
  He.eqO (PySem.W.findIn K (.ref C) "__class__") (some (some (.builtin "object.__class__"))),
  He.eqO (PySem.W.specialIn K (.builtin "object.__class__") "__get__") (some (some (.builtin "getset_descriptor.__get__"))),
  dOpt (PySem.W.takesIn K (.builtin "object.__class__")) (some true),
  dOpt (PySem.W.mroIn K C (.type "object")) (some true),
  PySem.W.readsIn K gb (.type "type"),
  He.eqO (PySem.W.specialIn K (.ref gb) "__getattribute__") (some (some (.builtin "type.__getattribute__"))),
  isFc (PySem.W.findCls K (.ref gb) (.type "type") "__init__") "ValueError.__init__",
  dOpt (PySem.W.kitAny K (.ref C) [.ref (He.ga K "BadSurrounding"), .ref (He.ga K "BadFilling"), .ref (He.ga K "TooMany"), .ref (He.ga K "BadQuestion")]) (some false),
  dOpt (PySem.W.kitOne K (.ref C) (.ref C)) (some true),
  dOpt (PySem.W.kitOne K (.ref C) (.ref (He.ga K "BadText"))) (some false),
  dOpt (PySem.W.kitOne K (.ref C) (.ref (He.ga K "BadPath"))) (some false),
  (K.lookup sysModules).isSome,
  !decide (tbA K "_law_are_declarations" = tbA K "_law_are_attributes"),
  !decide (tbA K "_law_are_declarations" = tbA K "_law_right"),
  !decide (tbA K "_law_are_attributes" = tbA K "_law_right")]
def ex (K : PySem.W.Frag) : Bool := (exA K (He.ga K "BadPart") (He.ga K "GraftError")).all id
/-! the Hook: sysModules and cStatics stand in the fragment too -/
abbrev frY (n : Nat) (g : Addr → Option Obj) : PySem.W.Frag := He.frT g (sysModules :: cStatics :: He.asD g n)
def obsY (n : Nat) (fa : List He.Fa) (fn : List He.DefD) (tf : List He.Defn) (ex : PySem.W.Frag → Bool) (g : Addr → Option Obj) : He.AlX := (He.obsT fa fn [] (frY n g), ex (frY n g) && He.tabsB g tf (frY n g))
theorem tabsY {h : Heap} {tf : List He.Defn} {K : PySem.W.Frag} (e : He.tabsB h.get? tf K = true) {p : He.Defn} (hp : p ∈ tf) : PySem.W.codeHdIn K (He.cT K p).1 (He.cT K p).2 = true ∧ ∃ o, h.get? (He.cT K p).2 = some o ∧ He.emptyTab o = true := by
  have b := Bool.and_eq_true_iff.mp (List.all_eq_true.mp e p hp)
  refine ⟨b.1, ?_⟩
  have b2 := b.2
  split at b2
  · exact ⟨_, ‹_›, b2⟩
  · cases b2
def hookY (n : Nat) (fa : List He.Fa) (fn : List He.DefD) (tf : List He.Defn) (ex : PySem.W.Frag → Bool) : PySem.W.Hook where
  α := He.AlX
  val := He.valX fn []
  obs s := obsY n fa fn tf ex s.heap.get?
  says w h := ∃ K : PySem.W.Frag, K.In h ∧ He.SaysX fa fn [] tf ex w h K
  of w s e := by
    have e1 : He.obsT fa fn [] (frY n s.heap.get?) = He.valT fn [] w := congrArg Prod.fst e
    have e2 := Bool.and_eq_true_iff.mp (congrArg Prod.snd e : (ex (frY n s.heap.get?) && He.tabsB s.heap.get? tf (frY n s.heap.get?)) = true)
    refine ⟨frY n s.heap.get?, He.frT_in, e1, e2.1, fun p hp => (tabsY e2.2 hp).1, fun p hp => ?_, fun p hp => ?_⟩
    · obtain ⟨o, q, z⟩ := (tabsY e2.2 hp).2
      exact He.frT_none q z
    · obtain ⟨o, q, z⟩ := (tabsY e2.2 hp).2
      exact q.trans (congrArg some (He.emptyTab_eq z))
  keeps w h h' z k := by
    obtain ⟨K, i, c⟩ := z
    exact ⟨K, i.keeps k, c.t, c.more, c.hd, c.out, fun p hp => k _ _ (c.empty p hp)⟩
theorem obsY_eq {n : Nat} {fa : List He.Fa} {fn : List He.DefD} {tf : List He.Defn} {ex : PySem.W.Frag → Bool} {g : Addr → Option Obj} {s : Shared} (h : ∀ a, g a = s.heap.get? a) : obsY n fa fn tf ex g = (hookY n fa fn tf ex).obs s := by
  show obsY n fa fn tf ex g = obsY n fa fn tf ex s.heap.get?
  rw [show g = s.heap.get? from funext h]
abbrev R : PySem.W.OpenRow := PySem.W.OpenLaw.row PySem.Challenge.rw_prefixgraft_k02_whole_parts_spoilt_anywh
abbrev hk : PySem.W.Hook := hookY 5 fa fn tf ex
def ob (s : PySem.W.SharedT) : He.AlX := obsY 5 fa fn tf ex (HandSHeadRun.getT s)
theorem ob_eq (s : PySem.W.SharedT) : ob s = hk.obs s.abs := obsY_eq (HandSHeadRun.getT_eq s)
theorem run (w : World) : HandSHeadRun.RunEq R (PySem.W.view R.prog [70]) hk ob 6000 loose w := by
  intro os
  kernel_rfl
end G
set_option maxHeartbeats 1000000
/-! the end: a law whose promise knows the guards (FnG), with tables of code objects -/
namespace G
open PySem PySem.Spec PyProof.Rows L2 LamX
abbrev tb0 : Obj := { cls := .none, data := .fields #[] }
/-- the abstract heap at the start: the tables, the script at most -/
structure Beg (P : Program) (w : World) (K : PySem.W.Frag) (H : Hp) (h : Heap) (cs : List (Addr × Addr)) : Prop where
  ok : HOk P w H h
  kn : ∀ b o, K.lookup b = some o → H b = none
  tb : ∀ p ∈ cs, H p.2 = some (.tbl #[])
  un : ∀ b u, H b = some u → (∃ (o : Obj) (xs : List V) (vs : Array Value) (n : Nat), u = .frz o (.lst xs) ∧ o.data = .seq vs n) ∨ ∃ p ∈ cs, p.2 = b ∧ u = .tbl #[]
section
variable {P : Program} {w : World} {K : PySem.W.Frag} {H : Hp} {h : Heap} {cs : List (Addr × Addr)} {mg mb : Str → Option Value} {k : Nat} {fa a : Addr} {fd : FuncData} {x : Str} {sp : Sp} {s : Shared}
theorem Beg.tabO (B : Beg P w K H h cs) {p : Addr × Addr} (hp : p ∈ cs) : h.get? p.2 = some tb0 := B.ok p.2 _ (B.tb p hp)
/-- what is neither a list nor an empty table is not tracked -/
theorem Beg.no (B : Beg P w K H h cs) {b : Addr} {o : Obj} (e : h.get? b = some o) (h1 : ∀ vs n, o.data ≠ .seq vs n) (h2 : o.data ≠ .fields #[]) : H b = none := by
  cases q : H b with
  | none => rfl
  | some u =>
    exfalso
    rcases B.un b u q with ⟨ob, xs, vs, n, rfl, hd⟩ | ⟨p, hp, rfl, rfl⟩
    · have z : h.get? b = some ob := (B.ok b _ q).1
      rw [e] at z
      cases z
      exact h1 _ _ hd
    · have z := B.tabO hp
      rw [e] at z
      cases z
      exact h2 rfl
theorem Beg.ns (B : Beg P w K H h cs) {b : Addr} {m : Str → Option Value} (n : h.Ns b m) : (hidT h H).Ns b m := by
  obtain ⟨o, es, ep, e, d, r⟩ := n
  refine ⟨o, es, ep, hidT_get e (B.no e ?_ ?_), d, r⟩
  · rw [d]; intro _ _ z; cases z
  · rw [d]; intro z; cases z
theorem Beg.kin (B : Beg P w K H h cs) (X : K.In h) : K.In (hidT h H) := fun b o e => hidT_get (X b o e) (B.kn b o e)
/-- all that stood at the start stands at the end, the tables grown -/
theorem Beg.stay {H' : Hp} {h' : Heap} (B : Beg P w K H h cs) (C : ∀ p ∈ cs, PySem.W.CodeHd h p.1 p.2) (u : Un [] [] H H' h h') (ok' : HOk P w H' h') : OldK h h' := by
  have key : ∀ b o, h.get? b = some o → h'.get? b = some o ∨ ∃ p ∈ cs, p.2 = b ∧ o = tb0 ∧ ∃ more : Array Value, h'.get? b = some { cls := .none, data := .fields more } := fun b o e => by
    cases q : H b with
    | none => exact .inl (u.keep b o e q (by simp) (by simp))
    | some y =>
      rcases B.un b y q with ⟨ob, xs, vs, n, rfl, hd⟩ | ⟨p, hp, rfl, rfl⟩
      · have z : h.get? b = some ob := (B.ok b _ q).1
        have z' : h'.get? b = some ob := (ok' b _ (u.frzs b ob _ q)).1
        rw [e] at z
        exact .inl (z'.trans z.symm)
      · have z := B.tabO hp
        obtain ⟨more, q'⟩ := u.tbls p.2 #[] q
        exact .inr ⟨p, hp, rfl, Option.some.inj (e.symm.trans z), _, ok' p.2 _ q'⟩
  refine ⟨fun b o e => ?_, fun b o e => ?_⟩
  · rcases key b o e with z | ⟨p, hp, rfl, rfl, more, z⟩
    · exact .inl z
    · exact .inr (.inl ⟨((C p hp).tab (B.tabO hp)).isCodeTable, rfl, #[], more, rfl, by rw [Array.empty_append]; exact z⟩)
  · rcases key b o e with z | ⟨p, hp, rfl, rfl, more, z⟩
    · exact ⟨o, z⟩
    · exact ⟨_, z⟩
/-- the law's call -/
theorem beg_call (B : Beg P w K H s.heap cs) (X : K.In s.heap) (hm : s.heap.Ns mainGlobals mg) (hb : s.heap.Ns builtinsNs mb) (hbb : ∀ y : Str, y ≠ "__name__" → mb y = bootBuiltins y) (hlim : s.heap.NoLimit) (hg : s.gens = #[])
    (hbm : ∃ (bm : Addr) (ob : Obj), mg "__builtins__" = some (.ref bm) ∧ bm ≠ builtinsNs ∧ s.heap.get? bm = some ob ∧ ob.cls = .type "module" ∧ ob.dict = some builtinsNs ∧ ob.data = .plain)
    (C : ∀ p ∈ cs, PySem.W.codeHdIn K p.1 p.2 = true) (hS : ∃ o, K.lookup sysModules = some o) (hr : Room k callerA) (hbind : ∀ (s : Shared) (u : Value), BindsTo s fd ⟨[u], []⟩ [(x, u)])
    (F : ∀ base : Heap, K.In base → base.Ns mainGlobals mg → (∃ o, base.get? sysModules = some o) → (∀ p ∈ cs, TabB base mg p.1 p.2) → FnG P w K mg base CX0 k fa fd [x] sp) (q : sp [.ref a] H (fun v _ => v = .bl true) E0) :
    codeAny (model P w) callerA (.call (.ref fa) ⟨[.ref a], []⟩) (fun r s' => r = .ok (.ret (.bool true)) ∧ OldK s.heap s'.heap ∧ s'.os = s.os ∧ AllBare s'.gens) s := by
  have kb := B.kin X
  have nG : ∀ {b : Addr} {o : Obj}, s.heap.get? b = some o → (∀ es n, o.data ≠ .dict es n) → b ≠ mainGlobals := fun {b o} e n z => by
    obtain ⟨o2, es, ep, e2, d2, _⟩ := hm
    rw [z, e2] at e
    cases e
    exact n _ _ d2
  have TB : ∀ p ∈ cs, TabB (hidT s.heap H) mg p.1 p.2 := fun p hp => by
    refine NdefX.tabB_of_K kb (C p hp) ?_ (nG (B.tabO hp) (fun _ _ z => by cases z)).symm
    obtain ⟨bm, ob, b1, b2, b3, b4, b5, b6⟩ := hbm
    refine ⟨bm, ob, b1, b2, nG b3 (fun _ _ z => by rw [b6] at z; cases z), fun z => ?_, hidT_get b3 (B.no b3 (fun _ _ z => by rw [b6] at z; cases z) (fun z => by rw [b6] at z; cases z)), b4, b5, b6⟩
    rw [z, B.tabO hp] at b3
    cases b3
    cases b6
  obtain ⟨mc, l1, l2⟩ := hlim
  have e0 : Env0 P w K mg (hidT s.heap H) callerA [] s H := ⟨rfl, ⟨kb, B.ns hm, ⟨mb, B.ns hb, hbb⟩, ⟨mc, B.ns l1, l2⟩⟩, fun b o e => of_hidT e, Nat.le_of_eq (hidT_size _ _), trivial, fun b z => absurd (show b ∈ ([] : List Addr) from z) (by simp), B.ok, .of_eq hg⟩
  obtain ⟨os, hS⟩ := hS
  refine codeAny_mono ((F _ kb (B.ns hm) ⟨os, kb _ _ hS⟩ TB).run callerA [] s H [.ref a] [.ref a] _ _ rfl hr e0 (hbind s (.ref a)) (.cons rfl .nil) q) fun r s' z => ?_
  cases r with
  | error e => exact False.elim z
  | ok fl =>
    cases fl with
    | next => exact False.elim z
    | brk => exact False.elim z
    | cont => exact False.elim z
    | ret u =>
      obtain ⟨v, H', os', bare, un, hok', r', e⟩ := z
      have e' : v = .bl true := e
      subst e'
      obtain rfl : u = Value.bool true := r'
      exact ⟨rfl, B.stay (fun p hp => PySem.W.codeHd_of_K X (C p hp)) un hok', os', bare⟩
/-- the abstract heap: the tables, the script if the module does not hold it -/
theorem beg_script {vs : List Value} {ns : List Int} (X : K.In h) (hT : ∀ p ∈ cs, h.get? p.2 = some tb0) (nT : ∀ p ∈ cs, K.lookup p.2 = none) (ha : h.get? a = some { cls := .type "list", data := .seq vs.toArray }) (hi : IntsAre vs ns) (hl : ns.length ≤ sizeLine) :
    ∃ H : Hp, Beg P w K H h cs ∧ SqL K H a (ns.map V.int) := by
  have rv := vals_ints hi
  have lv := hi.length
  have na : ∀ p ∈ cs, p.2 ≠ a := fun p hp z => by
    have e := hT p hp
    rw [z, ha] at e
    cases e
  have inT : ∀ b : Addr, b ∈ cs.map (·.2) → ∃ p ∈ cs, p.2 = b := fun b hb => by
    obtain ⟨p, hp, e⟩ := List.mem_map.mp hb
    exact ⟨p, hp, e⟩
  have toT : ∀ p ∈ cs, p.2 ∈ cs.map (·.2) := fun p hp => List.mem_map.mpr ⟨p, hp, rfl⟩
  let T : Hp := fun b => if b ∈ cs.map (·.2) then some (.tbl #[]) else none
  have Tt : ∀ p ∈ cs, T p.2 = some (.tbl #[]) := fun p hp => if_pos (toT p hp)
  have Tn : ∀ b u, T b = some u → ∃ p ∈ cs, p.2 = b ∧ u = .tbl #[] := fun b u e => by
    by_cases hb : b ∈ cs.map (·.2)
    · obtain ⟨p, hp, e2⟩ := inT b hb
      exact ⟨p, hp, e2, (Option.some.inj ((if_pos hb).symm.trans e)).symm⟩
    · have e2 := (if_neg hb).symm.trans e
      cases e2
  have TB : Beg P w K T h cs := by
    refine ⟨fun b u e => ?_, fun b o e => ?_, Tt, fun b u e => .inr (Tn b u e)⟩
    · obtain ⟨p, hp, rfl, rfl⟩ := Tn b u e
      exact hT p hp
    · refine if_neg fun z => ?_
      obtain ⟨p, hp, rfl⟩ := inT b z
      rw [nT p hp] at e
      cases e
  cases hk : K.lookup a with
  | some o =>
    have e := X a o hk
    rw [ha] at e
    cases e
    exact ⟨T, TB, .inr ⟨_, vs.toArray, _, hk, rfl, rfl, rfl, by rw [List.size_toArray, lv]; exact hl, by simpa using rv⟩⟩
  | none =>
    refine ⟨upd T a (.frz { cls := .type "list", data := .seq vs.toArray } (.lst (ns.map V.int))), ⟨fun b u e => ?_, fun b o e => ?_, fun p hp => ?_, fun b u e => ?_⟩, .inl (.inr ⟨_, upd_same⟩)⟩
    · by_cases hb : b = a
      · rw [hb, upd_same] at e
        cases e
        rw [hb]
        exact ⟨ha, by rw [List.length_map]; exact hl, vs, _, rv, ha⟩
      · rw [upd_ne hb] at e
        obtain ⟨p, hp, rfl, rfl⟩ := Tn b u e
        exact hT p hp
    · have hb : b ≠ a := fun z => by
        rw [z, hk] at e
        cases e
      rw [upd_ne hb]
      exact TB.kn b o e
    · rw [upd_ne (na p hp)]
      exact Tt p hp
    · by_cases hb : b = a
      · rw [hb, upd_same] at e
        cases e
        exact .inl ⟨_, _, _, _, rfl, rfl⟩
      · rw [upd_ne hb] at e
        exact .inr (Tn b u e)
/-- the walk that head_any asks for -/
theorem walk_g {l : PySem.W.OpenLaw} {n : Nat} {q : Program} {loose : List Str} {XP : (Str → Option Value) → Heap → Prop} {YP : World → Heap → Prop} {d : DefRec} (hn : l.most = some n) (hn2 : n ≤ sizeLine) (hdf : d.params.defaults = []) (hr : Room k callerA)
    (F : ∀ (w : World) (mg : Str → Option Value) (fa : Addr) (h : Heap), YP w h → h.Ns mainGlobals mg → mg d.name = some (.ref fa) → ∃ (K : PySem.W.Frag) (cs : List (Addr × Addr)) (fd : FuncData) (sp : Sp), K.In h ∧ (∃ o, K.lookup sysModules = some o) ∧ (∀ p ∈ cs, h.get? p.2 = some tb0) ∧ (∀ p ∈ cs, K.lookup p.2 = none) ∧ (∀ p ∈ cs, PySem.W.codeHdIn K p.1 p.2 = true) ∧
      (∀ (s : Shared) (u : Value), BindsTo s fd ⟨[u], []⟩ [(x, u)]) ∧ (∀ (H : Hp) (a : Addr) (ns : List Int), ns.length ≤ n → (∀ p ∈ cs, H p.2 = some (.tbl #[])) → SqL K H a (ns.map V.int) → sp [.ref a] H (fun v _ => v = .bl true) E0) ∧
      ∀ base : Heap, K.In base → base.Ns mainGlobals mg → (∃ o, base.get? sysModules = some o) → (∀ p ∈ cs, TabB base mg p.1 p.2) → FnG l.prog w K mg base CX0 k fa fd [x] sp) :
    PySem.W.WalkO q loose XP YP l.row.toRowW d [] (fun f vs => PySem.call f vs) := by
  refine Att.attach_callB hn hdf fun w s₀ s₁ mg mb fa o pm cd doc a vs ns G Y ho hd hcd hmg hobj hints hlen hbits hg => ?_
  obtain ⟨K, cs, fd, sp, X, hS, hT, nT, C, hb, hsp, hF⟩ := F w mg fa _ Y G.T.g hmg
  obtain ⟨H, B, hq⟩ := beg_script (P := l.prog) (w := w) X hT nT hobj hints (Nat.le_trans hlen hn2)
  exact beg_call B X G.T.g G.T.b G.T.builtins G.T.nolimit hg G.T.bmain C hS hr hb hF (hsp H a ns hlen B.tb hq)
end
end G
set_option maxHeartbeats 4000000
/-! what the head tells, as the walk asks for it -/
namespace G
open PySem PySem.Spec PyProof.Rows L2 LamX
section
variable {K : PySem.W.Frag} {h : Heap} {mg : Str → Option Value} {x q : Str} {st : Stmt} {f : Addr} {fd : FuncData}
theorem fun_ofD (F : FunD K x q (defArgs st) (defBody st) (defScope st) [] [] f fd) : Fun K x q st f fd := by
  obtain ⟨oc, od, dV, kV, doc, pm, an, cdv, ct, osl, rfl, lk, hcd, hD, hK⟩ := F.ex
  rcases hD with ⟨_, rfl⟩ | ⟨e, _⟩
  · exact fun_mk lk hcd F.kp
  · exact absurd rfl e
theorem fnT_of {ps : List Str} (h : ∃ fd, FunD K x x (defArgs st) (defBody st) (defScope st) [] [] f fd) (m : mg x = some (.ref f)) (b : ∀ fd, FunD K x x (defArgs st) (defBody st) (defScope st) [] [] f fd → Binds K fd ps []) : FnT K mg x st ps := by
  obtain ⟨fd, F⟩ := h
  exact ⟨f, fd, fun_ofD F, m, b fd F⟩

theorem t_is_of (X : K.In h) (G : h.Ns mainGlobals mg) (c : He.SaysD fa fn K) : FnT K mg "is_of" sis_of pis_of :=
  fnT_of (c.def_ 1 (d := d_is_of) rfl) (He.glo_ok X G (c.fact 8 (f := .glo "is_of") rfl)) fun fd F => F.bindsN fun _ _ _ _ _ _ us hl => match us, hl with | [_, _, _, _], _ => rfl
theorem t_is_prefix (X : K.In h) (G : h.Ns mainGlobals mg) (c : He.SaysD fa fn K) : FnT K mg "is_prefix" sis_prefix pis_prefix :=
  fnT_of (c.def_ 2 (d := d_is_prefix) rfl) (He.glo_ok X G (c.fact 9 (f := .glo "is_prefix") rfl)) fun fd F => F.bindsN fun _ _ _ _ _ _ us hl => match us, hl with | [_], _ => rfl
theorem t_is_local (X : K.In h) (G : h.Ns mainGlobals mg) (c : He.SaysD fa fn K) : FnT K mg "is_local" sis_local pis_local :=
  fnT_of (c.def_ 3 (d := d_is_local) rfl) (He.glo_ok X G (c.fact 10 (f := .glo "is_local") rfl)) fun fd F => F.bindsN fun _ _ _ _ _ _ us hl => match us, hl with | [_], _ => rfl
theorem t_is_address (X : K.In h) (G : h.Ns mainGlobals mg) (c : He.SaysD fa fn K) : FnT K mg "is_address" sis_address pis_address :=
  fnT_of (c.def_ 4 (d := d_is_address) rfl) (He.glo_ok X G (c.fact 11 (f := .glo "is_address") rfl)) fun fd F => F.bindsN fun _ _ _ _ _ _ us hl => match us, hl with | [_], _ => rfl
theorem t_is_name (X : K.In h) (G : h.Ns mainGlobals mg) (c : He.SaysD fa fn K) : FnT K mg "is_name" sis_name pis_name :=
  fnT_of (c.def_ 5 (d := d_is_name) rfl) (He.glo_ok X G (c.fact 12 (f := .glo "is_name") rfl)) fun fd F => F.bindsN fun _ _ _ _ _ _ us hl => match us, hl with | [_], _ => rfl
theorem t_is_plain (X : K.In h) (G : h.Ns mainGlobals mg) (c : He.SaysD fa fn K) : FnT K mg "is_plain" sis_plain pis_plain :=
  fnT_of (c.def_ 6 (d := d_is_plain) rfl) (He.glo_ok X G (c.fact 13 (f := .glo "is_plain") rfl)) fun fd F => F.bindsN fun _ _ _ _ _ _ us hl => match us, hl with | [_], _ => rfl
theorem t_is_word (X : K.In h) (G : h.Ns mainGlobals mg) (c : He.SaysD fa fn K) : FnT K mg "is_word" sis_word pis_word :=
  fnT_of (c.def_ 7 (d := d_is_word) rfl) (He.glo_ok X G (c.fact 14 (f := .glo "is_word") rfl)) fun fd F => F.bindsN fun _ _ _ _ _ _ us hl => match us, hl with | [_], _ => rfl
theorem t_is_pair (X : K.In h) (G : h.Ns mainGlobals mg) (c : He.SaysD fa fn K) : FnT K mg "is_pair" sis_pair pis_pair :=
  fnT_of (c.def_ 8 (d := d_is_pair) rfl) (He.glo_ok X G (c.fact 15 (f := .glo "is_pair") rfl)) fun fd F => F.bindsN fun _ _ _ _ _ _ us hl => match us, hl with | [_], _ => rfl
theorem t_are_declarations (X : K.In h) (G : h.Ns mainGlobals mg) (c : He.SaysD fa fn K) : FnT K mg "are_declarations" sare_declarations pare_declarations :=
  fnT_of (c.def_ 9 (d := d_are_declarations) rfl) (He.glo_ok X G (c.fact 16 (f := .glo "are_declarations") rfl)) fun fd F => F.bindsN fun _ _ _ _ _ _ us hl => match us, hl with | [_], _ => rfl
theorem t_are_attributes (X : K.In h) (G : h.Ns mainGlobals mg) (c : He.SaysD fa fn K) : FnT K mg "are_attributes" sare_attributes pare_attributes :=
  fnT_of (c.def_ 10 (d := d_are_attributes) rfl) (He.glo_ok X G (c.fact 17 (f := .glo "are_attributes") rfl)) fun fd F => F.bindsN fun _ _ _ _ _ _ us hl => match us, hl with | [_], _ => rfl
theorem t_begins_with (X : K.In h) (G : h.Ns mainGlobals mg) (c : He.SaysD fa fn K) : FnT K mg "begins_with" sbegins_with pbegins_with :=
  fnT_of (c.def_ 11 (d := d_begins_with) rfl) (He.glo_ok X G (c.fact 18 (f := .glo "begins_with") rfl)) fun fd F => F.bindsN fun _ _ _ _ _ _ us hl => match us, hl with | [_, _], _ => rfl
theorem t_are_children (X : K.In h) (G : h.Ns mainGlobals mg) (c : He.SaysD fa fn K) : FnT K mg "are_children" sare_children pare_children :=
  fnT_of (c.def_ 12 (d := d_are_children) rfl) (He.glo_ok X G (c.fact 19 (f := .glo "are_children") rfl)) fun fd F => F.bindsN fun _ _ _ _ _ _ us hl => match us, hl with | [_], _ => rfl
theorem t_fault_of (X : K.In h) (G : h.Ns mainGlobals mg) (c : He.SaysD fa fn K) : FnT K mg "fault_of" sfault_of pfault_of :=
  fnT_of (c.def_ 13 (d := d_fault_of) rfl) (He.glo_ok X G (c.fact 20 (f := .glo "fault_of") rfl)) fun fd F => F.bindsN fun _ _ _ _ _ _ us hl => match us, hl with | [_], _ => rfl
theorem t_need_part (X : K.In h) (G : h.Ns mainGlobals mg) (c : He.SaysD fa fn K) : FnT K mg "need_part" sneed_part pneed_part :=
  fnT_of (c.def_ 14 (d := d_need_part) rfl) (He.glo_ok X G (c.fact 21 (f := .glo "need_part") rfl)) fun fd F => F.bindsN fun _ _ _ _ _ _ us hl => match us, hl with | [_], _ => rfl
theorem t_child_elements (X : K.In h) (G : h.Ns mainGlobals mg) (c : He.SaysD fa fn K) : FnT K mg "child_elements" schild_elements pchild_elements :=
  fnT_of (c.def_ 15 (d := d_child_elements) rfl) (He.glo_ok X G (c.fact 22 (f := .glo "child_elements") rfl)) fun fd F => F.bindsN fun _ _ _ _ _ _ us hl => match us, hl with | [_], _ => rfl
theorem t_holes_in (X : K.In h) (G : h.Ns mainGlobals mg) (c : He.SaysD fa fn K) : FnT K mg "holes_in" sholes_in pholes_in :=
  fnT_of (c.def_ 16 (d := d_holes_in) rfl) (He.glo_ok X G (c.fact 23 (f := .glo "holes_in") rfl)) fun fd F => F.bindsN fun _ _ _ _ _ _ us hl => match us, hl with | [_], _ => rfl
theorem t_quoted_in (X : K.In h) (G : h.Ns mainGlobals mg) (c : He.SaysD fa fn K) : FnT K mg "quoted_in" squoted_in pquoted_in :=
  fnT_of (c.def_ 17 (d := d_quoted_in) rfl) (He.glo_ok X G (c.fact 24 (f := .glo "quoted_in") rfl)) fun fd F => F.bindsN fun _ _ _ _ _ _ us hl => match us, hl with | [_], _ => rfl
theorem t_walked (X : K.In h) (G : h.Ns mainGlobals mg) (c : He.SaysD fa fn K) : FnT K mg "walked" swalked pwalked :=
  fnT_of (c.def_ 18 (d := d_walked) rfl) (He.glo_ok X G (c.fact 25 (f := .glo "walked") rfl)) fun fd F => F.bindsN fun _ _ _ _ _ _ us hl => match us, hl with | [_], _ => rfl
theorem t_holes (X : K.In h) (G : h.Ns mainGlobals mg) (c : He.SaysD fa fn K) : FnT K mg "holes" sholes pholes :=
  fnT_of (c.def_ 19 (d := d_holes) rfl) (He.glo_ok X G (c.fact 26 (f := .glo "holes") rfl)) fun fd F => F.bindsN fun _ _ _ _ _ _ us hl => match us, hl with | [_], _ => rfl
theorem t_prefixes_in (X : K.In h) (G : h.Ns mainGlobals mg) (c : He.SaysD fa fn K) : FnT K mg "prefixes_in" sprefixes_in pprefixes_in :=
  fnT_of (c.def_ 20 (d := d_prefixes_in) rfl) (He.glo_ok X G (c.fact 27 (f := .glo "prefixes_in") rfl)) fun fd F => F.bindsN fun _ _ _ _ _ _ us hl => match us, hl with | [_], _ => rfl
theorem t_prefixes (X : K.In h) (G : h.Ns mainGlobals mg) (c : He.SaysD fa fn K) : FnT K mg "prefixes" sprefixes pprefixes :=
  fnT_of (c.def_ 21 (d := d_prefixes) rfl) (He.glo_ok X G (c.fact 28 (f := .glo "prefixes") rfl)) fun fd F => F.bindsN fun _ _ _ _ _ _ us hl => match us, hl with | [_], _ => rfl
theorem t_paths (X : K.In h) (G : h.Ns mainGlobals mg) (c : He.SaysD fa fn K) : FnT K mg "paths" spaths ppaths :=
  fnT_of (c.def_ 22 (d := d_paths) rfl) (He.glo_ok X G (c.fact 29 (f := .glo "paths") rfl)) fun fd F => F.bindsN fun _ _ _ _ _ _ us hl => match us, hl with | [_], _ => rfl
theorem t__law_mixed (X : K.In h) (G : h.Ns mainGlobals mg) (c : He.SaysD fa fn K) : FnT K mg "_law_mixed" s_law_mixed p_law_mixed :=
  fnT_of (c.def_ 23 (d := d__law_mixed) rfl) (He.glo_ok X G (c.fact 30 (f := .glo "_law_mixed") rfl)) fun fd F => F.bindsN fun _ _ _ _ _ _ us hl => match us, hl with | [_, _], _ => rfl
theorem t__law_begin (X : K.In h) (G : h.Ns mainGlobals mg) (c : He.SaysD fa fn K) : FnT K mg "_law_begin" s_law_begin p_law_begin :=
  fnT_of (c.def_ 24 (d := d__law_begin) rfl) (He.glo_ok X G (c.fact 31 (f := .glo "_law_begin") rfl)) fun fd F => F.bindsN fun _ _ _ _ _ _ us hl => match us, hl with | [_], _ => rfl
theorem t__law_draw (X : K.In h) (G : h.Ns mainGlobals mg) (c : He.SaysD fa fn K) : FnT K mg "_law_draw" s_law_draw p_law_draw :=
  fnT_of (c.def_ 25 (d := d__law_draw) rfl) (He.glo_ok X G (c.fact 32 (f := .glo "_law_draw") rfl)) fun fd F => F.bindsN fun _ _ _ _ _ _ us hl => match us, hl with | [_, _], _ => rfl
theorem t__law_of (X : K.In h) (G : h.Ns mainGlobals mg) (c : He.SaysD fa fn K) : FnT K mg "_law_of" s_law_of p_law_of :=
  fnT_of (c.def_ 26 (d := d__law_of) rfl) (He.glo_ok X G (c.fact 33 (f := .glo "_law_of") rfl)) fun fd F => F.bindsN fun _ _ _ _ _ _ us hl => match us, hl with | [_, _], _ => rfl
theorem t__law_prefix (X : K.In h) (G : h.Ns mainGlobals mg) (c : He.SaysD fa fn K) : FnT K mg "_law_prefix" s_law_prefix p_law_prefix :=
  fnT_of (c.def_ 27 (d := d__law_prefix) rfl) (He.glo_ok X G (c.fact 34 (f := .glo "_law_prefix") rfl)) fun fd F => F.bindsN fun _ _ _ _ _ _ us hl => match us, hl with | [_], _ => rfl
theorem t__law_name (X : K.In h) (G : h.Ns mainGlobals mg) (c : He.SaysD fa fn K) : FnT K mg "_law_name" s_law_name p_law_name :=
  fnT_of (c.def_ 28 (d := d__law_name) rfl) (He.glo_ok X G (c.fact 35 (f := .glo "_law_name") rfl)) fun fd F => F.bindsN fun _ _ _ _ _ _ us hl => match us, hl with | [_], _ => rfl
theorem t__law_declarations (X : K.In h) (G : h.Ns mainGlobals mg) (c : He.SaysD fa fn K) : FnT K mg "_law_declarations" s_law_declarations p_law_declarations :=
  fnT_of (c.def_ 29 (d := d__law_declarations) rfl) (He.glo_ok X G (c.fact 36 (f := .glo "_law_declarations") rfl)) fun fd F => F.bindsN fun _ _ _ _ _ _ us hl => match us, hl with | [_, _], _ => rfl
theorem t__law_attributes (X : K.In h) (G : h.Ns mainGlobals mg) (c : He.SaysD fa fn K) : FnT K mg "_law_attributes" s_law_attributes p_law_attributes :=
  fnT_of (c.def_ 30 (d := d__law_attributes) rfl) (He.glo_ok X G (c.fact 37 (f := .glo "_law_attributes") rfl)) fun fd F => F.bindsN fun _ _ _ _ _ _ us hl => match us, hl with | [_, _], _ => rfl
theorem t__law_element (X : K.In h) (G : h.Ns mainGlobals mg) (c : He.SaysD fa fn K) : FnT K mg "_law_element" s_law_element p_law_element :=
  fnT_of (c.def_ 31 (d := d__law_element) rfl) (He.glo_ok X G (c.fact 38 (f := .glo "_law_element") rfl)) fun fd F => F.bindsN fun _ _ _ _ _ _ us hl => match us, hl with | [_, _, _, _], _ => rfl
theorem t__law_grown (X : K.In h) (G : h.Ns mainGlobals mg) (c : He.SaysD fa fn K) : FnT K mg "_law_grown" s_law_grown p_law_grown :=
  fnT_of (c.def_ 32 (d := d__law_grown) rfl) (He.glo_ok X G (c.fact 39 (f := .glo "_law_grown") rfl)) fun fd F => F.bindsN fun _ _ _ _ _ _ us hl => match us, hl with | [_], _ => rfl
theorem t__law_is_of (X : K.In h) (G : h.Ns mainGlobals mg) (c : He.SaysD fa fn K) : FnT K mg "_law_is_of" s_law_is_of p_law_is_of :=
  fnT_of (c.def_ 33 (d := d__law_is_of) rfl) (He.glo_ok X G (c.fact 40 (f := .glo "_law_is_of") rfl)) fun fd F => F.bindsN fun _ _ _ _ _ _ us hl => match us, hl with | [_, _, _, _], _ => rfl
theorem t__law_is_word (X : K.In h) (G : h.Ns mainGlobals mg) (c : He.SaysD fa fn K) : FnT K mg "_law_is_word" s_law_is_word p_law_is_word :=
  fnT_of (c.def_ 34 (d := d__law_is_word) rfl) (He.glo_ok X G (c.fact 41 (f := .glo "_law_is_word") rfl)) fun fd F => F.bindsN fun _ _ _ _ _ _ us hl => match us, hl with | [_, _], _ => rfl
theorem t__law_is_name (X : K.In h) (G : h.Ns mainGlobals mg) (c : He.SaysD fa fn K) : FnT K mg "_law_is_name" s_law_is_name p_law_is_name :=
  fnT_of (c.def_ 35 (d := d__law_is_name) rfl) (He.glo_ok X G (c.fact 42 (f := .glo "_law_is_name") rfl)) fun fd F => F.bindsN fun _ _ _ _ _ _ us hl => match us, hl with | [_], _ => rfl
theorem t__law_are_pairs (X : K.In h) (G : h.Ns mainGlobals mg) (c : He.SaysD fa fn K) : FnT K mg "_law_are_pairs" s_law_are_pairs p_law_are_pairs :=
  fnT_of (c.def_ 36 (d := d__law_are_pairs) rfl) (He.glo_ok X G (c.fact 43 (f := .glo "_law_are_pairs") rfl)) fun fd F => F.bindsN fun _ _ _ _ _ _ us hl => match us, hl with | [_, _, _], _ => rfl
theorem t__law_are_declarations (X : K.In h) (G : h.Ns mainGlobals mg) (c : He.SaysD fa fn K) : FnT K mg "_law_are_declarations" s_law_are_declarations p_law_are_declarations :=
  fnT_of (c.def_ 37 (d := d__law_are_declarations) rfl) (He.glo_ok X G (c.fact 44 (f := .glo "_law_are_declarations") rfl)) fun fd F => F.bindsN fun _ _ _ _ _ _ us hl => match us, hl with | [_], _ => rfl
theorem t__law_is_plain (X : K.In h) (G : h.Ns mainGlobals mg) (c : He.SaysD fa fn K) : FnT K mg "_law_is_plain" s_law_is_plain p_law_is_plain :=
  fnT_of (c.def_ 38 (d := d__law_is_plain) rfl) (He.glo_ok X G (c.fact 45 (f := .glo "_law_is_plain") rfl)) fun fd F => F.bindsN fun _ _ _ _ _ _ us hl => match us, hl with | [_], _ => rfl
theorem t__law_are_attributes (X : K.In h) (G : h.Ns mainGlobals mg) (c : He.SaysD fa fn K) : FnT K mg "_law_are_attributes" s_law_are_attributes p_law_are_attributes :=
  fnT_of (c.def_ 39 (d := d__law_are_attributes) rfl) (He.glo_ok X G (c.fact 46 (f := .glo "_law_are_attributes") rfl)) fun fd F => F.bindsN fun _ _ _ _ _ _ us hl => match us, hl with | [_], _ => rfl
theorem t__law_begins (X : K.In h) (G : h.Ns mainGlobals mg) (c : He.SaysD fa fn K) : FnT K mg "_law_begins" s_law_begins p_law_begins :=
  fnT_of (c.def_ 40 (d := d__law_begins) rfl) (He.glo_ok X G (c.fact 47 (f := .glo "_law_begins") rfl)) fun fd F => F.bindsN fun _ _ _ _ _ _ us hl => match us, hl with | [_, _], _ => rfl
theorem t__law_are_children (X : K.In h) (G : h.Ns mainGlobals mg) (c : He.SaysD fa fn K) : FnT K mg "_law_are_children" s_law_are_children p_law_are_children :=
  fnT_of (c.def_ 41 (d := d__law_are_children) rfl) (He.glo_ok X G (c.fact 48 (f := .glo "_law_are_children") rfl)) fun fd F => F.bindsN fun _ _ _ _ _ _ us hl => match us, hl with | [_], _ => rfl
theorem t__law_item (X : K.In h) (G : h.Ns mainGlobals mg) (c : He.SaysD fa fn K) : FnT K mg "_law_item" s_law_item p_law_item :=
  fnT_of (c.def_ 42 (d := d__law_item) rfl) (He.glo_ok X G (c.fact 49 (f := .glo "_law_item") rfl)) fun fd F => F.bindsN fun _ _ _ _ _ _ us hl => match us, hl with | [_], _ => rfl
theorem t__law_fault (X : K.In h) (G : h.Ns mainGlobals mg) (c : He.SaysD fa fn K) : FnT K mg "_law_fault" s_law_fault p_law_fault :=
  fnT_of (c.def_ 43 (d := d__law_fault) rfl) (He.glo_ok X G (c.fact 50 (f := .glo "_law_fault") rfl)) fun fd F => F.bindsN fun _ _ _ _ _ _ us hl => match us, hl with | [_], _ => rfl
theorem t__law_said (X : K.In h) (G : h.Ns mainGlobals mg) (c : He.SaysD fa fn K) : FnT K mg "_law_said" s_law_said p_law_said :=
  fnT_of (c.def_ 44 (d := d__law_said) rfl) (He.glo_ok X G (c.fact 51 (f := .glo "_law_said") rfl)) fun fd F => F.bindsN fun _ _ _ _ _ _ us hl => match us, hl with | [_], _ => rfl
theorem t__law_odd (X : K.In h) (G : h.Ns mainGlobals mg) (c : He.SaysD fa fn K) : FnT K mg "_law_odd" s_law_odd p_law_odd :=
  fnT_of (c.def_ 45 (d := d__law_odd) rfl) (He.glo_ok X G (c.fact 52 (f := .glo "_law_odd") rfl)) fun fd F => F.bindsN fun _ _ _ _ _ _ us hl => match us, hl with | [_], _ => rfl
theorem t__law_spoilt (X : K.In h) (G : h.Ns mainGlobals mg) (c : He.SaysD fa fn K) : FnT K mg "_law_spoilt" s_law_spoilt p_law_spoilt :=
  fnT_of (c.def_ 46 (d := d__law_spoilt) rfl) (He.glo_ok X G (c.fact 53 (f := .glo "_law_spoilt") rfl)) fun fd F => F.bindsN fun _ _ _ _ _ _ us hl => match us, hl with | [_, _], _ => rfl
theorem t__law_names_in (X : K.In h) (G : h.Ns mainGlobals mg) (c : He.SaysD fa fn K) : FnT K mg "_law_names_in" s_law_names_in p_law_names_in :=
  fnT_of (c.def_ 47 (d := d__law_names_in) rfl) (He.glo_ok X G (c.fact 54 (f := .glo "_law_names_in") rfl)) fun fd F => F.bindsN fun _ _ _ _ _ _ us hl => match us, hl with | [_], _ => rfl
theorem t__law_right (X : K.In h) (G : h.Ns mainGlobals mg) (c : He.SaysD fa fn K) : FnT K mg "_law_right" s_law_right p_law_right :=
  fnT_of (c.def_ 48 (d := d__law_right) rfl) (He.glo_ok X G (c.fact 55 (f := .glo "_law_right") rfl)) fun fd F => F.bindsN fun _ _ _ _ _ _ us hl => match us, hl with | [_], _ => rfl
theorem t_law (X : K.In h) (G : h.Ns mainGlobals mg) (c : He.SaysD fa fn K) : FnT K mg "law" slaw plaw :=
  fnT_of (c.def_ 49 (d := d_law) rfl) (He.glo_ok X G (c.fact 56 (f := .glo "law") rfl)) fun fd F => F.bindsN fun _ _ _ _ _ _ us hl => match us, hl with | [_], _ => rfl
theorem txt_of (X : K.In h) (G : h.Ns mainGlobals mg) (c : He.SaysD fa fn K) : Txt K mg := ⟨t_is_of X G c,
  t_is_prefix X G c,
  t_is_local X G c,
  t_is_address X G c,
  t_is_name X G c,
  t_is_plain X G c,
  t_is_word X G c,
  t_is_pair X G c,
  t_are_declarations X G c,
  t_are_attributes X G c,
  t_begins_with X G c,
  t_are_children X G c,
  t_fault_of X G c,
  t_need_part X G c,
  t_child_elements X G c,
  t_holes_in X G c,
  t_quoted_in X G c,
  t_walked X G c,
  t_holes X G c,
  t_prefixes_in X G c,
  t_prefixes X G c,
  t_paths X G c,
  t__law_mixed X G c,
  t__law_begin X G c,
  t__law_draw X G c,
  t__law_of X G c,
  t__law_prefix X G c,
  t__law_name X G c,
  t__law_declarations X G c,
  t__law_attributes X G c,
  t__law_element X G c,
  t__law_grown X G c,
  t__law_is_of X G c,
  t__law_is_word X G c,
  t__law_is_name X G c,
  t__law_are_pairs X G c,
  t__law_are_declarations X G c,
  t__law_is_plain X G c,
  t__law_are_attributes X G c,
  t__law_begins X G c,
  t__law_are_children X G c,
  t__law_item X G c,
  t__law_fault X G c,
  t__law_said X G c,
  t__law_odd X G c,
  t__law_spoilt X G c,
  t__law_names_in X G c,
  t__law_right X G c,
  t_law X G c,
  He.free_ok X G (c.fact 57 (f := .free "isinstance") rfl),
  He.free_ok X G (c.fact 58 (f := .free "str") rfl),
  He.free_ok X G (c.fact 59 (f := .free "tuple") rfl),
  He.free_ok X G (c.fact 60 (f := .free "len") rfl),
  He.free_ok X G (c.fact 61 (f := .free "all") rfl),
  He.free_ok X G (c.fact 62 (f := .free "enumerate") rfl),
  He.free_ok X G (c.fact 63 (f := .free "set") rfl),
  He.free_ok X G (c.fact 64 (f := .free "sorted") rfl),
  He.free_ok X G (c.fact 65 (f := .free "int") rfl),
  He.free_ok X G (c.fact 66 (f := .free "list") rfl),
  He.free_ok X G (c.fact 67 (f := .free "dict") rfl),
  He.free_ok X G (c.fact 68 (f := .free "range") rfl),
  He.free_ok X G (c.fact 69 (f := .free "repr") rfl),
  He.free_ok X G (c.fact 70 (f := .free "min") rfl),
  He.str_ok X G (c.fact 72 (f := .str "LETTERS" "abcdefghijklmnopqrstuvwxyz") rfl),
  He.str_ok X G (c.fact 73 (f := .str "ADDRESS_SIGNS" "abcdefghijklmnopqrstuvwxyz0123456789./:-") rfl),
  He.str_ok X G (c.fact 74 (f := .str "PLAIN_SIGNS" "abcdefghijklmnopqrstuvwxyz0123456789 ./-") rfl),
  He.str_ok X G (c.fact 75 (f := .str "BARRED" "xmlns") rfl),
  He.str_ok X G (c.fact 76 (f := .str "ELEMENT" "element") rfl),
  He.str_ok X G (c.fact 77 (f := .str "HOLE" "hole") rfl),
  He.int_ok X G (c.fact 78 (f := .int "MOST_ELEMENTS" 60) rfl),
  He.int_ok X G (c.fact 79 (f := .int "MOST_LEVELS" 8) rfl),
  He.int_ok X G (c.fact 80 (f := .int "MOST_LETTERS" 8) rfl),
  He.int_ok X G (c.fact 81 (f := .int "MOST_PLAIN" 20) rfl)⟩
theorem ex_at {l : List Bool} (e : l.all id = true) (i : Nat) {b : Bool} (h : l[i]? = some b) : b = true := List.all_eq_true.mp e b (List.mem_of_getElem? h)
theorem dOpt_ok {a b : Option Bool} (h : dOpt a b = true) : a = b := of_decide_eq_true h
theorem dVal_ok {a b : Option Value} (h : dVal a b = true) : a = b := of_decide_eq_true h
theorem nd_ok {a b : Addr} (h : (!decide (a = b)) = true) : a ≠ b := by simpa using h
theorem isFc_ok {a : Option PySem.W.CFound} {n : String} (h : isFc a n = true) : a = some (.val (.builtin n)) := by
  unfold isFc at h
  split at h
  · rw [of_decide_eq_true h]
  · cases h
theorem oexB_ok {C : Addr} (h : oexB K C = true) : ∃ nm q N bs bm sn sub ab col dd k0 k1 k2 k3 k5, K.lookup C = some (excClassObj nm q C N bs bm true sn sub ab col dd k0 k1 k2 k3 k5 "ValueError.__new__") ∧ PySem.HandSPX.refsVE bm = true := by
  unfold oexB at h
  split at h
  · rename_i c dd cd sl ho
    split at h
    · rename_i D bm k0 k1 k2 k3 n k5 hm hs
      simp only [Bool.and_eq_true, decide_eq_true_eq, Bool.not_eq_true'] at h
      obtain ⟨rfl, rfl, rfl, hdel, hdi, hve⟩ := h
      obtain ⟨nm, bs, mro, ns, qn, hd, sn, sub, ab, col, del⟩ := cd
      obtain ⟨sl⟩ := sl
      dsimp only at hm hdel hdi hs
      subst hm hdel hdi hs
      exact ⟨nm, qn, ns, bs, bm, sn, sub, ab, col, dd, k0, k1, k2, k3, k5, ho, hve⟩
    · cases h
  · cases h
theorem excC_of (e : ex K = true) : ExcC K (He.ga K "BadPart") := ⟨He.eqO_ok (ex_at e 4 rfl), He.eqO_ok (ex_at e 5 rfl), dOpt_ok (ex_at e 1 rfl), ex_at e 6 rfl, He.eqO_ok (ex_at e 8 rfl), He.eqO_ok (ex_at e 9 rfl), dOpt_ok (ex_at e 10 rfl), dOpt_ok (ex_at e 11 rfl)⟩
theorem xfC_of (e : ex K = true) : XfC K (He.ga K "BadPart") := ⟨He.eqO_ok (ex_at e 4 rfl), He.eqO_ok (ex_at e 5 rfl), dOpt_ok (ex_at e 1 rfl), ex_at e 6 rfl⟩
theorem err_of (X : K.In h) (G : h.Ns mainGlobals mg) (c : He.SaysD fa fn K) (e : ex K = true) : ErrX K mg (He.ga K "BadPart") (He.ga K "GraftError") (He.ga K "BadSurrounding") (He.ga K "BadFilling") (He.ga K "TooMany") (He.ga K "BadQuestion") (He.ga K "BadText") (He.ga K "BadPath") :=
  ⟨He.glo_ok X G (c.fact 0 (f := .glo "GraftError") rfl), He.glo_ok X G (c.fact 3 (f := .glo "BadSurrounding") rfl), He.glo_ok X G (c.fact 4 (f := .glo "BadFilling") rfl), He.glo_ok X G (c.fact 6 (f := .glo "TooMany") rfl), He.glo_ok X G (c.fact 7 (f := .glo "BadQuestion") rfl), He.glo_ok X G (c.fact 1 (f := .glo "BadPart") rfl), He.glo_ok X G (c.fact 2 (f := .glo "BadText") rfl), He.glo_ok X G (c.fact 5 (f := .glo "BadPath") rfl), He.exm_ok (c.fact 82 (f := .exm "BadPart" "GraftError" true) rfl), dOpt_ok (ex_at e 15 rfl), dOpt_ok (ex_at e 16 rfl), dOpt_ok (ex_at e 17 rfl), dOpt_ok (ex_at e 18 rfl), excC_of e, xfC_of e⟩
theorem bad_of (X : K.In h) (G : h.Ns mainGlobals mg) (c : He.SaysD fa fn K) (e : ex K = true) : ∃ fd, BadX K mg (He.ga K "BadPart") (He.ga K "GraftError") (He.ma K (He.ga K "BadPart") "__init__") fd := by
  obtain ⟨fd, F⟩ := c.def_ 0 (d := d_BadPart__init__) rfl
  have F' : FunD K "__init__" "BadPart.__init__" (defArgs sBadPart) (defBody sBadPart) (defScope sBadPart) [] [] (He.ma K (He.ga K "BadPart") "__init__") fd := F
  refine ⟨fd, ⟨He.glo_ok X G (c.fact 0 (f := .glo "GraftError") rfl), ex_at e 12 rfl, He.eqO_ok (ex_at e 13 rfl), isFc_ok (ex_at e 14 rfl)⟩, He.glo_ok X G (c.fact 1 (f := .glo "BadPart") rfl), ⟨oexB_ok (ex_at e 0 rfl), He.eqO_ok (ex_at e 3 rfl), dOpt_ok (ex_at e 1 rfl), dVal_ok (ex_at e 2 rfl), He.keep_ok (c.fact 87 (f := .keep "BadPart") rfl)⟩, (He.meth_ok (c.fact 86 (f := .meth "BadPart" "__init__") rfl)).at_, dVal_ok (ex_at e 7 rfl), fun_ofD F', F'.bindsN fun _ _ _ _ _ _ us hl => match us, hl with | [_, _, _], _ => rfl, He.noat_ok (c.fact 83 (f := .noat "BadPart" "path") rfl), He.noat_ok (c.fact 84 (f := .noat "BadPart" "item") rfl)⟩
theorem place_of (c : He.SaysD fa fn K) : PySem.W.findIn K (.ref (He.ga K "BadPart")) "place" = some none := He.noat_ok (c.fact 85 (f := .noat "BadPart" "place") rfl)
/-- the tables, each with its lambdas' name -/
def Tbl (K : PySem.W.Frag) : List (Addr × Str) := [(tbA K "_law_are_declarations", lamQ "_law_are_declarations" s_law_are_declarations), (tbA K "_law_are_attributes", lamQ "_law_are_attributes" s_law_are_attributes), (tbA K "_law_right", lamQ "_law_right" s_law_right)]
theorem defL_of {base : Heap} {ps : List Str} {T : List (Addr × Str)} (h : ∃ fd, FunD K x x (defArgs st) (defBody st) (defScope st) [] [] (He.fAd K (x, none)) fd) (m : mg x = some (.ref (He.ga K x)))
    (b : ∀ (kV doc pm : Value) (an : Option Addr) (cdv ct : Value) (us : List Value), us.length = ps.length → bindArgs (PySem.W.fnOf x x (defArgs st) (defBody st) (defScope st) .none kV doc pm an cdv ct) ⟨us, []⟩ = pure (ps.zip us))
    (tb : TabB base mg (He.cT K (x, none)).1 (He.cT K (x, none)).2) (hT : (tbA K x, lamQ x st) ∈ T) (hu : ∀ p ∈ T, p.1 = tbA K x → p.2 = lamQ x st) : DefL K mg base x st ps T := by
  obtain ⟨fd, F⟩ := h
  obtain ⟨oc, od, dV, kV, doc, pm, an, cdv, ct, osl, rfl, lk, hcd, hD, hK⟩ := F.ex
  obtain ⟨c, rfl⟩ := He.codeIn_ref hcd
  have ec : He.codeOf K (x, none) = c := He.codeOf_eq lk rfl
  rcases hD with ⟨_, rfl⟩ | ⟨e, _⟩
  · refine ⟨He.ga K x, c, (He.cT K (x, none)).2, oc, od, kV, doc, pm, an, ct, osl, lk, hcd, m, F.kp, .all (b kV doc pm an (.ref c) ct), ?_, hT, hu⟩
    rw [← ec]
    exact tb
  · exact absurd rfl e
section
variable {base : Heap}

theorem dl1_of (X : K.In h) (G : h.Ns mainGlobals mg) (c : He.SaysD fa fn K) (e : ex K = true) (tb : ∀ p ∈ tf.map (He.cT K), TabB base mg p.1 p.2) : DefL K mg base "_law_are_declarations" s_law_are_declarations p_law_are_declarations (Tbl K) := by
  refine defL_of (c.def_ 37 (d := d__law_are_declarations) rfl) (He.glo_ok X G (c.fact 44 (f := .glo "_law_are_declarations") rfl)) (fun _ _ _ _ _ _ us hl => match us, hl with | [_], _ => rfl) (tb _ (List.mem_map.mpr ⟨("_law_are_declarations", none), List.mem_cons_self, rfl⟩)) (List.mem_cons_self) fun p hp => ?_
  rcases hp with _ | ⟨_, hp⟩
  · exact fun _ => rfl
  rcases hp with _ | ⟨_, hp⟩
  · exact fun z => absurd z ((nd_ok (ex_at e 20 rfl)).symm)
  rcases hp with _ | ⟨_, hp⟩
  · exact fun z => absurd z ((nd_ok (ex_at e 21 rfl)).symm)
  cases hp
theorem dl2_of (X : K.In h) (G : h.Ns mainGlobals mg) (c : He.SaysD fa fn K) (e : ex K = true) (tb : ∀ p ∈ tf.map (He.cT K), TabB base mg p.1 p.2) : DefL K mg base "_law_are_attributes" s_law_are_attributes p_law_are_attributes (Tbl K) := by
  refine defL_of (c.def_ 39 (d := d__law_are_attributes) rfl) (He.glo_ok X G (c.fact 46 (f := .glo "_law_are_attributes") rfl)) (fun _ _ _ _ _ _ us hl => match us, hl with | [_], _ => rfl) (tb _ (List.mem_map.mpr ⟨("_law_are_attributes", none), List.mem_cons_of_mem _ List.mem_cons_self, rfl⟩)) (List.mem_cons_of_mem _ List.mem_cons_self) fun p hp => ?_
  rcases hp with _ | ⟨_, hp⟩
  · exact fun z => absurd z (nd_ok (ex_at e 20 rfl))
  rcases hp with _ | ⟨_, hp⟩
  · exact fun _ => rfl
  rcases hp with _ | ⟨_, hp⟩
  · exact fun z => absurd z ((nd_ok (ex_at e 22 rfl)).symm)
  cases hp
theorem dl3_of (X : K.In h) (G : h.Ns mainGlobals mg) (c : He.SaysD fa fn K) (e : ex K = true) (tb : ∀ p ∈ tf.map (He.cT K), TabB base mg p.1 p.2) : DefL K mg base "_law_right" s_law_right p_law_right (Tbl K) := by
  refine defL_of (c.def_ 48 (d := d__law_right) rfl) (He.glo_ok X G (c.fact 55 (f := .glo "_law_right") rfl)) (fun _ _ _ _ _ _ us hl => match us, hl with | [_], _ => rfl) (tb _ (List.mem_map.mpr ⟨("_law_right", none), List.mem_cons_of_mem _ (List.mem_cons_of_mem _ List.mem_cons_self), rfl⟩)) (List.mem_cons_of_mem _ (List.mem_cons_of_mem _ List.mem_cons_self)) fun p hp => ?_
  rcases hp with _ | ⟨_, hp⟩
  · exact fun z => absurd z (nd_ok (ex_at e 21 rfl))
  rcases hp with _ | ⟨_, hp⟩
  · exact fun z => absurd z (nd_ok (ex_at e 22 rfl))
  rcases hp with _ | ⟨_, hp⟩
  · exact fun _ => rfl
  cases hp
end
/-- the law's def keeps its promise, given what the head tells -/
theorem law_of {P : Program} {w : World} (X : K.In h) (G : h.Ns mainGlobals mg) (c : He.SaysD fa fn K) (e : ex K = true) (m : mg "law" = some (.ref f)) :
    ∃ fd, (∀ (s : Shared) (u : Value), BindsTo s fd ⟨[u], []⟩ [("script", u)]) ∧ ∀ base : Heap, (∃ o, base.get? sysModules = some o) → (∀ p ∈ tf.map (He.cT K), TabB base mg p.1 p.2) → FnG P w K mg base CX0 32 f fd plaw (spLaw K (Tbl K)) := by
  obtain ⟨fdB, BX⟩ := bad_of X G c e
  obtain ⟨fd, F⟩ := c.def_ 49 (d := d_law) rfl
  have F' : FunD K "law" "law" (defArgs slaw) (defBody slaw) (defScope slaw) [] [] (He.ga K "law") fd := F
  have e2 := m.symm.trans (He.glo_ok X G (c.fact 56 (f := .glo "law") rfl))
  cases e2
  have b := FunD.bindsA (ps := ["script"]) F' fun _ _ _ _ _ _ us hl => match us, hl with | [_], _ => rfl
  exact ⟨fd, fun s u => b s [u] rfl, fun base hS tb => l_law (txt_of X G c) (err_of X G c e) BX (place_of c) (dl1_of X G c e tb) (dl2_of X G c e tb) (dl3_of X G c e tb) hS (fun_ofD F')⟩
theorem sys_of (e : ex K = true) : ∃ o, K.lookup sysModules = some o := Option.isSome_iff_exists.mp (ex_at e 19 rfl)
end
end G
set_option maxHeartbeats 4000000
namespace G
open PySem PySem.Spec PyProof.Rows L2 LamX
theorem tabs_start {K : PySem.W.Frag} {H : Hp} (h : ∀ p ∈ tf.map (He.cT K), H p.2 = some (.tbl #[])) : Tabs (Tbl K) H := fun p hp => by
  rcases hp with _ | ⟨_, hp⟩
  · exact .nil (h _ (List.mem_map.mpr ⟨("_law_are_declarations", none), List.mem_cons_self, rfl⟩))
  rcases hp with _ | ⟨_, hp⟩
  · exact .nil (h _ (List.mem_map.mpr ⟨("_law_are_attributes", none), List.mem_cons_of_mem _ List.mem_cons_self, rfl⟩))
  rcases hp with _ | ⟨_, hp⟩
  · exact .nil (h _ (List.mem_map.mpr ⟨("_law_right", none), List.mem_cons_of_mem _ (List.mem_cons_of_mem _ List.mem_cons_self), rfl⟩))
  cases hp
theorem room32 : Room 32 callerA := ⟨rfl, by decide, by decide⟩
end G
open PySem PySem.W PySem.Calls PyProof.Rows
theorem PySem.Challenge.cw_prefixgraft_k02_whole_parts_spoilt_anywh_holds : PySem.Challenge.rw_prefixgraft_k02_whole_parts_spoilt_anywh.Holds := by
  w_on; o_law
  refine HandSHeadRun.head_any (r := OpenLaw.row PySem.Challenge.rw_prefixgraft_k02_whole_parts_spoilt_anywh) (q := view (OpenLaw.row PySem.Challenge.rw_prefixgraft_k02_whole_parts_spoilt_anywh).prog [70]) (H := G.hk) (ob := G.ob) (M := 6000) (loose := G.loose) (d := HandSHeadRun.topDef (OpenLaw.row PySem.Challenge.rw_prefixgraft_k02_whole_parts_spoilt_anywh).prog 70) (kwd := []) G.ob_eq
    (by kernel_rfl) (fun s => by kernel_rfl) G.run (by kernel_rfl) (by kernel_rfl) (by kernel_rfl) (by rfl) (by first | assumption | decide +kernel) (by decide +kernel) ⟨rfl, rfl, rfl, rfl, rfl, by decide +kernel⟩ ?hw ?hc
  case hw => w_witness2
  case hc =>
    refine G.walk_g (l := PySem.Challenge.rw_prefixgraft_k02_whole_parts_spoilt_anywh) (n := 63) (k := 32) (x := "script") rfl (by decide) (by kernel_rfl) G.room32 ?F
    intro w mg fa h Y gm hmg0
    obtain ⟨K, KX, c⟩ := Y
    have hmg : mg ("law" : PySem.Str) = some (.ref fa) := by
      have e : (HandSHeadRun.topDef (OpenLaw.row PySem.Challenge.rw_prefixgraft_k02_whole_parts_spoilt_anywh).prog 70).name = ("law" : PySem.Str) := by kernel_rfl
      rw [← e]
      exact hmg0
    obtain ⟨fd, hb, hF⟩ := G.law_of (P := (PySem.Challenge.rw_prefixgraft_k02_whole_parts_spoilt_anywh).prog) (w := w) KX gm c.t.d c.more hmg
    refine ⟨K, G.tf.map (He.cT K), fd, G.spLaw K (G.Tbl K), KX, G.sys_of c.more, fun p hp => ?_, fun p hp => ?_, fun p hp => ?_, hb, fun H a ns hl ht hS => ⟨a, ns, rfl, hS, hl, G.tabs_start ht, fun _ => rfl⟩, fun base _ _ hS tb => hF base hS tb⟩
    · obtain ⟨d, hd, rfl⟩ := List.mem_map.mp hp
      exact c.empty d hd
    · obtain ⟨d, hd, rfl⟩ := List.mem_map.mp hp
      exact c.out d hd
    · obtain ⟨d, hd, rfl⟩ := List.mem_map.mp hp
      exact c.hd d hd
