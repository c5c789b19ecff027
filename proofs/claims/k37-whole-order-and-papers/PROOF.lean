import PyProof.Rows.All
import Wide.All
import OpenK.AllK
import Wide.FinOn
import KE.KStateDown
import HandS.ForMost
import HandS.ForExc
import HandS.Defaults
import HandS.Head0
import HandS.Head1
import HandS.Head2
import HandS.HeadEnd
import HandS.HeadHook1
import HandS.HeadHook2
import HandS.IsInst
import HandS.TupAny
import HandS.TupMul
import HandS.Zip
import HandS.SortRule
import HandS.Conv
import HandS.Style
import HandS.Flow
import HandS.SortKw
import KE.DataMinMax
import KE.SortData
import KE.GoesMore
import HandS.OwnEq
import PySem.Challenge.RW_leastatend_k37_whole_order_and_papers
set_option Elab.async false
set_option linter.all false
set_option maxRecDepth 100000
set_option maxHeartbeats 0
namespace LE
open PySem L2
def topS (i : Nat) : Stmt := PySem.Challenge.pw_leastatend_k37_whole_order_and_papers.main.body.getD i (.Pass ⟨0, 0, 0, 0⟩)
abbrev sIsNumber : Stmt := topS 6
abbrev sIsThing : Stmt := topS 7
abbrev sComesBefore : Stmt := topS 8
abbrev sFirstOf : Stmt := topS 9
abbrev sThingsOf : Stmt := topS 11
abbrev sComesAhead : Stmt := topS 12
abbrev sHasRoom : Stmt := topS 13
abbrev sHandFits : Stmt := topS 14
abbrev sLeads : Stmt := topS 15
abbrev sFitsTwo : Stmt := topS 16
abbrev sHoleFits : Stmt := topS 17
abbrev sFitsOne : Stmt := topS 18
abbrev sInOrder : Stmt := topS 19
abbrev sEntriesOf : Stmt := topS 21
abbrev sIsEntry : Stmt := topS 22
abbrev sRightOrder : Stmt := topS 23
abbrev sOrderPaper : Stmt := topS 24
abbrev sLawDraws : Stmt := topS 26
abbrev sLawNext : Stmt := topS 27
abbrev sLawNumber : Stmt := topS 28
abbrev sLawInCells : Stmt := topS 29
abbrev sLawThree : Stmt := topS 30
abbrev sLawTwoMoved : Stmt := topS 31
abbrev sLawOneMoved : Stmt := topS 32
abbrev sLawTooSoon : Stmt := topS 33
abbrev sLawTaken : Stmt := topS 34
abbrev sLawBeat : Stmt := topS 35
abbrev sLawEmpty : Stmt := topS 36
abbrev sLawLeastBeyond : Stmt := topS 37
abbrev sLawLeads : Stmt := topS 38
abbrev sLawInOrder : Stmt := topS 39
abbrev sLawOneCell : Stmt := topS 40
abbrev sLawTickets : Stmt := topS 41
abbrev sLawMadeThings : Stmt := topS 42
abbrev sLawMadeTwo : Stmt := topS 43
abbrev sLawMadeOne : Stmt := topS 44
abbrev sLawMadeStand : Stmt := topS 45
abbrev sLawLaid : Stmt := topS 46
abbrev sLawStrewn : Stmt := topS 47
abbrev sLawBent : Stmt := topS 48
abbrev sLawEntries : Stmt := topS 49
abbrev sLawAsked : Stmt := topS 50
abbrev sLawComeTo : Stmt := topS 51
abbrev sLawLike : Stmt := topS 52
abbrev sLawPaperOf : Stmt := topS 53
abbrev sLawAllStands : Stmt := topS 54
abbrev sLawSeen : Stmt := topS 55
abbrev sLawTruth : Stmt := topS 56
abbrev sLaw : Stmt := topS 57
def dIsNumber : He.DefD := ⟨("is_number", none), "is_number", "is_number", defArgs sIsNumber, defBody sIsNumber, defScope sIsNumber, [], []⟩
def dIsThing : He.DefD := ⟨("is_thing", none), "is_thing", "is_thing", defArgs sIsThing, defBody sIsThing, defScope sIsThing, [], []⟩
def dComesBefore : He.DefD := ⟨("comes_before", none), "comes_before", "comes_before", defArgs sComesBefore, defBody sComesBefore, defScope sComesBefore, [], []⟩
def dFirstOf : He.DefD := ⟨("first_of", none), "first_of", "first_of", defArgs sFirstOf, defBody sFirstOf, defScope sFirstOf, [], []⟩
def dThingsOf : He.DefD := ⟨("things_of", none), "things_of", "things_of", defArgs sThingsOf, defBody sThingsOf, defScope sThingsOf, [], []⟩
def dComesAhead : He.DefD := ⟨("comes_ahead", none), "comes_ahead", "comes_ahead", defArgs sComesAhead, defBody sComesAhead, defScope sComesAhead, [], []⟩
def dHasRoom : He.DefD := ⟨("has_room", none), "has_room", "has_room", defArgs sHasRoom, defBody sHasRoom, defScope sHasRoom, [], []⟩
def dHandFits : He.DefD := ⟨("hand_fits", none), "hand_fits", "hand_fits", defArgs sHandFits, defBody sHandFits, defScope sHandFits, [], []⟩
def dLeads : He.DefD := ⟨("leads", none), "leads", "leads", defArgs sLeads, defBody sLeads, defScope sLeads, [], []⟩
def dFitsTwo : He.DefD := ⟨("fits_two", none), "fits_two", "fits_two", defArgs sFitsTwo, defBody sFitsTwo, defScope sFitsTwo, [], []⟩
def dHoleFits : He.DefD := ⟨("hole_fits", none), "hole_fits", "hole_fits", defArgs sHoleFits, defBody sHoleFits, defScope sHoleFits, [], []⟩
def dFitsOne : He.DefD := ⟨("fits_one", none), "fits_one", "fits_one", defArgs sFitsOne, defBody sFitsOne, defScope sFitsOne, [], []⟩
def dInOrder : He.DefD := ⟨("in_order", none), "in_order", "in_order", defArgs sInOrder, defBody sInOrder, defScope sInOrder, [], []⟩
def dEntriesOf : He.DefD := ⟨("entries_of", none), "entries_of", "entries_of", defArgs sEntriesOf, defBody sEntriesOf, defScope sEntriesOf, [], []⟩
def dIsEntry : He.DefD := ⟨("is_entry", none), "is_entry", "is_entry", defArgs sIsEntry, defBody sIsEntry, defScope sIsEntry, [], []⟩
def dRightOrder : He.DefD := ⟨("right_order", none), "right_order", "right_order", defArgs sRightOrder, defBody sRightOrder, defScope sRightOrder, [], []⟩
def dOrderPaper : He.DefD := ⟨("order_paper", none), "order_paper", "order_paper", defArgs sOrderPaper, defBody sOrderPaper, defScope sOrderPaper, [], []⟩
def dLawDraws : He.DefD := ⟨("_law_draws", none), "_law_draws", "_law_draws", defArgs sLawDraws, defBody sLawDraws, defScope sLawDraws, [], []⟩
def dLawNext : He.DefD := ⟨("_law_next", none), "_law_next", "_law_next", defArgs sLawNext, defBody sLawNext, defScope sLawNext, [], []⟩
def dLawNumber : He.DefD := ⟨("_law_number", none), "_law_number", "_law_number", defArgs sLawNumber, defBody sLawNumber, defScope sLawNumber, [], []⟩
def dLawInCells : He.DefD := ⟨("_law_in_cells", none), "_law_in_cells", "_law_in_cells", defArgs sLawInCells, defBody sLawInCells, defScope sLawInCells, [], []⟩
def dLawThree : He.DefD := ⟨("_law_three", none), "_law_three", "_law_three", defArgs sLawThree, defBody sLawThree, defScope sLawThree, [], []⟩
def dLawTwoMoved : He.DefD := ⟨("_law_two_moved", none), "_law_two_moved", "_law_two_moved", defArgs sLawTwoMoved, defBody sLawTwoMoved, defScope sLawTwoMoved, [], []⟩
def dLawOneMoved : He.DefD := ⟨("_law_one_moved", none), "_law_one_moved", "_law_one_moved", defArgs sLawOneMoved, defBody sLawOneMoved, defScope sLawOneMoved, [], []⟩
def dLawTooSoon : He.DefD := ⟨("_law_too_soon", none), "_law_too_soon", "_law_too_soon", defArgs sLawTooSoon, defBody sLawTooSoon, defScope sLawTooSoon, [], []⟩
def dLawTaken : He.DefD := ⟨("_law_taken", none), "_law_taken", "_law_taken", defArgs sLawTaken, defBody sLawTaken, defScope sLawTaken, [], []⟩
def dLawBeat : He.DefD := ⟨("_law_beat", none), "_law_beat", "_law_beat", defArgs sLawBeat, defBody sLawBeat, defScope sLawBeat, [], []⟩
def dLawEmpty : He.DefD := ⟨("_law_empty", none), "_law_empty", "_law_empty", defArgs sLawEmpty, defBody sLawEmpty, defScope sLawEmpty, [], []⟩
def dLawLeastBeyond : He.DefD := ⟨("_law_least_beyond", none), "_law_least_beyond", "_law_least_beyond", defArgs sLawLeastBeyond, defBody sLawLeastBeyond, defScope sLawLeastBeyond, [], []⟩
def dLawLeads : He.DefD := ⟨("_law_leads", none), "_law_leads", "_law_leads", defArgs sLawLeads, defBody sLawLeads, defScope sLawLeads, [], []⟩
def dLawInOrder : He.DefD := ⟨("_law_in_order", none), "_law_in_order", "_law_in_order", defArgs sLawInOrder, defBody sLawInOrder, defScope sLawInOrder, [], []⟩
def dLawOneCell : He.DefD := ⟨("_law_one_cell", none), "_law_one_cell", "_law_one_cell", defArgs sLawOneCell, defBody sLawOneCell, defScope sLawOneCell, [], []⟩
def dLawTickets : He.DefD := ⟨("_law_tickets", none), "_law_tickets", "_law_tickets", defArgs sLawTickets, defBody sLawTickets, defScope sLawTickets, [], []⟩
def dLawMadeThings : He.DefD := ⟨("_law_made_things", none), "_law_made_things", "_law_made_things", defArgs sLawMadeThings, defBody sLawMadeThings, defScope sLawMadeThings, [], []⟩
def dLawMadeTwo : He.DefD := ⟨("_law_made_two", none), "_law_made_two", "_law_made_two", defArgs sLawMadeTwo, defBody sLawMadeTwo, defScope sLawMadeTwo, [], []⟩
def dLawMadeOne : He.DefD := ⟨("_law_made_one", none), "_law_made_one", "_law_made_one", defArgs sLawMadeOne, defBody sLawMadeOne, defScope sLawMadeOne, [], []⟩
def dLawMadeStand : He.DefD := ⟨("_law_made_stand", none), "_law_made_stand", "_law_made_stand", defArgs sLawMadeStand, defBody sLawMadeStand, defScope sLawMadeStand, [], []⟩
def dLawLaid : He.DefD := ⟨("_law_laid", none), "_law_laid", "_law_laid", defArgs sLawLaid, defBody sLawLaid, defScope sLawLaid, [], []⟩
def dLawStrewn : He.DefD := ⟨("_law_strewn", none), "_law_strewn", "_law_strewn", defArgs sLawStrewn, defBody sLawStrewn, defScope sLawStrewn, [], []⟩
def dLawBent : He.DefD := ⟨("_law_bent", none), "_law_bent", "_law_bent", defArgs sLawBent, defBody sLawBent, defScope sLawBent, [], []⟩
def dLawEntries : He.DefD := ⟨("_law_entries", none), "_law_entries", "_law_entries", defArgs sLawEntries, defBody sLawEntries, defScope sLawEntries, [], []⟩
def dLawAsked : He.DefD := ⟨("_law_asked", none), "_law_asked", "_law_asked", defArgs sLawAsked, defBody sLawAsked, defScope sLawAsked, [], []⟩
def dLawComeTo : He.DefD := ⟨("_law_come_to", none), "_law_come_to", "_law_come_to", defArgs sLawComeTo, defBody sLawComeTo, defScope sLawComeTo, [], []⟩
def dLawLike : He.DefD := ⟨("_law_like", none), "_law_like", "_law_like", defArgs sLawLike, defBody sLawLike, defScope sLawLike, [], []⟩
def dLawPaperOf : He.DefD := ⟨("_law_paper_of", none), "_law_paper_of", "_law_paper_of", defArgs sLawPaperOf, defBody sLawPaperOf, defScope sLawPaperOf, [], []⟩
def dLawAllStands : He.DefD := ⟨("_law_all_stands", none), "_law_all_stands", "_law_all_stands", defArgs sLawAllStands, defBody sLawAllStands, defScope sLawAllStands, [], []⟩
def dLawSeen : He.DefD := ⟨("_law_seen", none), "_law_seen", "_law_seen", defArgs sLawSeen, defBody sLawSeen, defScope sLawSeen, [], []⟩
def dLawTruth : He.DefD := ⟨("_law_truth", none), "_law_truth", "_law_truth", defArgs sLawTruth, defBody sLawTruth, defScope sLawTruth, [], []⟩
def dLaw : He.DefD := ⟨("law", none), "law", "law", defArgs sLaw, defBody sLaw, defScope sLaw, [], []⟩
def fnL : List He.DefD := [dIsNumber, dIsThing, dComesBefore, dFirstOf, dThingsOf, dComesAhead, dHasRoom, dHandFits, dLeads, dFitsTwo, dHoleFits, dFitsOne, dInOrder, dEntriesOf, dIsEntry, dRightOrder, dOrderPaper, dLawDraws, dLawNext, dLawNumber, dLawInCells, dLawThree, dLawTwoMoved, dLawOneMoved, dLawTooSoon, dLawTaken, dLawBeat, dLawEmpty, dLawLeastBeyond, dLawLeads, dLawInOrder, dLawOneCell, dLawTickets, dLawMadeThings, dLawMadeTwo, dLawMadeOne, dLawMadeStand, dLawLaid, dLawStrewn, dLawBent, dLawEntries, dLawAsked, dLawComeTo, dLawLike, dLawPaperOf, dLawAllStands, dLawSeen, dLawTruth, dLaw]
def fa1 : List He.Fa := [.glo "is_number", .glo "is_thing", .glo "comes_before", .glo "first_of", .glo "things_of", .glo "comes_ahead", .glo "has_room", .glo "hand_fits", .glo "leads", .glo "fits_two", .glo "hole_fits", .glo "fits_one", .glo "in_order", .glo "entries_of", .glo "is_entry", .glo "right_order", .glo "order_paper", .glo "_law_draws", .glo "_law_next", .glo "_law_number", .glo "_law_in_cells", .glo "_law_three", .glo "_law_two_moved", .glo "_law_one_moved", .glo "_law_too_soon", .glo "_law_taken", .glo "_law_beat", .glo "_law_empty", .glo "_law_least_beyond", .glo "_law_leads"]
def fa2 : List He.Fa := [.glo "_law_in_order", .glo "_law_one_cell", .glo "_law_tickets", .glo "_law_made_things", .glo "_law_made_two", .glo "_law_made_one", .glo "_law_made_stand", .glo "_law_laid", .glo "_law_strewn", .glo "_law_bent", .glo "_law_entries", .glo "_law_asked", .glo "_law_come_to", .glo "_law_like", .glo "_law_paper_of", .glo "_law_all_stands", .glo "_law_seen", .glo "_law_truth", .glo "law"]
def fa3 : List He.Fa := [.free "isinstance", .free "len", .free "range", .free "tuple", .free "list", .free "int", .free "sorted", .free "min", .free "max", .free "zip", .free "enumerate", .free "bool", .free "str", .int "MOST_NUMBER" 1000000000000000, .int "MOST_TICKET" 1000000, .glo "NotFit", .exc "NotFit", .exm "NotFit" "NotFit" true]
def faL : List He.Fa := fa1 ++ (fa2 ++ fa3)
def loose1 : List Str := ["RowError", "NotFit", "MOST_NUMBER", "MOST_TICKET", "is_number", "is_thing", "comes_before", "first_of", "things_of", "comes_ahead", "has_room", "hand_fits", "leads", "fits_two", "hole_fits", "fits_one", "in_order", "entries_of", "is_entry", "right_order", "order_paper", "_law_draws", "_law_next", "_law_number", "_law_in_cells", "_law_three"]
def loose2 : List Str := ["_law_two_moved", "_law_one_moved", "_law_too_soon", "_law_taken", "_law_beat", "_law_empty", "_law_least_beyond", "_law_leads", "_law_in_order", "_law_one_cell", "_law_tickets", "_law_made_things", "_law_made_two", "_law_made_one", "_law_made_stand", "_law_laid", "_law_strewn", "_law_bent", "_law_entries", "_law_asked", "_law_come_to", "_law_like", "_law_paper_of", "_law_all_stands", "_law_seen", "_law_truth"]
def looseL : List Str := loose1 ++ loose2
abbrev R : PySem.W.OpenRow := PySem.W.OpenLaw.row PySem.Challenge.rw_leastatend_k37_whole_order_and_papers
abbrev hk : PySem.W.Hook := He.hookD 4 faL fnL
def ob (s : PySem.W.SharedT) : He.AlD := He.obsDG 4 faL fnL (HandSHeadRun.getT s)
theorem ob_eq (s : PySem.W.SharedT) : ob s = hk.obs s.abs := He.obsDG_eq (HandSHeadRun.getT_eq s)
theorem run (w : World) : HandSHeadRun.RunEq R (PySem.W.view R.prog [57]) hk ob 4000 looseL w := by
  intro os
  kernel_rfl
end LE
set_option Elab.async false
set_option linter.all false
set_option maxRecDepth 100000
set_option maxHeartbeats 4000000
/-! A layer over HandS in which tuples are values and only lists stand in the heap. -/
namespace LA
open PySem PySem.Spec PyProof.Rows L2

/-! ### values, heaps of lists -/
inductive AV where
  | non | bl (b : Bool) | int (i : Int) | str (x : Str) | ref (a : Addr) | ty (n : String) | tup (xs : List AV)

abbrev AH := Addr → Option (List AV)
abbrev ASt := List (Option AV)
abbrev AQ := AV → AH → Prop
def aupd (G : AH) (p : Addr) (xs : List AV) : AH := fun b => if b = p then some xs else G b
theorem aupd_same {G : AH} {p : Addr} {xs : List AV} : aupd G p xs p = some xs := by unfold aupd; rw [if_pos rfl]
theorem aupd_ne {G : AH} {p b : Addr} {xs : List AV} (h : b ≠ p) : aupd G p xs b = G b := by unfold aupd; rw [if_neg h]
theorem aupd_aupd {G : AH} {p : Addr} {xs ys : List AV} : aupd (aupd G p xs) p ys = aupd G p ys := by
  funext b; unfold aupd; split <;> rfl
theorem ane_of_none {G : AH} {a b : Addr} {o : List AV} (h : G a = some o) (h' : G b = none) : a ≠ b := by
  intro e; subst e; rw [h] at h'; cases h'
/-- all lists of the one are lists of the other -/
def Sub (G G' : AH) : Prop := ∀ a xs, G a = some xs → G' a = some xs
theorem Sub.refl (G : AH) : Sub G G := fun _ _ h => h
theorem Sub.trans {G G1 G2 : AH} (a : Sub G G1) (b : Sub G1 G2) : Sub G G2 := fun c o h => b c o (a c o h)
theorem Sub.new {G : AH} {p : Addr} {xs : List AV} (h : G p = none) : Sub G (aupd G p xs) := fun c o e => by
  rw [aupd_ne (ane_of_none e h)]; exact e
/-- a list that the first does not know changes -/
theorem Sub.own {G G' : AH} {p : Addr} {xs : List AV} (e : Sub G G') (h : G p = none) : Sub G (aupd G' p xs) := fun c o he => by
  rw [aupd_ne (ane_of_none he h)]; exact e c o he
theorem Sub.free {G G' : AH} (e : Sub G G') {p : Addr} (h : G' p = none) : G p = none := by
  cases q : G p with
  | none => rfl
  | some o => rw [e p o q] at h; cases h

mutual
def AVr (H : Hp) : AV → V → Prop
  | .non, v => v = .non
  | .bl b, v => v = .bl b
  | .int i, v => v = .int i
  | .str x, v => v = .str x
  | .ref a, v => v = .ref a
  | .ty n, v => v = .ty n
  | .tup xs, v => ∃ a vs, v = .ref a ∧ H a = some (.tup vs) ∧ AVs H xs vs
def AVs (H : Hp) : List AV → List V → Prop
  | [], vs => vs = []
  | x :: xs, vs => ∃ v r, vs = v :: r ∧ AVr H x v ∧ AVs H xs r
end
/-- every tuple stays -/
def TK (H H' : Hp) : Prop := ∀ a vs, H a = some (.tup vs) → H' a = some (.tup vs)
theorem TK.refl (H : Hp) : TK H H := fun _ _ h => h
theorem TK.trans {H H1 H2 : Hp} (a : TK H H1) (b : TK H1 H2) : TK H H2 := fun c o h => b c o (a c o h)
theorem TK.new {H : Hp} {p : Addr} {o : HO} (h : H p = none) : TK H (upd H p o) := fun c vs e => by rw [upd_ne (ne_of_none e h)]; exact e
theorem TK.lst {H : Hp} {p : Addr} {xs ys : List V} (h : H p = some (.lst xs)) : TK H (upd H p (.lst ys)) := fun c vs e => by
  rw [upd_ne (ne_of e h (by intro q; cases q))]; exact e
mutual
theorem AVr.mono {H H' : Hp} (k : TK H H') : ∀ {x : AV} {v : V}, AVr H x v → AVr H' x v
  | .non, _, h => h
  | .bl _, _, h => h
  | .int _, _, h => h
  | .str _, _, h => h
  | .ref _, _, h => h
  | .ty _, _, h => h
  | .tup xs, _, h => by
    obtain ⟨a, vs, e, ha, hs⟩ := h
    exact ⟨a, vs, e, k _ _ ha, AVs.mono k hs⟩
theorem AVs.mono {H H' : Hp} (k : TK H H') : ∀ {xs : List AV} {vs : List V}, AVs H xs vs → AVs H' xs vs
  | [], _, h => h
  | x :: xs, _, h => by
    obtain ⟨v, r, e, h1, h2⟩ := h
    exact ⟨v, r, e, AVr.mono k h1, AVs.mono k h2⟩
end
theorem AVs.nil {H : Hp} : AVs H [] [] := rfl
theorem AVs.cons {H : Hp} {x : AV} {v : V} {xs : List AV} {vs : List V} (h : AVr H x v) (t : AVs H xs vs) : AVs H (x :: xs) (v :: vs) := ⟨v, vs, rfl, h, t⟩
theorem AVs.length {H : Hp} : ∀ {xs : List AV} {vs : List V}, AVs H xs vs → xs.length = vs.length
  | [], _, h => by cases (show _ = [] from h); rfl
  | x :: xs, _, h => by
    obtain ⟨v, r, rfl, _, h2⟩ := h
    simp [AVs.length h2]
theorem AVs.get {H : Hp} : ∀ {xs : List AV} {vs : List V} {i : Nat} {x : AV}, AVs H xs vs → xs[i]? = some x → ∃ v, vs[i]? = some v ∧ AVr H x v
  | [], _, _, _, _, e => by simp at e
  | y :: xs, _, 0, x, h, e => by
    obtain ⟨v, r, rfl, h1, _⟩ := h
    simp at e; subst e
    exact ⟨v, rfl, h1⟩
  | y :: xs, _, i + 1, x, h, e => by
    obtain ⟨v, r, rfl, _, h2⟩ := h
    obtain ⟨w, a, b⟩ := AVs.get (i := i) h2 (by simpa using e)
    exact ⟨w, by simpa using a, b⟩
theorem AVs.get' {H : Hp} : ∀ {xs : List AV} {vs : List V} {i : Nat} {v : V}, AVs H xs vs → vs[i]? = some v → ∃ x, xs[i]? = some x ∧ AVr H x v
  | [], _, _, _, h, e => by cases (show _ = [] from h); simp at e
  | y :: xs, _, 0, x, h, e => by
    obtain ⟨v, r, rfl, h1, _⟩ := h
    simp at e; subst e
    exact ⟨y, rfl, h1⟩
  | y :: xs, _, i + 1, x, h, e => by
    obtain ⟨v, r, rfl, _, h2⟩ := h
    obtain ⟨w, a, b⟩ := AVs.get' (i := i) h2 (by simpa using e)
    exact ⟨w, by simpa using a, b⟩
/-- by the places -/
theorem AVs.of_at {H : Hp} : ∀ {xs : List AV} {vs : List V}, xs.length = vs.length → (∀ (i : Nat) x v, xs[i]? = some x → vs[i]? = some v → AVr H x v) → AVs H xs vs
  | [], [], _, _ => rfl
  | [], _ :: _, e, _ => by simp at e
  | _ :: _, [], e, _ => by simp at e
  | x :: xs, v :: vs, e, h => .cons (h 0 x v rfl rfl) (AVs.of_at (by simpa using e) fun i y w a b => h (i + 1) y w (by simpa using a) (by simpa using b))
theorem AVs.at {H : Hp} {xs : List AV} {vs : List V} {i : Nat} {x : AV} {v : V} (h : AVs H xs vs) (a : xs[i]? = some x) (b : vs[i]? = some v) : AVr H x v := by
  obtain ⟨w, e, r⟩ := h.get a
  rw [b] at e; cases e; exact r
theorem AVs.append {H : Hp} : ∀ {xs ys : List AV} {vs ws : List V}, AVs H xs vs → AVs H ys ws → AVs H (xs ++ ys) (vs ++ ws)
  | [], _, _, _, h, k => by cases (show _ = [] from h); exact k
  | x :: xs, _, _, _, h, k => by
    obtain ⟨v, r, rfl, h1, h2⟩ := h
    exact .cons h1 (AVs.append h2 k)
theorem AVs.take {H : Hp} {xs : List AV} {vs : List V} (n : Nat) (h : AVs H xs vs) : AVs H (xs.take n) (vs.take n) :=
  .of_at (by rw [List.length_take, List.length_take, h.length]) fun i x v a b => by
    rw [List.getElem?_take] at a b
    split at a
    · rename_i c
      rw [if_pos c] at b
      exact h.at a b
    · cases a
theorem AVs.drop {H : Hp} {xs : List AV} {vs : List V} (n : Nat) (h : AVs H xs vs) : AVs H (xs.drop n) (vs.drop n) :=
  .of_at (by rw [List.length_drop, List.length_drop, h.length]) fun i x v a b => by
    rw [List.getElem?_drop] at a b
    exact h.at a b
theorem AVs.reverse {H : Hp} {xs : List AV} {vs : List V} (h : AVs H xs vs) : AVs H xs.reverse vs.reverse :=
  .of_at (by rw [List.length_reverse, List.length_reverse, h.length]) fun i x v a b => by
    have h1 : i < xs.length := by have := (List.getElem?_eq_some_iff.mp a).1; rwa [List.length_reverse] at this
    rw [List.getElem?_reverse h1] at a
    rw [List.getElem?_reverse (by rw [← h.length]; exact h1), ← h.length] at b
    exact h.at a b
theorem AVs.set {H : Hp} {xs : List AV} {vs : List V} {x : AV} {v : V} (n : Nat) (h : AVs H xs vs) (r : AVr H x v) : AVs H (xs.set n x) (vs.set n v) :=
  .of_at (by rw [List.length_set, List.length_set, h.length]) fun i y w a b => by
    rw [List.getElem?_set] at a b
    have hl := h.length
    split at a
    · rename_i c
      rw [if_pos c] at b
      split at a
      · rw [if_pos (by omega)] at b
        cases a; cases b; exact r
      · cases a
    · rename_i c
      rw [if_neg c] at b
      exact h.at a b
theorem AVs.erase {H : Hp} {xs : List AV} {vs : List V} (n : Nat) (h : AVs H xs vs) : AVs H (xs.eraseIdx n) (vs.eraseIdx n) :=
  .of_at (by rw [List.length_eraseIdx, List.length_eraseIdx, h.length]) fun i y w a b => by
    rw [List.getElem?_eraseIdx] at a b
    split at a
    · rename_i c
      rw [if_pos c] at b
      exact h.at a b
    · rename_i c
      rw [if_neg c] at b
      exact h.at a b
theorem AVs.rep {H : Hp} {xs : List AV} {vs : List V} (h : AVs H xs vs) : ∀ k : Nat, AVs H (List.replicate k xs).flatten (List.replicate k vs).flatten
  | 0 => rfl
  | k + 1 => by
    rw [List.replicate_succ, List.replicate_succ, List.flatten_cons, List.flatten_cons]
    exact h.append (h.rep k)

/-- the heap of lists is held -/
def RelG (H : Hp) (G : AH) : Prop := ∀ a xs, G a = some xs → ∃ vs, H a = some (.lst vs) ∧ AVs H xs vs
def RelS (H : Hp) (σ : L2.St) (S : ASt) : Prop := σ.length = S.length ∧ ∀ (i : Nat) x, S[i]? = some (some x) → ∃ v, σ[i]? = some (some v) ∧ AVr H x v
theorem RelG.free {H : Hp} {G : AH} (r : RelG H G) {p : Addr} (h : H p = none) : G p = none := by
  cases q : G p with
  | none => rfl
  | some o => obtain ⟨vs, e, _⟩ := r p o q; rw [h] at e; cases e
theorem RelG.sub {H : Hp} {G G' : AH} (r : RelG H G') (s : Sub G G') : RelG H G := fun a xs e => r a xs (s a xs e)
/-- a new object that is no list -/
theorem RelG.newO {H : Hp} {G : AH} {p : Addr} {o : HO} (r : RelG H G) (h : H p = none) : RelG (upd H p o) G := fun a xs e => by
  obtain ⟨vs, e1, e2⟩ := r a xs e
  exact ⟨vs, by rw [upd_ne (ne_of_none e1 h)]; exact e1, e2.mono (TK.new h)⟩
/-- a new list -/
theorem RelG.newL {H : Hp} {G : AH} {p : Addr} {xs : List AV} {vs : List V} (r : RelG H G) (h : H p = none) (hv : AVs H xs vs) : RelG (upd H p (.lst vs)) (aupd G p xs) := fun a ys e => by
  by_cases c : a = p
  · subst c
    rw [aupd_same] at e; cases e
    exact ⟨vs, upd_same, hv.mono (TK.new h)⟩
  · rw [aupd_ne c] at e
    obtain ⟨ws, e1, e2⟩ := r a ys e
    exact ⟨ws, by rw [upd_ne c]; exact e1, e2.mono (TK.new h)⟩
/-- a list changes -/
theorem RelG.setL {H : Hp} {G : AH} {p : Addr} {xs : List AV} {vs ws : List V} (r : RelG H G) (h : H p = some (.lst ws)) (hv : AVs H xs vs) : RelG (upd H p (.lst vs)) (aupd G p xs) := fun a ys e => by
  by_cases c : a = p
  · subst c
    rw [aupd_same] at e; cases e
    exact ⟨vs, upd_same, hv.mono (TK.lst h)⟩
  · rw [aupd_ne c] at e
    obtain ⟨us, e1, e2⟩ := r a ys e
    exact ⟨us, by rw [upd_ne c]; exact e1, e2.mono (TK.lst h)⟩
theorem RelS.mono {H H' : Hp} {σ : L2.St} {S : ASt} (r : RelS H σ S) (k : TK H H') : RelS H' σ S := ⟨r.1, fun i x e => by
  obtain ⟨v, a, b⟩ := r.2 i x e
  exact ⟨v, a, b.mono k⟩⟩
theorem RelS.set {H : Hp} {σ : L2.St} {S : ASt} {x : AV} {v : V} (r : RelS H σ S) (i : Nat) (h : AVr H x v) : RelS H (σ.set i (some v)) (S.set i (some x)) :=
  ⟨by rw [List.length_set, List.length_set, r.1], fun j y e => by
    have hl := r.1
    rw [List.getElem?_set] at e
    rw [List.getElem?_set]
    split at e
    · rename_i c
      rw [if_pos c]
      split at e
      · rw [if_pos (by omega)]
        cases e
        exact ⟨v, rfl, h⟩
      · cases e
    · rename_i c
      rw [if_neg c]
      exact r.2 j y e⟩

/-! ### continuations -/
def KE (H : Hp) (Q : VK) (Qa : AQ) : Prop := ∀ x G v H', TK H H' → RelG H' G → AVr H' x v → Qa x G → Q v H'
theorem KE.mono {H H' : Hp} {Q : VK} {Qa : AQ} (k : KE H Q Qa) (t : TK H H') : KE H' Q Qa := fun x G v H1 a b c d => k x G v H1 (t.trans a) b c d
abbrev AT := ASt → AH → AQ → Prop
abbrev ATT := ASt → AH → (Bool → AH → Prop) → Prop
abbrev ATA := ASt → AH → (List AV → AH → Prop) → Prop
structure AEnds where
  nx : ASt → AH → Prop
  rt : AQ
  bk : ASt → AH → Prop := fun _ _ => False
  ct : ASt → AH → Prop := fun _ _ => False
abbrev ATS := AEnds → ASt → AH → Prop
def KN (H : Hp) (N : L2.St → Hp → Prop) (Na : ASt → AH → Prop) : Prop := ∀ S G σ H', TK H H' → RelS H' σ S → RelG H' G → Na S G → N σ H'
theorem KN.mono {H H' : Hp} {N : L2.St → Hp → Prop} {Na : ASt → AH → Prop} (k : KN H N Na) (t : TK H H') : KN H' N Na := fun S G σ H1 a b c d => k S G σ H1 (t.trans a) b c d
structure EndsR (H : Hp) (Da : AEnds) (D : Ends) : Prop where
  nx : KN H D.nx Da.nx
  rt : KE H D.rt Da.rt
  bk : KN H D.bk Da.bk
  ct : KN H D.ct Da.ct
theorem EndsR.mono {H H' : Hp} {Da : AEnds} {D : Ends} (k : EndsR H Da D) (t : TK H H') : EndsR H' Da D := ⟨k.nx.mono t, k.rt.mono t, k.bk.mono t, k.ct.mono t⟩
/-- the readings of HandS that these stand for -/
def lowE (a : AT) : TE := fun σ H Q => ∃ S G Qa, RelS H σ S ∧ RelG H G ∧ a S G Qa ∧ KE H Q Qa
def lowT (a : ATT) : TT := fun σ H Q => ∃ S G Qa, RelS H σ S ∧ RelG H G ∧ a S G Qa ∧ ∀ b G' H', TK H H' → RelG H' G' → Qa b G' → Q b H'
def lowA (a : ATA) : TA := fun σ H Q => ∃ S G Qa, RelS H σ S ∧ RelG H G ∧ a S G Qa ∧ ∀ xs G' vs H', TK H H' → RelG H' G' → AVs H' xs vs → Qa xs G' → Q vs H'
def lowS (a : ATS) : TS := fun D σ H => ∃ S G Da, RelS H σ S ∧ RelG H G ∧ a Da S G ∧ EndsR H Da D
abbrev AE (X : Cx) (e : Expr) (a : AT) : Prop := PE X e (lowE a)
abbrev APt (X : Cx) (e : Expr) (a : ATT) : Prop := PT X e (lowT a)
abbrev APw (X : Cx) (e : Expr) (a : ATT) : Prop := PW X e (lowT a)
abbrev APa (X : Cx) (es : List Expr) (a : ATA) : Prop := PA X es (lowA a)
abbrev AS (X : Cx) (s : Stmt) (a : ATS) : Prop := PS X s (lowS a)
abbrev ASs (X : Cx) (s : List Stmt) (a : ATS) : Prop := PSs X s (lowS a)
theorem PEimp {X : Cx} {e : Expr} {t t' : TE} (h : PE X e t) (i : ∀ σ H Q, t' σ H Q → t σ H Q) : PE X e t' := ⟨fun pins s σ H Q I q => h.run pins s σ H Q I (i σ H Q q)⟩
theorem PTimp {X : Cx} {e : Expr} {t t' : TT} (h : PT X e t) (i : ∀ σ H Q, t' σ H Q → t σ H Q) : PT X e t' := ⟨fun pins s σ H Q I q => h.run pins s σ H Q I (i σ H Q q)⟩
theorem PWimp {X : Cx} {e : Expr} {t t' : TT} (h : PW X e t) (i : ∀ σ H Q, t' σ H Q → t σ H Q) : PW X e t' := ⟨fun wh pins s σ H Q I q => h.run wh pins s σ H Q I (i σ H Q q)⟩
theorem PAimp {X : Cx} {e : List Expr} {t t' : TA} (h : PA X e t) (i : ∀ σ H Q, t' σ H Q → t σ H Q) : PA X e t' := ⟨fun pos pins s σ H Q I q => h.run pos pins s σ H Q I (i σ H Q q)⟩
theorem PSimp {X : Cx} {e : Stmt} {t t' : TS} (h : PS X e t) (i : ∀ D σ H, t' D σ H → t D σ H) : PS X e t' := ⟨fun pins s σ H D I q => h.run pins s σ H D I (i D σ H q)⟩
theorem PSsimp {X : Cx} {e : List Stmt} {t t' : TS} (h : PSs X e t) (i : ∀ D σ H, t' D σ H → t D σ H) : PSs X e t' := ⟨fun pins s σ H D I q => h.run pins s σ H D I (i D σ H q)⟩

/-! ### expressions -/
def aVar (i : Nat) : AT := fun S G Q => ∃ x, S[i]? = some (some x) ∧ Q x G
def aC (x : AV) : AT := fun _ G Q => Q x G
section
variable {X : Cx} {a b c e : Expr} {es : List Expr} {aa ab ac : AT} {ta tb : ATT} {la : ATA} {pos : Pos}
theorem ae_var (i : Nat) {x : Str} (hN : X.N[i]? = some x := by rfl) (hv : Vis X.env.scope x := by first | exact Or.inl rfl | exact Or.inr (Or.inl rfl) | exact Or.inr (Or.inr rfl)) (hd : (x == ("__debug__" : Str)) = false := by decide)
    (hcd : (x == ("__classdict__" : Str)) = false := by decide) : AE X (.Name x pos) (aVar i) := PEimp (pe_var hN hv hd hcd) fun σ H Q ⟨S, G, Qa, rs, rg, ⟨x, e, h⟩, k⟩ => by
  obtain ⟨v, e1, r⟩ := rs.2 i x e
  exact ⟨v, e1, k x G v H (TK.refl H) rg r h⟩
theorem low_c {x : AV} {v : V} (h : ∀ H, AVr H x v) : ∀ σ H Q, lowE (aC x) σ H Q → tC v σ H Q := fun σ H Q ⟨S, G, Qa, rs, rg, h1, k⟩ => k x G v H (TK.refl H) rg (h H) h1
theorem ae_int {i j} : AE X (.Constant (.int i) j pos) (aC (.int i)) := PEimp pe_int (low_c fun _ => rfl)
theorem ae_bl {i j} : AE X (.Constant (.bool i) j pos) (aC (.bl i)) := PEimp pe_bl (low_c fun _ => rfl)
theorem ae_non {j} : AE X (.Constant .none j pos) (aC .non) := PEimp pe_non (low_c fun _ => rfl)
theorem ae_str {i j} : AE X (.Constant (.str i) j pos) (aC (.str i)) := PEimp pe_str (low_c fun _ => rfl)
theorem ae_gint {x : Str} {i : Int} (hm : ∃ t, X.mg x = some (.int i t)) (hg : Gl X x := by rfl) (hd : (x == ("__debug__" : Str)) = false := by decide) : AE X (.Name x pos) (aC (.int i)) := by
  obtain ⟨t, hm⟩ := hm
  exact PEimp (pe_glob (v := .int i) hg hm (show RelV (.int i) (Value.int i t) from ⟨t, rfl⟩) hd) (low_c fun _ => rfl)
/-- a built-in class as a value -/
theorem ae_ty {x : Str} {n : String} (hm : X.mg x = none) (hv : bootBuiltins x = some (.type n)) (hg : Gl X x := by rfl) (hn : x ≠ "__name__" := by decide) (hd : (x == ("__debug__" : Str)) = false := by decide) : AE X (.Name x pos) (aC (.ty n)) :=
  PEimp (pe_bltn (v := .ty n) hg hm hv rfl hn hd) (low_c fun _ => rfl)

/-- two-place operations -/
abbrev AO := AV → AV → AH → AQ → Prop
def OSnd (r : R2) (o : AO) : Prop := ∀ H G x y v u Q Qa, RelG H G → AVr H x v → AVr H y u → o x y G Qa → KE H Q Qa → r v u H Q
def aOp (o : AO) (aa ab : AT) : AT := fun S G Q => aa S G fun x G1 => ab S G1 fun y G2 => o x y G2 Q
theorem low_op {r : R2} {o : AO} (os : OSnd r o) : ∀ σ H Q, lowE (aOp o aa ab) σ H Q → tOp r (lowE aa) (lowE ab) σ H Q := fun σ H Q ⟨S, G, Qa, rs, rg, h, k⟩ =>
  ⟨S, G, _, rs, rg, h, fun x G1 v H1 tk1 rg1 rx h1 => ⟨S, G1, _, rs.mono tk1, rg1, h1, fun y G2 u H2 tk2 rg2 ry h2 => os H2 G2 x y v u Q Qa rg2 (rx.mono tk2) ry h2 (k.mono (tk1.trans tk2))⟩⟩
def OpA (X : Cx) (f : Value → Value → Sem Value) (o : AO) : Prop := ∃ r, OpR X f r ∧ OSnd r o
theorem ae_op {op : Operator} {o : AO} (ho : OpA X (binaryOp op) o) (ha : AE X a aa) (hb : AE X b ab) : AE X (.BinOp a op b pos) (aOp o aa ab) := by
  obtain ⟨r, ho, os⟩ := ho
  exact PEimp (pe_op ho ha hb) (low_op os)
theorem ae_cmp {op : CmpOp} {o : AO} (ho : OpA X (compareOp op) o) (ha : AE X a aa) (hb : AE X b ab) (hm : behindInMarks op b = false := by first | exact nomark _ | with_unfolding_all rfl) : AE X (.Compare a [op] [b] pos) (aOp o aa ab) := by
  obtain ⟨r, ho, os⟩ := ho
  exact PEimp (pe_cmpR ho ha hb hm) (low_op os)
/-- a value as a test -/
def aTest (aa : AT) : ATT := fun S G Q => aa S G fun x G1 => ∃ b, x = .bl b ∧ Q b G1
theorem low_test {t : TE} (i : ∀ σ H Q, lowE aa σ H Q → t σ H Q) : ∀ σ H Q, lowT (aTest aa) σ H Q → t σ H fun x H' => ∃ k, x = .bl k ∧ Q k H' := fun σ H Q ⟨S, G, Qa, rs, rg, h, k⟩ =>
  i _ _ _ ⟨S, G, _, rs, rg, h, fun x G1 v H1 tk rg1 rx h1 => by
    obtain ⟨b, rfl, q⟩ := h1
    exact ⟨b, rx, k b G1 H1 tk rg1 q⟩⟩
theorem at_cmp {op : CmpOp} {o : AO} (ho : OpA X (compareOp op) o) (ha : AE X a aa) (hb : AE X b ab) (hm : behindInMarks op b = false := by first | exact nomark _ | with_unfolding_all rfl) : APt X (.Compare a [op] [b] pos) (aTest (aOp o aa ab)) := by
  obtain ⟨r, ho, os⟩ := ho
  exact PTimp (pt_cmpR ho ha hb hm) (low_test (low_op os))
theorem at_val (h : AE X e aa) (he : ∀ whole, isTrue e X.env whole = (do let v ← whole; standAt e.pos; holding [v] (truthy v)) := by intro _; rfl) : APt X e (aTest aa) :=
  PTimp (pt_val h he) (low_test fun _ _ _ h => h)
def aAnd (t u : ATT) : ATT := fun S G Q => t S G fun c G1 => if c = true then u S G1 Q else Q false G1
def aOr (t u : ATT) : ATT := fun S G Q => t S G fun c G1 => if c = true then Q true G1 else u S G1 Q
def aNot (t : ATT) : ATT := fun S G Q => t S G fun c G1 => Q (!c) G1
variable {rest : List Expr}
theorem at_not (ha : APt X a ta) : APt X (.UnaryOp .Not a pos) (aNot ta) := PTimp (pt_not ha) fun σ H Q ⟨S, G, Qa, rs, rg, h, k⟩ =>
  ⟨S, G, _, rs, rg, h, fun b G1 H1 tk rg1 h1 => k _ G1 H1 tk rg1 h1⟩
theorem aw_and1 (ha : APt X a ta) : APw X (.BoolOp .And [a] pos) ta := pw_and1 ha
theorem aw_or1 (ha : APt X a ta) : APw X (.BoolOp .Or [a] pos) ta := pw_or1 ha
theorem aw_and (ha : APt X a ta) (hb : APw X (.BoolOp .And (b :: rest) pos) tb) : APw X (.BoolOp .And (a :: b :: rest) pos) (aAnd ta tb) := PWimp (pw_and ha hb) fun σ H Q ⟨S, G, Qa, rs, rg, h, k⟩ =>
  ⟨S, G, _, rs, rg, h, fun c G1 H1 tk rg1 h1 => by
    cases c with
    | true => exact ⟨S, G1, Qa, rs.mono tk, rg1, h1, fun d G2 H2 tk2 rg2 h2 => k d G2 H2 (tk.trans tk2) rg2 h2⟩
    | false => exact k false G1 H1 tk rg1 h1⟩
theorem aw_or (ha : APt X a ta) (hb : APw X (.BoolOp .Or (b :: rest) pos) tb) : APw X (.BoolOp .Or (a :: b :: rest) pos) (aOr ta tb) := PWimp (pw_or ha hb) fun σ H Q ⟨S, G, Qa, rs, rg, h, k⟩ =>
  ⟨S, G, _, rs, rg, h, fun c G1 H1 tk rg1 h1 => by
    cases c with
    | false => exact ⟨S, G1, Qa, rs.mono tk, rg1, h1, fun d G2 H2 tk2 rg2 h2 => k d G2 H2 (tk.trans tk2) rg2 h2⟩
    | true => exact k true G1 H1 tk rg1 h1⟩
theorem aw_pt (h : APw X e ta) : APt X e ta := h.pt
/-- .. as values -/
def aAndV (aa ab : AT) : AT := fun S G Q => aa S G fun x G1 => ∃ c, x = .bl c ∧ if c = true then ab S G1 Q else Q (.bl false) G1
def aOrV (aa ab : AT) : AT := fun S G Q => aa S G fun x G1 => ∃ c, x = .bl c ∧ if c = true then Q (.bl true) G1 else ab S G1 Q
def aNotV (aa : AT) : AT := fun S G Q => aa S G fun x G1 => ∃ c, x = .bl c ∧ Q (.bl (!c)) G1
theorem ae_one {op} (h : AE X a aa) : AE X (.BoolOp op [a] pos) aa := pe_one h
theorem ae_and (ha : AE X a aa) (hb : AE X (.BoolOp .And (b :: rest) pos) ab) : AE X (.BoolOp .And (a :: b :: rest) pos) (aAndV aa ab) := PEimp (pe_and ha hb) fun σ H Q ⟨S, G, Qa, rs, rg, h, k⟩ =>
  ⟨S, G, _, rs, rg, h, fun x G1 v H1 tk rg1 rx h1 => by
    obtain ⟨c, rfl, h1⟩ := h1
    refine ⟨c, rx, ?_⟩
    cases c with
    | true => exact ⟨S, G1, Qa, rs.mono tk, rg1, h1, k.mono tk⟩
    | false => exact k (.bl false) G1 _ H1 tk rg1 rfl h1⟩
theorem ae_or (ha : AE X a aa) (hb : AE X (.BoolOp .Or (b :: rest) pos) ab) : AE X (.BoolOp .Or (a :: b :: rest) pos) (aOrV aa ab) := PEimp (pe_or ha hb) fun σ H Q ⟨S, G, Qa, rs, rg, h, k⟩ =>
  ⟨S, G, _, rs, rg, h, fun x G1 v H1 tk rg1 rx h1 => by
    obtain ⟨c, rfl, h1⟩ := h1
    refine ⟨c, rx, ?_⟩
    cases c with
    | false => exact ⟨S, G1, Qa, rs.mono tk, rg1, h1, k.mono tk⟩
    | true => exact k (.bl true) G1 _ H1 tk rg1 rfl h1⟩
theorem ae_not (ha : AE X a aa) : AE X (.UnaryOp .Not a pos) (aNotV aa) := PEimp (pe_not ha) fun σ H Q ⟨S, G, Qa, rs, rg, h, k⟩ =>
  ⟨S, G, _, rs, rg, h, fun x G1 v H1 tk rg1 rx h1 => by
    obtain ⟨c, rfl, h1⟩ := h1
    exact ⟨c, rx, k (.bl (!c)) G1 _ H1 tk rg1 rfl h1⟩⟩
/-- a op b op' c -/
def aChain (o o' : AO) (aa ab ac : AT) : AT := fun S G Q => aa S G fun x G1 => ab S G1 fun y G2 => o x y G2 fun z G3 => ∃ k, z = .bl k ∧ (if k = true then ac S G3 fun w G4 => o' y w G4 Q else Q (.bl false) G3)
theorem ae_chain {op op' : CmpOp} {o o' : AO} (ho : OpA X (compareOp op) o) (ho' : OpA X (compareOp op') o') (ha : AE X a aa) (hb : AE X b ab) (hc : AE X c ac)
    (hm : lastMarks [op, op'] [b, c] = false := by with_unfolding_all rfl) : AE X (.Compare a [op, op'] [b, c] pos) (aChain o o' aa ab ac) := by
  obtain ⟨r, ho, os⟩ := ho
  obtain ⟨r', ho', os'⟩ := ho'
  refine PEimp (pe_chain ho ho' ha hb hc hm) fun σ H Q ⟨S, G, Qa, rs, rg, h, k⟩ => ⟨S, G, _, rs, rg, h, fun x G1 v H1 tk1 rg1 rx h1 => ⟨S, G1, _, rs.mono tk1, rg1, h1, fun y G2 u H2 tk2 rg2 ry h2 =>
    os H2 G2 x y v u _ _ rg2 (rx.mono tk2) ry h2 fun z G3 w H3 tk3 rg3 rz h3 => ?_⟩⟩
  obtain ⟨d, rfl, h3⟩ := h3
  refine ⟨d, rz, ?_⟩
  cases d with
  | true => exact ⟨S, G3, _, rs.mono (tk1.trans (tk2.trans tk3)), rg3, h3, fun w G4 u' H4 tk4 rg4 rw h4 => os' H4 G4 y w u u' Q Qa rg4 (ry.mono (tk3.trans tk4)) rw h4 (k.mono (tk1.trans (tk2.trans (tk3.trans tk4))))⟩
  | false => exact k (.bl false) G3 _ H3 (tk1.trans (tk2.trans tk3)) rg3 rfl h3

/-! ### argument lists, displays -/
def aNil : ATA := fun _ G Q => Q [] G
def aCons (aa : AT) (la : ATA) : ATA := fun S G Q => aa S G fun x G1 => la S G1 fun xs G2 => Q (x :: xs) G2
theorem aa_nil : APa X [] aNil := PAimp pa_nil fun σ H Q ⟨S, G, Qa, rs, rg, h, k⟩ => k [] G [] H (TK.refl H) rg rfl h
theorem aa_cons (ha : AE X e aa) (hr : APa X es la) (hs : starEach (e :: es) X.env = (false, eval e X.env) :: starEach es X.env := by rfl) : APa X (e :: es) (aCons aa la) := PAimp (pa_cons ha hr hs) fun σ H Q ⟨S, G, Qa, rs, rg, h, k⟩ =>
  ⟨S, G, _, rs, rg, h, fun x G1 v H1 tk1 rg1 rx h1 => ⟨S, G1, _, rs.mono tk1, rg1, h1, fun xs G2 vs H2 tk2 rg2 rxs h2 => k _ G2 _ H2 (tk1.trans tk2) rg2 (.cons (rx.mono tk2) rxs) h2⟩⟩
def aTup (la : ATA) : AT := fun S G Q => la S G fun xs G1 => xs.length ≤ 100000 ∧ Q (.tup xs) G1
def aLst (la : ATA) : AT := fun S G Q => la S G fun xs G1 => xs.length ≤ 100000 ∧ ∀ p, G1 p = none → Q (.ref p) (aupd G1 p xs)
theorem sz_of {n : Nat} (h : n ≤ 100000) : n ≤ sizeLine := Nat.le_trans h (by decide)
theorem sz_lt {n : Nat} (h : n < 100000) : n < sizeLine := Nat.lt_of_lt_of_le h (by decide)
/-- a new tuple, a new list -/
theorem KE.tup {H : Hp} {G : AH} {Q : VK} {Qa : AQ} {xs : List AV} {vs : List V} (k : KE H Q Qa) (rg : RelG H G) (rx : AVs H xs vs) (q : Qa (.tup xs) G) : ∀ p, H p = none → Q (.ref p) (upd H p (.tup vs)) := fun p hp =>
  k (.tup xs) G _ _ (TK.new hp) (rg.newO hp) ⟨p, vs, rfl, upd_same, rx.mono (TK.new hp)⟩ q
theorem KE.newl {H : Hp} {G : AH} {Q : VK} {Qa : AQ} {xs : List AV} {vs : List V} (k : KE H Q Qa) (rg : RelG H G) (rx : AVs H xs vs) (q : ∀ p, G p = none → Qa (.ref p) (aupd G p xs)) : ∀ p, H p = none → Q (.ref p) (upd H p (.lst vs)) := fun p hp =>
  k (.ref p) _ _ _ (TK.new hp) (rg.newL hp rx) rfl (q p (rg.free hp))
theorem ae_tup {x1} (h : APa X es la) : AE X (.Tuple es x1 pos) (aTup la) := PEimp (pe_tup h) fun σ H Q ⟨S, G, Qa, rs, rg, h, k⟩ =>
  ⟨S, G, _, rs, rg, h, fun xs G1 vs H1 tk rg1 rx ⟨hl, h1⟩ => ⟨by rw [← rx.length]; exact sz_of hl, (k.mono tk).tup rg1 rx h1⟩⟩
theorem ae_lst (h : APa X es la) : AE X (.List es pos) (aLst la) := PEimp (pe_lst h) fun σ H Q ⟨S, G, Qa, rs, rg, h, k⟩ =>
  ⟨S, G, _, rs, rg, h, fun xs G1 vs H1 tk rg1 rx ⟨hl, h1⟩ => ⟨by rw [← rx.length]; exact sz_of hl, (k.mono tk).newl rg1 rx h1⟩⟩

/-! ### built-ins by name -/
abbrev AC := List AV → AH → AQ → Prop
def CSnd (r : List V → Hp → VK → Prop) (o : AC) : Prop := ∀ H G xs vs Q Qa, RelG H G → AVs H xs vs → o xs G Qa → KE H Q Qa → r vs H Q
def CalA (X : Cx) (f : Value) (o : AC) : Prop := ∃ r, CallR X f r ∧ CSnd r o
def aCB (o : AC) (la : ATA) : AT := fun S G Q => la S G fun xs G1 => o xs G1 Q
theorem low_cb {r : List V → Hp → VK → Prop} {o : AC} (os : CSnd r o) : ∀ σ H Q, lowE (aCB o la) σ H Q → tCB r (lowA la) σ H Q := fun σ H Q ⟨S, G, Qa, rs, rg, h, k⟩ =>
  ⟨S, G, _, rs, rg, h, fun xs G1 vs H1 tk rg1 rx h1 => os H1 G1 xs vs Q Qa rg1 rx h1 (k.mono tk)⟩
variable {x : Str} {p : Pos} {id T : String}
theorem ae_callB {o : AC} (hc : CalA X (.builtin id) o) (hm : X.mg x = none) (hv : bootBuiltins x = some (.builtin id)) (ha : APa X (e :: es) la) (hg : Gl X x := by rfl) (hn : x ≠ "__name__" := by decide) (hdb : (x == ("__debug__" : Str)) = false := by decide)
    (he : starEach (e :: es) X.env = (false, eval e X.env) :: starEach es X.env := by rfl) (hpl : (backTo pos (starEach es X.env)).any (·.1) = false := by rfl) : AE X (.Call (.Name x p) (e :: es) [] pos) (aCB o la) := by
  obtain ⟨r, hc, os⟩ := hc
  exact PEimp (pe_callB hc hg hm hv ha hn hdb he hpl) (low_cb os)
theorem ae_callTy {o : AC} (hc : CalA X (.type T) o) (hm : X.mg x = none) (hv : bootBuiltins x = some (.type T)) (ha : APa X (e :: es) la) (hg : Gl X x := by rfl) (hn : x ≠ "__name__" := by decide) (hdb : (x == ("__debug__" : Str)) = false := by decide)
    (he : starEach (e :: es) X.env = (false, eval e X.env) :: starEach es X.env := by rfl) (hpl : (backTo pos (starEach es X.env)).any (·.1) = false := by rfl) : AE X (.Call (.Name x p) (e :: es) [] pos) (aCB o la) := by
  obtain ⟨r, hc, os⟩ := hc
  exact PEimp (pe_callTy hc hg hm hv ha hn hdb he hpl) (low_cb os)

/-! ### defs -/
/-- a promise over the lists' heap -/
abbrev ASp := List AV → AH → AQ → Prop
def lift (sp : ASp) : Sp := fun vs H Q _ => ∃ xs G Qa, RelG H G ∧ AVs H xs vs ∧ sp xs G Qa ∧ KE H Q Qa
/-- a def of the text that keeps its promise -/
structure Cal (P : Program) (w : World) (K : PySem.W.Frag) (mg : Str → Option Value) (base : Heap) (k : Nat) (x : Str) (ps : List Str) (sp : ASp) : Prop where
  ex : ∃ f fd, FnOk P w K mg base CX0 k f fd ps (lift sp) ∧ mg x = some (.ref f) ∧ PySem.W.keepIn K (.ref f) = true ∧ Binds K fd ps []
def aCall (sp : ASp) (la : ATA) : AT := fun S G Q => la S G fun xs G1 => sp xs G1 Q
theorem ae_call {k m : Nat} {ps : List Str} {sp : ASp} (C : Cal X.prog X.w X.K X.mg X.base k x ps sp) (hr : Room m X.A) (ha : APa X (e :: es) la) (hk : k ≤ m := by decide) (hg : Gl X x := by rfl) (hdb : (x == ("__debug__" : Str)) = false := by decide)
    (he : starEach (e :: es) X.env = (false, eval e X.env) :: starEach es X.env := by rfl) (hpl : (backTo pos (starEach es X.env)).any (·.1) = false := by rfl) : AE X (.Call (.Name x p) (e :: es) [] pos) (aCall sp la) := by
  obtain ⟨f, fd, F, gm, kp, bd⟩ := C.ex
  refine PEimp (pe_call F (hr.mono hk) hg gm kp bd .nil pass0 ha hdb he hpl) fun σ H Q ⟨S, G, Qa, rs, rg, h, k⟩ => ⟨S, G, _, rs, rg, h, fun xs G1 vs H1 tk rg1 rx h1 => ?_⟩
  show lift sp (vs ++ []) H1 Q E0
  rw [List.append_nil]
  exact ⟨xs, G1, Qa, rg1, rx, h1, k.mono tk⟩
end
end LA
set_option Elab.async false
set_option linter.all false
set_option maxRecDepth 100000
set_option maxHeartbeats 4000000
namespace LA
open PySem PySem.Spec PyProof.Rows L2

/-! ### data -/
mutual
def AV.D : AV → Option PyData
  | .non => some .none
  | .bl b => some (.bool b)
  | .int i => some (.int i)
  | .str x => some (.str x)
  | .ref _ => none
  | .ty _ => none
  | .tup xs => match AV.Ds xs with
    | some ds => some (.tuple ds)
    | none => none
def AV.Ds : List AV → Option (List PyData)
  | [] => some []
  | x :: xs => match AV.D x, AV.Ds xs with
    | some d, some ds => some (d :: ds)
    | _, _ => none
end
mutual
theorem dp_of {K : PySem.W.Frag} {H : Hp} : ∀ {x : AV} {v : V} {d : PyData}, AVr H x v → x.D = some d → Dp K H v d
  | .non, _, _, h, e => by cases (show _ = V.non from h); cases e; exact .non
  | .bl b, _, _, h, e => by cases (show _ = V.bl b from h); cases e; exact .bl b
  | .int b, _, _, h, e => by cases (show _ = V.int b from h); cases e; exact .int b
  | .str b, _, _, h, e => by cases (show _ = V.str b from h); cases e; exact .str b
  | .ref _, _, _, _, e => by cases e
  | .ty _, _, _, _, e => by cases e
  | .tup xs, _, d, h, e => by
    obtain ⟨a, vs, rfl, ha, hs⟩ := h
    unfold AV.D at e
    split at e
    · rename_i ds e2
      cases e
      exact .tup (SqT.of ha) (dps_of hs e2)
    · cases e
theorem dps_of {K : PySem.W.Frag} {H : Hp} : ∀ {xs : List AV} {vs : List V} {ds : List PyData}, AVs H xs vs → AV.Ds xs = some ds → DpAll K H vs ds
  | [], _, _, h, e => by cases (show _ = [] from h); cases e; exact .nil
  | x :: xs, _, ds, h, e => by
    obtain ⟨v, r, rfl, h1, h2⟩ := h
    unfold AV.Ds at e
    split at e
    · rename_i d ds e1 e2
      cases e
      exact .cons (dp_of h1 e1) (dps_of h2 e2)
    · cases e
end
/-- what a value is as data: a tuple's own, a list's by the heap -/
def AD (G : AH) (x : AV) (d : PyData) : Prop := x.D = some d ∨ ∃ p xs ds, x = .ref p ∧ G p = some xs ∧ AV.Ds xs = some ds ∧ d = .list ds
theorem AD.dp {K : PySem.W.Frag} {H : Hp} {G : AH} {x : AV} {v : V} {d : PyData} (h : AD G x d) (rg : RelG H G) (r : AVr H x v) : Dp K H v d := by
  rcases h with h | ⟨p, xs, ds, rfl, hp, hd, rfl⟩
  · exact dp_of r h
  · cases (show v = V.ref p from r)
    obtain ⟨vs, e, hs⟩ := rg p xs hp
    exact .lst (SqL.of e) (dps_of hs hd)

/-! ### operators -/
def oAdd : AO := fun x y G Q => match x, y with
  | .int i, .int j => Q (.int (i + j)) G
  | .tup xs, .tup ys => xs.length + ys.length ≤ 100000 ∧ Q (.tup (xs ++ ys)) G
  | .ref p, .ref q => ∃ xs ys, G p = some xs ∧ G q = some ys ∧ xs.length + ys.length ≤ 100000 ∧ ∀ r, G r = none → Q (.ref r) (aupd G r (xs ++ ys))
  | _, _ => False
def oI (C : Int → Int → Prop) (g : Int → Int → AV) : AO := fun x y G Q => match x, y with
  | .int i, .int j => C i j ∧ Q (g i j) G
  | _, _ => False
def oSub : AO := fun x y G Q => match x, y with
  | .int i, .int j => Q (.int (i - j)) G
  | _, _ => False
def oMul : AO := fun x y G Q => match x, y with
  | .int i, .int j => CMul i j ∧ Q (.int (i * j)) G
  | .ref p, .int k => ∃ xs, G p = some xs ∧ -(2 ^ 62) ≤ k ∧ k < 2 ^ 62 ∧ xs.length * k.toNat ≤ 100000 ∧ ∀ r, G r = none → Q (.ref r) (aupd G r (List.replicate k.toNat xs).flatten)
  | _, _ => False
def oMod : AO := oI (fun _ j => 0 < j) fun i j => .int (i % j)
def oFdiv : AO := oI CDiv fun i j => .int (i / j)
def oPow : AO := oI CPow fun i j => .int (i ^ j.toNat)
theorem snd_I {C : Int → Int → Prop} {g : Int → Int → V} {ga : Int → Int → AV} (hg : ∀ H i j, AVr H (ga i j) (g i j)) : OSnd (rI C g) (oI C ga) := fun H G x y v u Q Qa rg rx ry h k => by
  cases x with
  | int i => cases y with
    | int j => exact ⟨i, j, rx, ry, h.1, k _ G _ H (TK.refl H) rg (hg H i j) h.2⟩
    | _ => exact h.elim
  | _ => exact h.elim
def tlt (p q : Int × Int) : Bool := if p.1 = q.1 then decide (p.2 < q.2) else decide (p.1 < q.1)
def oLt : AO := fun x y G Q => match x, y with
  | .int i, .int j => Q (.bl (decide (i < j))) G
  | .tup [.int a, .int b], .tup [.int c, .int d] => Q (.bl (tlt (a, b) (c, d))) G
  | _, _ => False
def oLe : AO := fun x y G Q => match x, y with
  | .int i, .int j => Q (.bl (decide (i ≤ j))) G
  | _, _ => False
def oGt : AO := fun x y G Q => match x, y with
  | .int i, .int j => Q (.bl (decide (j < i))) G
  | _, _ => False
def oGe : AO := fun x y G Q => match x, y with
  | .int i, .int j => Q (.bl (decide (j ≤ i))) G
  | _, _ => False
/-- == of plain things; of data -/
def eqP : AV → AV → Option Bool
  | .int i, .int j => some (decide (i = j))
  | .bl i, .bl j => some (decide (i = j))
  | .str i, .str j => some (decide (i = j))
  | .non, .non => some true
  | _, _ => none
def oEq : AO := fun x y G Q => match eqP x y with
  | some b => Q (.bl b) G
  | none => ∃ d e, AD G x d ∧ AD G y e ∧ SeqAt.shaped d = true ∧ SeqAt.shaped e = true ∧ Q (.bl (PyData.eqv d e)) G
def oNe : AO := fun x y G Q => match eqP x y with
  | some b => Q (.bl (!b)) G
  | none => ∃ d e, AD G x d ∧ AD G y e ∧ SeqAt.shaped d = true ∧ SeqAt.shaped e = true ∧ Q (.bl (!PyData.eqv d e)) G
def isNon : AV → Bool
  | .non => true
  | _ => false
theorem isNon_V {H : Hp} {x : AV} {v : V} (r : AVr H x v) : decide (v = .non) = isNon x := by
  cases x with
  | non => cases (show v = V.non from r); rfl
  | bl b => cases (show v = V.bl b from r); rfl
  | int b => cases (show v = V.int b from r); rfl
  | str b => cases (show v = V.str b from r); rfl
  | ref b => cases (show v = V.ref b from r); rfl
  | ty b => cases (show v = V.ty b from r); rfl
  | tup xs => obtain ⟨a, vs, rfl, _⟩ := r; rfl
def oIsN : AO := fun x y G Q => isNon y = true ∧ Q (.bl (isNon x)) G
def oNotN : AO := fun x y G Q => isNon y = true ∧ Q (.bl (!isNon x)) G
/-- a text in a list of texts -/
def oInS : AO := fun x y G Q => ∃ (z : Str) (p : Addr) (zs : List Str), x = .str z ∧ y = .ref p ∧ G p = some (zs.map AV.str) ∧ Q (.bl (decide (z ∈ zs))) G
section
variable {X : Cx} {k : Nat}
theorem op_a_add : OpA X (binaryOp .Add) oAdd := ⟨_, op_add.or (op_catA.or op_cat), fun H G x y v u Q Qa rg rx ry h k => by
  cases x with
  | int i => cases y with
    | int j => exact .inl ⟨i, j, rx, ry, k (.int (i + j)) G _ H (TK.refl H) rg rfl h⟩
    | _ => exact h.elim
  | tup xs => cases y with
    | tup ys =>
      obtain ⟨a, vs, rfl, ha, hs⟩ := rx
      obtain ⟨b, ws, rfl, hb, ht⟩ := ry
      obtain ⟨hl, q⟩ := h
      have hap := hs.append ht
      refine .inr (.inl ⟨a, b, vs, ws, rfl, rfl, SqT.of ha, SqT.of hb, sz_of (by rw [← hs.length, ← ht.length]; exact hl), fun e => ?_, fun _ e => ?_, fun _ _ => k.tup rg hap q⟩)
      · rw [e] at hap
        exact k (.tup (xs ++ ys)) G _ H (TK.refl H) rg ⟨b, ws, rfl, hb, hap⟩ q
      · rw [e, List.append_nil] at hap
        exact k (.tup (xs ++ ys)) G _ H (TK.refl H) rg ⟨a, vs, rfl, ha, hap⟩ q
    | _ => exact h.elim
  | ref p => cases y with
    | ref q =>
      obtain ⟨xs, ys, hp, hq, hl, q⟩ := h
      obtain ⟨vs, e1, r1⟩ := rg _ _ hp
      obtain ⟨ws, e2, r2⟩ := rg _ _ hq
      exact .inr (.inr ⟨p, _, vs, ws, rx, ry, e1, e2, sz_of (by rw [← r1.length, ← r2.length]; exact hl), k.newl rg (r1.append r2) q⟩)
    | _ => exact h.elim
  | _ => exact h.elim⟩
theorem op_a_sub : OpA X (binaryOp .Sub) oSub := ⟨_, op_sub, fun H G x y v u Q Qa rg rx ry h k => by
  cases x with
  | int i => cases y with
    | int j => exact ⟨i, j, rx, ry, k (.int (i - j)) G _ H (TK.refl H) rg rfl h⟩
    | _ => exact h.elim
  | _ => exact h.elim⟩
theorem op_a_mul : OpA X (binaryOp .Mult) oMul := ⟨_, op_mul.or op_rep, fun H G x y v u Q Qa rg rx ry h k => by
  cases x with
  | int i => cases y with
    | int j => exact .inl ⟨i, j, rx, ry, h.1, k (.int (i * j)) G _ H (TK.refl H) rg rfl h.2⟩
    | _ => exact h.elim
  | ref p => cases y with
    | int j =>
      obtain ⟨xs, hp, h1, h2, hl, q⟩ := h
      obtain ⟨vs, e1, r1⟩ := rg _ _ hp
      exact .inr ⟨p, j, vs, rx, ry, e1, by omega, by omega, sz_of (by rw [← r1.length]; exact hl), k.newl rg (r1.rep _) q⟩
    | _ => exact h.elim
  | _ => exact h.elim⟩
theorem op_a_mod : OpA X (binaryOp .Mod) oMod := ⟨_, op_mod, snd_I fun _ _ _ => rfl⟩
theorem op_a_fdiv : OpA X (binaryOp .FloorDiv) oFdiv := ⟨_, op_fdiv, snd_I fun _ _ _ => rfl⟩
theorem op_a_pow : OpA X (binaryOp .Pow) oPow := ⟨_, op_pow, snd_I fun _ _ _ => rfl⟩
theorem lex_tlt (a b c d : Int) : HT.lexLt [a, b] [c, d] = tlt (a, b) (c, d) := by
  unfold tlt
  rw [HT.lexLt_cons, HT.lexLt_cons, HT.lexLt_nil_nil]
  by_cases h : a = c
  · rw [if_pos h, if_pos h]
    by_cases h2 : b = d
    · rw [if_pos h2]; simp [h2]
    · rw [if_neg h2]
  · rw [if_neg h, if_neg h]
theorem ints2 {H : Hp} {a b : Int} {vs : List V} (h : AVs H [.int a, .int b] vs) : vs = (List.map V.int [a, b]) := by
  obtain ⟨v, r, rfl, h1, w, r2, rfl, h2, h3⟩ := h
  cases (show v = V.int a from h1)
  cases (show w = V.int b from h2)
  cases (show r2 = [] from h3)
  rfl
theorem op_a_lt (hr : Room k X.A) : OpA X (compareOp .Lt) oLt := ⟨_, op_lt.or (op_ltT hr.units0), fun H G x y v u Q Qa rg rx ry h k => by
  unfold oLt at h
  split at h
  · exact .inl ⟨_, _, rx, ry, k (.bl _) G _ H (TK.refl H) rg rfl h⟩
  · obtain ⟨a, vs, rfl, ha, hs⟩ := rx
    obtain ⟨b, ws, rfl, hb, ht⟩ := ry
    rw [ints2 hs] at ha
    rw [ints2 ht] at hb
    refine .inr ⟨a, b, _, _, rfl, rfl, SqT.of ha, SqT.of hb, ?_⟩
    rw [lex_tlt]
    exact k (.bl _) G _ H (TK.refl H) rg rfl h
  · exact h.elim⟩
theorem op_a_le : OpA X (compareOp .LtE) oLe := ⟨_, op_le, fun H G x y v u Q Qa rg rx ry h k => by
  cases x with
  | int i => cases y with
    | int j => exact ⟨i, j, rx, ry, k (.bl _) G _ H (TK.refl H) rg rfl h⟩
    | _ => exact h.elim
  | _ => exact h.elim⟩
theorem op_a_gt : OpA X (compareOp .Gt) oGt := ⟨_, op_gt, fun H G x y v u Q Qa rg rx ry h k => by
  cases x with
  | int i => cases y with
    | int j => exact ⟨i, j, rx, ry, k (.bl _) G _ H (TK.refl H) rg rfl h⟩
    | _ => exact h.elim
  | _ => exact h.elim⟩
theorem op_a_ge : OpA X (compareOp .GtE) oGe := ⟨_, op_ge, fun H G x y v u Q Qa rg rx ry h k => by
  cases x with
  | int i => cases y with
    | int j => exact ⟨i, j, rx, ry, k (.bl _) G _ H (TK.refl H) rg rfl h⟩
    | _ => exact h.elim
  | _ => exact h.elim⟩
theorem eqP_V {H : Hp} {x y : AV} {v u : V} {b : Bool} (h : eqP x y = some b) (rx : AVr H x v) (ry : AVr H y u) : scal v u = true ∧ decide (v = u) = b := by
  unfold eqP at h
  split at h
  · cases (show v = V.int _ from rx); cases (show u = V.int _ from ry); cases h
    exact ⟨rfl, by simp⟩
  · cases (show v = V.bl _ from rx); cases (show u = V.bl _ from ry); cases h
    exact ⟨rfl, by simp⟩
  · cases (show v = V.str _ from rx); cases (show u = V.str _ from ry); cases h
    exact ⟨rfl, by simp⟩
  · cases (show v = V.non from rx); cases (show u = V.non from ry); cases h
    exact ⟨rfl, by simp⟩
  · cases h
theorem op_a_eq (hr : Room k X.A) : OpA X (compareOp .Eq) oEq := ⟨_, op_eq.or (op_eqD hr.units), fun H G x y v u Q Qa rg rx ry h k => by
  unfold oEq at h
  split at h
  · rename_i b e
    obtain ⟨h1, h2⟩ := eqP_V e rx ry
    exact .inl ⟨h1, by rw [h2]; exact k (.bl b) G _ H (TK.refl H) rg rfl h⟩
  · obtain ⟨d, e, h1, h2, h3, h4, q⟩ := h
    exact .inr ⟨d, e, h1.dp rg rx, h2.dp rg ry, h3, h4, k (.bl _) G _ H (TK.refl H) rg rfl q⟩⟩
theorem op_a_ne (hr : Room k X.A) : OpA X (compareOp .NotEq) oNe := ⟨_, op_ne.or (op_neD hr.units), fun H G x y v u Q Qa rg rx ry h k => by
  unfold oNe at h
  split at h
  · rename_i b e
    obtain ⟨h1, h2⟩ := eqP_V e rx ry
    exact .inl ⟨h1, by rw [h2]; exact k (.bl (!b)) G _ H (TK.refl H) rg rfl h⟩
  · obtain ⟨d, e, h1, h2, h3, h4, q⟩ := h
    exact .inr ⟨d, e, h1.dp rg rx, h2.dp rg ry, h3, h4, k (.bl _) G _ H (TK.refl H) rg rfl q⟩⟩
theorem op_a_isN : OpA X (compareOp .Is) oIsN := ⟨_, op_isN, fun H G x y v u Q Qa rg rx ry ⟨h, q⟩ k =>
  ⟨of_decide_eq_true (by rw [isNon_V ry]; exact h), by rw [isNon_V rx]; exact k (.bl _) G _ H (TK.refl H) rg rfl q⟩⟩
theorem op_a_notN : OpA X (compareOp .IsNot) oNotN := ⟨_, op_notN, fun H G x y v u Q Qa rg rx ry ⟨h, q⟩ k =>
  ⟨of_decide_eq_true (by rw [isNon_V ry]; exact h), by rw [isNon_V rx]; exact k (.bl _) G _ H (TK.refl H) rg rfl q⟩⟩
theorem strs_V {H : Hp} : ∀ {zs : List Str} {vs : List V}, AVs H (zs.map AV.str) vs → vs = zs.map V.str
  | [], _, h => h
  | z :: zs, _, h => by
    obtain ⟨v, r, rfl, h1, h2⟩ := h
    cases (show v = V.str z from h1)
    rw [strs_V h2]; rfl
theorem op_a_in : OpA X (compareOp .In) oInS := ⟨_, op_in_seq, fun H G x y v u Q Qa rg rx ry h k => by
  obtain ⟨z, p, zs, rfl, rfl, hp, q⟩ := h
  cases (show v = V.str z from rx)
  cases (show u = V.ref p from ry)
  obtain ⟨vs, e1, r1⟩ := rg _ _ hp
  rw [strs_V r1] at e1
  refine ⟨p, _, rfl, .inl (SqL.of e1), rfl, by simp [flatV], ?_⟩
  have e : (if false = true then !inV (V.str z) (zs.map V.str) else inV (V.str z) (zs.map V.str)) = decide (z ∈ zs) := by
    rw [if_neg Bool.false_ne_true]
    unfold inV
    rw [List.any_map]
    induction zs with
    | nil => rfl
    | cons a r ih =>
      have ih2 : ∀ {r : List Str}, (r.any ((fun y => eqV y (V.str z)) ∘ V.str)) = decide (z ∈ r) := by
        intro r
        induction r with
        | nil => rfl
        | cons a r ih =>
          rw [List.any_cons, ih]
          show (eqV (V.str a) (V.str z) || _) = _
          have : eqV (V.str a) (V.str z) = decide (z = a) := by
            show (a == z) = _
            by_cases c : z = a
            · subst c; simp
            · have : ¬ a = z := fun e => c e.symm
              simp [c, this]
          rw [this]
          simp [List.mem_cons]
      exact ih2
  rw [e]
  exact k (.bl _) G _ H (TK.refl H) rg rfl q⟩
end
end LA
set_option Elab.async false
set_option linter.all false
set_option maxRecDepth 100000
set_option maxHeartbeats 4000000
namespace LA
open PySem PySem.Spec PyProof.Rows L2

/-! ### subscripts, slices -/
def oIx : AO := fun x y G Q => match x, y with
  | .tup xs, .int i => ∃ v, atI xs i = some v ∧ Q v G
  | .ref p, .int i => ∃ xs v, G p = some xs ∧ atI xs i = some v ∧ Q v G
  | _, _ => False
theorem avs_atI {H : Hp} {xs : List AV} {vs : List V} {i : Int} {x : AV} (h : AVs H xs vs) (e : atI xs i = some x) : ∃ v, atI vs i = some v ∧ AVr H x v := by
  unfold atI at e ⊢
  rw [← h.length]
  cases q : ixN xs.length i with
  | none => rw [q] at e; cases e
  | some j => rw [q] at e; exact h.get e
def acut {α : Type} (xs : List α) (lo hi : Option Int) : List α := (xs.drop (HT.sIx xs.length 0 lo)).take (HT.sIx xs.length xs.length hi - HT.sIx xs.length 0 lo)
theorem avs_cut {H : Hp} {xs : List AV} {vs : List V} (h : AVs H xs vs) (lo hi : Option Int) : AVs H (acut xs lo hi) (cutV vs lo hi) := by
  unfold acut cutV
  rw [h.length]
  exact (h.drop _).take _
abbrev AOs := AV → Option Int → Option Int → AH → AQ → Prop
def oSl : AOs := fun x lo hi G Q => match x with
  | .tup xs => Q (.tup (acut xs lo hi)) G
  | .ref p => ∃ xs, G p = some xs ∧ ∀ r, G r = none → Q (.ref r) (aupd G r (acut xs lo hi))
  | _ => False
abbrev ATO := ASt → AH → (Option Int → AH → Prop) → Prop
def lowO (a : ATO) : TO := fun σ H Q => ∃ S G Qa, RelS H σ S ∧ RelG H G ∧ a S G Qa ∧ ∀ o G' H', TK H H' → RelG H' G' → Qa o G' → Q o H'
def aNoP : ATO := fun _ G Q => Q none G
def aPart (aa : AT) : ATO := fun S G Q => aa S G fun x G1 => ∃ i, x = .int i ∧ Q (some i) G1
def aSl (aa : AT) (al ah : ATO) : AT := fun S G Q => aa S G fun x G1 => al S G1 fun lo G2 => ah S G2 fun hi G3 => oSl x lo hi G3 Q
section
variable {X : Cx} {a b c e : Expr} {es : List Expr} {aa ab ac : AT} {ta tb : ATT} {la : ATA} {pos : Pos} {lo hi : Option Expr} {al ah : ATO}
theorem ae_ix (ha : AE X a aa) (hb : AE X b ab) (hs : PlainIx b := by exact fun _ _ => rfl) : AE X (.Subscript a b pos) (aOp oIx aa ab) :=
  PEimp (pe_ix (ix_tup.or ix_list) ha hb hs) (low_op fun H G x y v u Q Qa rg rx ry h k => by
    unfold oIx at h
    split at h
    · obtain ⟨w, e, q⟩ := h
      obtain ⟨p, vs, rfl, hp, hs⟩ := rx
      obtain ⟨z, e2, r⟩ := avs_atI hs e
      exact .inl ⟨p, vs, _, z, rfl, ry, SqT.of hp, e2, k _ G _ H (TK.refl H) rg r q⟩
    · obtain ⟨xs, w, hp, e, q⟩ := h
      obtain ⟨vs, e1, hs⟩ := rg _ _ hp
      obtain ⟨z, e2, r⟩ := avs_atI hs e
      exact .inr ⟨_, vs, _, z, rx, ry, SqL.of e1, e2, k _ G _ H (TK.refl H) rg r q⟩
    · exact h.elim)
theorem POimp {e : Option Expr} {t t' : TO} (h : PO X e t) (i : ∀ σ H Q, t' σ H Q → t σ H Q) : PO X e t' := ⟨fun pins s σ H Q I q => h.run pins s σ H Q I (i σ H Q q)⟩
theorem ao_none : PO X none (lowO aNoP) := POimp po_none fun σ H Q ⟨S, G, Qa, rs, rg, h, k⟩ => k none G H (TK.refl H) rg h
theorem ao_some (h : AE X e aa) : PO X (some e) (lowO (aPart aa)) := POimp (po_some h) fun σ H Q ⟨S, G, Qa, rs, rg, h, k⟩ =>
  ⟨S, G, _, rs, rg, h, fun x G1 v H1 tk rg1 rx h1 => by
    obtain ⟨i, rfl, q⟩ := h1
    exact ⟨i, rx, k (some i) G1 H1 tk rg1 q⟩⟩
theorem ae_slice {p2 : Pos} (he : AE X e aa) (hl : PO X lo (lowO al)) (hu : PO X hi (lowO ah)) : AE X (.Subscript e (.Slice lo hi none p2) pos) (aSl aa al ah) :=
  PEimp (pe_slice (sl_tupA.or sl_list) he hl hu) fun σ H Q ⟨S, G, Qa, rs, rg, h, k⟩ => ⟨S, G, _, rs, rg, h, fun x G1 v H1 tk1 rg1 rx h1 => ⟨S, G1, _, rs.mono tk1, rg1, h1, fun l G2 H2 tk2 rg2 h2 =>
    ⟨S, G2, _, rs.mono (tk1.trans tk2), rg2, h2, fun u G3 H3 tk3 rg3 h3 => by
      have k3 := k.mono (tk1.trans (tk2.trans tk3))
      have rx3 := rx.mono (tk2.trans tk3)
      unfold oSl at h3
      split at h3
      · obtain ⟨p, vs, rfl, hp, hs⟩ := rx3
        have hc := avs_cut hs l u
        refine .inl ⟨p, vs, rfl, SqT.of hp, fun ⟨e1, e2⟩ => ?_, fun _ => k3.tup rg3 hc h3⟩
        have ec : cutV vs l u = vs := by
          unfold cutV
          rw [e1, e2, List.drop_zero, Nat.sub_zero, List.take_length]
        rw [ec] at hc
        exact k3 (.tup _) G3 _ H3 (TK.refl H3) rg3 ⟨p, vs, rfl, hp, hc⟩ h3
      · obtain ⟨xs, hp, q⟩ := h3
        obtain ⟨vs, e1, hs⟩ := rg3 _ _ hp
        exact .inr ⟨_, vs, rx3, SqL.of e1, k3.newl rg3 (avs_cut hs l u) q⟩
      · exact h3.elim⟩⟩⟩

/-! ### methods of lists -/
abbrev AMt := AV → List AV → AH → AQ → Prop
def MSnd (r : V → List V → Hp → VK → Prop) (o : AMt) : Prop := ∀ H G x xs v vs Q Qa, RelG H G → AVr H x v → AVs H xs vs → o x xs G Qa → KE H Q Qa → r v vs H Q
def aMt (o : AMt) (aa : AT) (la : ATA) : AT := fun S G Q => aa S G fun x G1 => (∃ p xs, x = .ref p ∧ G1 p = some xs) ∧ la S G1 fun ys G2 => o x ys G2 Q
theorem low_bm {r : V → List V → Hp → VK → Prop} {o : AMt} (os : MSnd r o) : ∀ σ H Q, lowE (aMt o aa la) σ H Q → tBM X.K "list" r (lowE aa) (lowA la) σ H Q := fun σ H Q ⟨S, G, Qa, rs, rg, h, k⟩ =>
  ⟨S, G, _, rs, rg, h, fun x G1 v H1 tk1 rg1 rx ⟨⟨p, xs, ex, hp⟩, h1⟩ => by
    subst ex
    obtain ⟨vs, e1, hs⟩ := rg1 p xs hp
    have ev : v = V.ref p := rx
    subst ev
    exact ⟨.inl ⟨rfl, vs, SqL.of e1⟩, S, G1, _, rs.mono tk1, rg1, h1, fun ys G2 ws H2 tk2 rg2 ry h2 => os H2 G2 (.ref p) ys (.ref p) ws Q Qa rg2 rfl ry h2 (k.mono (tk1.trans tk2))⟩⟩
def mAppend : AMt := fun x ys G Q => ∃ p xs y, x = .ref p ∧ ys = [y] ∧ G p = some xs ∧ xs.length < 100000 ∧ Q .non (aupd G p (xs ++ [y]))
def mExtend : AMt := fun x ys G Q => ∃ p q xs zs, x = .ref p ∧ ys = [.ref q] ∧ G p = some xs ∧ G q = some zs ∧ xs.length + zs.length ≤ 100000 ∧ Q .non (aupd G p (xs ++ zs))
def mPopAt : AMt := fun x ys G Q => ∃ (p : Addr) (xs : List AV) (i : Nat) (y : AV), x = .ref p ∧ ys = [.int (i : Int)] ∧ G p = some xs ∧ xs.length ≤ 100000 ∧ xs[i]? = some y ∧ Q y (aupd G p (xs.eraseIdx i))
theorem avs_one {H : Hp} {y : AV} {vs : List V} (h : AVs H [y] vs) : ∃ v, vs = [v] ∧ AVr H y v := by
  obtain ⟨v, r, rfl, h1, h2⟩ := h
  cases (show r = [] from h2)
  exact ⟨v, rfl, h1⟩
variable {o : Expr} {apos cpos : Pos}
theorem ae_append (ho : AE X o aa) (ha : APa X (e :: es) la) (hbase : attributeBase o "append" X.env (eval o X.env) = eval o X.env := by rfl)
    (hfew : ((backTo cpos (starEach (e :: es) X.env)).all (fun x => !x.1) && (backToKw cpos (keywordEach [] X.env)).all (fun x => x.1.isSome)
      && decide ((e :: es).length + ([] : List Keyword).length + (if ([] : List Keyword).isEmpty then 0 else 1) < 30)) = true := by rfl)
    (hline : (apos.endLine == cpos.line) = true := by rfl) (hs : starEach (e :: es) X.env = (false, eval e X.env) :: starEach es X.env := by rfl) (hplain : (backTo cpos (starEach es X.env)).any (·.1) = false := by rfl) :
    AE X (.Call (.Attribute o "append" apos) (e :: es) [] cpos) (aMt mAppend aa la) :=
  PEimp (pe_bm PySem.F.plainAttrs_list PySem.F.slot_list_append PySem.F.type_list_append mt_append ho ha hbase hfew hline hs hplain) (low_bm fun H G x xs v vs Q Qa rg rx rxs h k => by
    obtain ⟨p, zs, y, rfl, rfl, hp, hl, q⟩ := h
    obtain ⟨ws, e1, hw⟩ := rg p zs hp
    obtain ⟨u, rfl, ru⟩ := avs_one rxs
    refine ⟨p, ws, u, rx, rfl, e1, sz_lt (by rw [← hw.length]; exact hl), ?_⟩
    exact k .non _ _ _ (TK.lst e1) (rg.setL e1 (hw.append (.cons ru .nil))) rfl q)
theorem ae_extend (ho : AE X o aa) (ha : APa X (e :: es) la) (hbase : attributeBase o "extend" X.env (eval o X.env) = eval o X.env := by rfl)
    (hfew : ((backTo cpos (starEach (e :: es) X.env)).all (fun x => !x.1) && (backToKw cpos (keywordEach [] X.env)).all (fun x => x.1.isSome)
      && decide ((e :: es).length + ([] : List Keyword).length + (if ([] : List Keyword).isEmpty then 0 else 1) < 30)) = true := by rfl)
    (hline : (apos.endLine == cpos.line) = true := by rfl) (hs : starEach (e :: es) X.env = (false, eval e X.env) :: starEach es X.env := by rfl) (hplain : (backTo cpos (starEach es X.env)).any (·.1) = false := by rfl) :
    AE X (.Call (.Attribute o "extend" apos) (e :: es) [] cpos) (aMt mExtend aa la) :=
  PEimp (pe_bm PySem.F.plainAttrs_list PySem.F.slot_list_extend PySem.F.type_list_extend mt_extend ho ha hbase hfew hline hs hplain) (low_bm fun H G x xs v vs Q Qa rg rx rxs h k => by
    obtain ⟨p, q, zs, ys, rfl, rfl, hp, hq, hl, qq⟩ := h
    obtain ⟨ws, e1, hw⟩ := rg p zs hp
    obtain ⟨us, e2, hu⟩ := rg q ys hq
    obtain ⟨u, rfl, ru⟩ := avs_one rxs
    have eu : u = V.ref q := ru
    subst eu
    refine ⟨p, q, ws, us, rx, rfl, e1, e2, sz_of (by rw [← hw.length, ← hu.length]; exact hl), ?_⟩
    exact k .non _ _ _ (TK.lst e1) (rg.setL e1 (hw.append hu)) rfl qq)
theorem seq_nat {n i : Nat} (h : i < n) : seqIndex? (i : Int) n = some i := by
  have e : ixN n (i : Int) = some i := by
    unfold ixN
    rw [if_pos (by omega), if_pos (by omega)]
    simp
  exact (ixN_seq e).1
theorem ae_popAt (ho : AE X o aa) (ha : APa X (e :: es) la) (hbase : attributeBase o "pop" X.env (eval o X.env) = eval o X.env := by rfl)
    (hfew : ((backTo cpos (starEach (e :: es) X.env)).all (fun x => !x.1) && (backToKw cpos (keywordEach [] X.env)).all (fun x => x.1.isSome)
      && decide ((e :: es).length + ([] : List Keyword).length + (if ([] : List Keyword).isEmpty then 0 else 1) < 30)) = true := by rfl)
    (hline : (apos.endLine == cpos.line) = true := by rfl) (hs : starEach (e :: es) X.env = (false, eval e X.env) :: starEach es X.env := by rfl) (hplain : (backTo cpos (starEach es X.env)).any (·.1) = false := by rfl) :
    AE X (.Call (.Attribute o "pop" apos) (e :: es) [] cpos) (aMt mPopAt aa la) :=
  PEimp (pe_bm PySem.F.plainAttrs_list PySem.F.slot_list_pop PySem.F.type_list_pop mt_popAt ho ha hbase hfew hline hs hplain) (low_bm fun H G x xs v vs Q Qa rg rx rxs h k => by
    obtain ⟨p, zs, i, y, rfl, rfl, hp, hz1, hy, q⟩ := h
    obtain ⟨ws, e1, hw⟩ := rg p zs hp
    obtain ⟨u, rfl, ru⟩ := avs_one rxs
    have eu : u = V.int (i : Int) := ru
    subst eu
    obtain ⟨z, hz, rz⟩ := hw.get hy
    have hl : i < ws.length := (List.getElem?_eq_some_iff.mp hz).1
    refine ⟨p, ws, (i : Int), i, z, rx, rfl, e1, by omega, ?_, seq_nat hl, hz, ?_⟩
    · have := hw.length
      omega
    · exact k _ _ _ _ (TK.lst e1) (rg.setL e1 (hw.erase i)) (rz.mono (TK.lst e1)) q)

/-! ### built-ins -/
def cLen : AC := fun xs G Q => match xs with
  | [.tup ys] => Q (.int (ys.length : Int)) G
  | [.ref p] => ∃ ys, G p = some ys ∧ Q (.int (ys.length : Int)) G
  | _ => False
def cTuple : AC := fun xs G Q => match xs with
  | [.tup ys] => Q (.tup ys) G
  | [.ref p] => ∃ ys, G p = some ys ∧ Q (.tup ys) G
  | _ => False
def cList : AC := fun xs G Q => match xs with
  | [.tup ys] => ∀ r, G r = none → Q (.ref r) (aupd G r ys)
  | [.ref p] => ∃ ys, G p = some ys ∧ ∀ r, G r = none → Q (.ref r) (aupd G r ys)
  | _ => False
def cInt : AC := fun xs G Q => match xs with
  | [.int i] => Q (.int i) G
  | [.bl b] => Q (.int (if b then 1 else 0)) G
  | _ => False
def cMax2 : AC := fun xs G Q => match xs with
  | [.int i, .int j] => Q (.int (if j > i then j else i)) G
  | _ => False
def cMin2 : AC := fun xs G Q => match xs with
  | [.int i, .int j] => Q (.int (if j < i then j else i)) G
  | _ => False
def thV (t : Int × Int) : AV := .tup [.int t.1, .int t.2]
def cSorted : AC := fun xs G Q => ∃ (p : Addr) (ts : List (Int × Int)), xs = [.ref p] ∧ G p = some (ts.map thV) ∧ ∀ (us : List (Int × Int)) r, us.Perm ts → G r = none → Q (.ref r) (aupd G r (us.map thV))
/-- isinstance by a value's form -/
def isIntB : AV → Option Bool
  | .int _ => some true
  | .bl _ => some true
  | .non => some false
  | .str _ => some false
  | .tup _ => some false
  | _ => none
def isBoolB : AV → Option Bool
  | .int _ => some false
  | .bl _ => some true
  | .non => some false
  | .str _ => some false
  | .tup _ => some false
  | _ => none
def isTupB : AV → Option Bool
  | .int _ => some false
  | .bl _ => some false
  | .non => some false
  | .str _ => some false
  | .tup _ => some true
  | _ => none
def isStrB : AV → Option Bool
  | .int _ => some false
  | .bl _ => some false
  | .non => some false
  | .str _ => some true
  | .tup _ => some false
  | _ => none
def cIs (n : String) (f : AV → Option Bool) : AC := fun xs G Q => ∃ x b, xs = [x, .ty n] ∧ f x = some b ∧ Q (.bl b) G
theorem avs_two {H : Hp} {x y : AV} {vs : List V} (h : AVs H [x, y] vs) : ∃ v u, vs = [v, u] ∧ AVr H x v ∧ AVr H y u := by
  obtain ⟨v, r, rfl, h1, h2⟩ := h
  obtain ⟨u, rfl, h3⟩ := avs_one h2
  exact ⟨v, u, rfl, h1, h3⟩
theorem cal_len : CalA X (.builtin "len") cLen := ⟨_, call_len_seq, fun H G xs vs Q Qa rg rx h k => by
  unfold cLen at h
  split at h
  · obtain ⟨v, rfl, r⟩ := avs_one rx
    obtain ⟨p, ws, rfl, hp, hs⟩ := r
    exact ⟨p, ws, rfl, .inr (SqT.of hp), by rw [← hs.length]; exact k (.int _) G _ H (TK.refl H) rg rfl h⟩
  · obtain ⟨v, rfl, r⟩ := avs_one rx
    obtain ⟨ys, hp, q⟩ := h
    obtain ⟨ws, e, hs⟩ := rg _ _ hp
    cases (show v = V.ref _ from r)
    exact ⟨_, ws, rfl, .inl (SqL.of e), by rw [← hs.length]; exact k (.int _) G _ H (TK.refl H) rg rfl q⟩
  · exact h.elim⟩
theorem cal_tuple : CalA X (.type "tuple") cTuple := ⟨_, call_tuple_of, fun H G xs vs Q Qa rg rx h k => by
  unfold cTuple at h
  split at h
  · obtain ⟨v, rfl, r⟩ := avs_one rx
    obtain ⟨p, ws, rfl, hp, hs⟩ := r
    exact ⟨p, ws, rfl, .inr ⟨SqT.of hp, k (.tup _) G _ H (TK.refl H) rg ⟨p, ws, rfl, hp, hs⟩ h⟩⟩
  · obtain ⟨v, rfl, r⟩ := avs_one rx
    obtain ⟨ys, hp, q⟩ := h
    obtain ⟨ws, e, hs⟩ := rg _ _ hp
    cases (show v = V.ref _ from r)
    exact ⟨_, ws, rfl, .inl ⟨SqL.of e, k.tup rg hs q⟩⟩
  · exact h.elim⟩
theorem cal_list : CalA X (.type "list") cList := ⟨_, call_list_of, fun H G xs vs Q Qa rg rx h k => by
  unfold cList at h
  split at h
  · obtain ⟨v, rfl, r⟩ := avs_one rx
    obtain ⟨p, ws, rfl, hp, hs⟩ := r
    exact ⟨p, ws, rfl, .inr (SqT.of hp), k.newl rg hs h⟩
  · obtain ⟨v, rfl, r⟩ := avs_one rx
    obtain ⟨ys, hp, q⟩ := h
    obtain ⟨ws, e, hs⟩ := rg _ _ hp
    cases (show v = V.ref _ from r)
    exact ⟨_, ws, rfl, .inl (SqL.of e), k.newl rg hs q⟩
  · exact h.elim⟩
theorem cal_int : CalA X (.type "int") cInt := ⟨_, call_int1, fun H G xs vs Q Qa rg rx h k => by
  unfold cInt at h
  split at h
  · obtain ⟨v, rfl, r⟩ := avs_one rx
    cases (show v = V.int _ from r)
    exact .inl ⟨_, rfl, k (.int _) G _ H (TK.refl H) rg rfl h⟩
  · obtain ⟨v, rfl, r⟩ := avs_one rx
    cases (show v = V.bl _ from r)
    exact .inr ⟨_, rfl, k (.int _) G _ H (TK.refl H) rg rfl h⟩
  · exact h.elim⟩
theorem cal_max2 (hc : X.calm = true) : CalA X (.builtin "max") cMax2 := ⟨_, call_max2 hc, fun H G xs vs Q Qa rg rx h k => by
  unfold cMax2 at h
  split at h
  · obtain ⟨v, u, rfl, r1, r2⟩ := avs_two rx
    cases (show v = V.int _ from r1)
    cases (show u = V.int _ from r2)
    exact ⟨_, _, rfl, k (.int _) G _ H (TK.refl H) rg rfl h⟩
  · exact h.elim⟩
theorem cal_min2 (hc : X.calm = true) : CalA X (.builtin "min") cMin2 := ⟨_, call_min2 hc, fun H G xs vs Q Qa rg rx h k => by
  unfold cMin2 at h
  split at h
  · obtain ⟨v, u, rfl, r1, r2⟩ := avs_two rx
    cases (show v = V.int _ from r1)
    cases (show u = V.int _ from r2)
    exact ⟨_, _, rfl, k (.int _) G _ H (TK.refl H) rg rfl h⟩
  · exact h.elim⟩
theorem avs_perm {H : Hp} {α : Type} (f : α → AV) {us vs : List V} (p : us.Perm vs) : ∀ {ts : List α}, AVs H (ts.map f) vs → ∃ ts' : List α, ts'.Perm ts ∧ AVs H (ts'.map f) us := by
  induction p with
  | nil => exact fun {ts} h => ⟨ts, .refl _, h⟩
  | cons x p ih =>
    intro ts h
    cases ts with
    | nil => cases (show _ = [] from h)
    | cons t ts =>
      obtain ⟨v, r, e, h1, h2⟩ := h
      cases e
      obtain ⟨ts', q, h3⟩ := ih h2
      exact ⟨t :: ts', q.cons t, .cons h1 h3⟩
  | swap x y l =>
    intro ts h
    cases ts with
    | nil => cases (show _ = [] from h)
    | cons t ts =>
      obtain ⟨v, r, e, h1, h2⟩ := h
      cases e
      cases ts with
      | nil => cases (show _ = [] from h2)
      | cons t2 ts =>
        obtain ⟨v, r, e, h3, h4⟩ := h2
        cases e
        exact ⟨t2 :: t :: ts, .swap t t2 ts, .cons h3 (.cons h1 h4)⟩
  | trans p q ih1 ih2 =>
    intro ts h
    obtain ⟨ts1, q1, h1⟩ := ih2 h
    obtain ⟨ts2, q2, h2⟩ := ih1 h1
    exact ⟨ts2, q2.trans q1, h2⟩
theorem cal_sorted : CalA X (.builtin "sorted") cSorted := ⟨_, cr_sortedP, fun H G xs vs Q Qa rg rx h k => by
  obtain ⟨p, ts, rfl, hp, q⟩ := h
  obtain ⟨v, rfl, r⟩ := avs_one rx
  cases (show v = V.ref _ from r)
  obtain ⟨ws, e, hs⟩ := rg _ _ hp
  refine ⟨p, ws, rfl, SqL.of e, fun x hx => ?_, fun ys r perm hr => ?_⟩
  · obtain ⟨i, hi⟩ := List.mem_iff_getElem?.mp hx
    obtain ⟨y, hy, ry⟩ := hs.get' hi
    rw [List.getElem?_map] at hy
    cases e2 : ts[i]? with
    | none => rw [e2] at hy; cases hy
    | some t =>
      rw [e2] at hy
      cases hy
      obtain ⟨a, us, rfl, ha, hu⟩ := ry
      rw [ints2 hu] at ha
      exact ⟨a, t.1, t.2, rfl, ha⟩
  · obtain ⟨ts', p2, h2⟩ := avs_perm thV perm hs
    exact k.newl rg h2 (fun r hr => q ts' r p2 hr) r hr⟩
def tyNm : AV → Option String
  | .int _ => some "int"
  | .bl _ => some "bool"
  | .non => some "NoneType"
  | .str _ => some "str"
  | .tup _ => some "tuple"
  | _ => none
theorem tyX_of {H : Hp} {x : AV} {v : V} {n : String} {K : PySem.W.Frag} (r : AVr H x v) (h : tyNm x = some n) : TyX K H v (.type n) := by
  cases x with
  | non => cases (show v = V.non from r); cases h; exact .base .non
  | bl b => cases (show v = V.bl b from r); cases h; exact .base (.bl b)
  | int b => cases (show v = V.int b from r); cases h; exact .base (.int b)
  | str b => cases (show v = V.str b from r); cases h; exact .base (.str b)
  | ref b => cases h
  | ty b => cases h
  | tup xs => obtain ⟨a, vs, rfl, ha, _⟩ := r; cases h; exact .base (.tup ha)
theorem cal_is {n : String} {f : AV → Option Bool} (hf : ∀ x b, f x = some b → ∃ m, tyNm x = some m ∧ kitB m n = some b) :
    CalA X (.builtin "isinstance") (cIs n f) := ⟨_, call_isi, fun H G xs vs Q Qa rg rx h k => by
  obtain ⟨x, b, rfl, e, q⟩ := h
  obtain ⟨v, u, rfl, r1, r2⟩ := avs_two rx
  cases (show u = V.ty n from r2)
  obtain ⟨m, e1, e2⟩ := hf x b e
  exact ⟨v, .ty n, .type m, .type n, b, rfl, .ty n, tyX_of r1 e1, kit_ty e2, k (.bl b) G _ H (TK.refl H) rg rfl q⟩⟩
theorem cal_isInt : CalA X (.builtin "isinstance") (cIs "int" isIntB) := cal_is fun x b e => by
  cases x with
  | non => cases e; exact ⟨_, rfl, by decide +kernel⟩
  | bl b => cases e; exact ⟨_, rfl, by decide +kernel⟩
  | int b => cases e; exact ⟨_, rfl, by decide +kernel⟩
  | str b => cases e; exact ⟨_, rfl, by decide +kernel⟩
  | tup b => cases e; exact ⟨_, rfl, by decide +kernel⟩
  | _ => cases e
theorem cal_isBool : CalA X (.builtin "isinstance") (cIs "bool" isBoolB) := cal_is fun x b e => by
  cases x with
  | non => cases e; exact ⟨_, rfl, by decide +kernel⟩
  | bl b => cases e; exact ⟨_, rfl, by decide +kernel⟩
  | int b => cases e; exact ⟨_, rfl, by decide +kernel⟩
  | str b => cases e; exact ⟨_, rfl, by decide +kernel⟩
  | tup b => cases e; exact ⟨_, rfl, by decide +kernel⟩
  | _ => cases e
theorem cal_isTup : CalA X (.builtin "isinstance") (cIs "tuple" isTupB) := cal_is fun x b e => by
  cases x with
  | non => cases e; exact ⟨_, rfl, by decide +kernel⟩
  | bl b => cases e; exact ⟨_, rfl, by decide +kernel⟩
  | int b => cases e; exact ⟨_, rfl, by decide +kernel⟩
  | str b => cases e; exact ⟨_, rfl, by decide +kernel⟩
  | tup b => cases e; exact ⟨_, rfl, by decide +kernel⟩
  | _ => cases e
theorem cal_isStr : CalA X (.builtin "isinstance") (cIs "str" isStrB) := cal_is fun x b e => by
  cases x with
  | non => cases e; exact ⟨_, rfl, by decide +kernel⟩
  | bl b => cases e; exact ⟨_, rfl, by decide +kernel⟩
  | int b => cases e; exact ⟨_, rfl, by decide +kernel⟩
  | str b => cases e; exact ⟨_, rfl, by decide +kernel⟩
  | tup b => cases e; exact ⟨_, rfl, by decide +kernel⟩
  | _ => cases e
/-- list(range(n)) -/
def aListRg (aa : AT) : AT := fun S G Q => aa S G fun x G1 => ∃ n : Nat, x = .int (n : Int) ∧ n ≤ 100000 ∧ ∀ r, G1 r = none → Q (.ref r) (aupd G1 r ((List.range n).map fun (i : Nat) => AV.int (i : Int)))
theorem avs_ints {H : Hp} (n : Nat) : AVs H ((List.range n).map fun (i : Nat) => AV.int (i : Int)) (rgV 0 (n : Int)) := by
  refine .of_at (by rw [List.length_map, List.length_range, rgV_length]; omega) fun i x v a b => ?_
  have hi := (List.getElem?_eq_some_iff.mp a).1
  rw [List.length_map, List.length_range] at hi
  unfold rgV at b
  rw [List.getElem?_map, List.getElem?_range (by omega)] at a b
  simp at a b
  subst a b
  rfl
theorem ae_listRg {p p2 pos2 : Pos} (hc : X.calm = true) (hm : X.mg "list" = none) (hm2 : X.mg "range" = none) (ha : AE X a aa) (hg : Gl X "list" := by rfl) (hg2 : Gl X "range" := by rfl)
    (na : starEach [a] X.env = (false, eval a X.env) :: starEach [] X.env := by rfl)
    (nb : starEach [(.Call (.Name "range" p2) [a] [] pos2 : Expr)] X.env = (false, eval (.Call (.Name "range" p2) [a] [] pos2 : Expr) X.env) :: starEach [] X.env := by rfl) :
    AE X (.Call (.Name "list" p) [.Call (.Name "range" p2) [a] [] pos2] [] pos) (aListRg aa) :=
  PEimp (pe_listRg hc hg hm (prg_1 hg2 hm2 ha na) nb) fun σ H Q ⟨S, G, Qa, rs, rg, h, k⟩ => ⟨S, G, _, rs, rg, h, fun x G1 v H1 tk rg1 rx h1 => by
    obtain ⟨n, rfl, hn, q⟩ := h1
    exact ⟨(n : Int), rx, RgOk.of_le (by decide) (by omega) (by decide) (by omega), (k.mono tk).newl rg1 (avs_ints n) q⟩⟩
end
end LA
set_option Elab.async false
set_option linter.all false
set_option maxRecDepth 100000
set_option maxHeartbeats 4000000
namespace LA
open PySem PySem.Spec PyProof.Rows L2

/-! ### targets -/
abbrev ATG := AV → ASt → AH → (ASt → AH → Prop) → Prop
abbrev ATGs := List AV → ASt → AH → (ASt → AH → Prop) → Prop
def lowG (a : ATG) : TG := fun v σ H N => ∃ x S G Na, AVr H x v ∧ RelS H σ S ∧ RelG H G ∧ a x S G Na ∧ KN H N Na
def lowGs (a : ATGs) : TGs := fun vs σ H N => ∃ xs S G Na, AVs H xs vs ∧ RelS H σ S ∧ RelG H G ∧ a xs S G Na ∧ KN H N Na
def agName (i : Nat) : ATG := fun x S G N => N (S.set i (some x)) G
def agNil : ATGs := fun xs S G N => xs = [] ∧ N S G
def agCons (t : ATG) (u : ATGs) : ATGs := fun xs S G N => ∃ x r, xs = x :: r ∧ t x S G fun S' G' => u r S' G' N
def agTup (n : Nat) (t : ATGs) : ATG := fun x S G N => match x with
  | .tup xs => xs.length = n ∧ t xs S G N
  | .ref p => ∃ xs, G p = some xs ∧ xs.length = n ∧ t xs S G N
  | _ => False
def agSub (ao ai : AT) : ATG := fun x S G N => ao S G fun o G1 => ai S G1 fun i G2 => ∃ p k xs j, o = .ref p ∧ i = .int k ∧ G2 p = some xs ∧ ixN xs.length k = some j ∧ N S (aupd G2 p (xs.set j x))
section
variable {X : Cx} {a b c e o i : Expr} {es : List Expr} {aa ab ac ao ai : AT} {ta tb : ATT} {la : ATA} {pos : Pos} {g : ATG} {gs : ATGs}
theorem PGimp {t t' : TG} (h : PG X e t) (i : ∀ v σ H N, t' v σ H N → t v σ H N) : PG X e t' := ⟨fun pins s σ H v u Q I r q => h.run pins s σ H v u Q I r (i v σ H Q q)⟩
theorem PGsimp {t t' : TGs} (h : PGs X es t) (i : ∀ v σ H N, t' v σ H N → t v σ H N) : PGs X es t' := ⟨fun pins s σ H v u Q I r q => h.run pins s σ H v u Q I r (i v σ H Q q)⟩
theorem PGor {t t' : TG} (h : PG X e t) (h' : PG X e t') : PG X e (fun v σ H N => t v σ H N ∨ t' v σ H N) := ⟨fun pins s σ H v u Q I r q => by
  rcases q with q | q
  · exact h.run pins s σ H v u Q I r q
  · exact h'.run pins s σ H v u Q I r q⟩
theorem ag_name (i : Nat) {x : Str} (hN : X.N.Nodup) (hx : Loc X.env.scope x := by first | exact Or.inl rfl | exact Or.inr rfl) (hi : X.N[i]? = some x := by rfl) (hf : X.fn x = true ∨ X.env.scope.names.lookup x = some .local := by first | exact .inl rfl | exact .inr rfl | assumption) : PG X (.Name x pos) (lowG (agName i)) :=
  PGimp (pg_name hN hi hx hf) fun v σ H N ⟨x, S, G, Na, rx, rs, rg, h, k⟩ => k _ G _ H (TK.refl H) (rs.set i rx) rg h
theorem ags_nil : PGs X [] (lowGs agNil) := PGsimp pgs_nil fun vs σ H N ⟨xs, S, G, Na, rx, rs, rg, ⟨e, h⟩, k⟩ => by
  subst e
  exact ⟨rx, k S G σ H (TK.refl H) rs rg h⟩
theorem ags_cons (h1 : PG X e (lowG g)) (h2 : PGs X es (lowGs gs)) (hs : (assignEach (e :: es) X.env).map (·.2) = assign e X.env :: (assignEach es X.env).map (·.2) := by rfl) : PGs X (e :: es) (lowGs (agCons g gs)) :=
  PGsimp (pgs_cons h1 h2 hs) fun vs σ H N ⟨xs, S, G, Na, rx, rs, rg, ⟨x, r, e, h⟩, k⟩ => by
    subst e
    obtain ⟨v, vr, rfl, r1, r2⟩ := rx
    exact ⟨v, vr, rfl, x, S, G, _, r1, rs, rg, h, fun S1 G1 σ1 H1 tk rs1 rg1 h1 => ⟨r, S1, G1, Na, r2.mono tk, rs1, rg1, h1, k.mono tk⟩⟩
theorem ag_tup {kk : Nat} {n : Nat} (hc : X.calm = true) (h : PGs X es (lowGs gs)) (hn : (assignEach es X.env).length = n := by rfl) (hst : (assignEach es X.env).findIdx? (·.1) = none := by rfl) : PG X (.Tuple es kk pos) (lowG (agTup n gs)) :=
  PGimp (PGor (pg_tup hc h hn hst) (pg_lst hc h hn hst)) fun v σ H N ⟨x, S, G, Na, rx, rs, rg, h, k⟩ => by
    unfold agTup at h
    split at h
    · obtain ⟨p, vs, rfl, hp, hs⟩ := rx
      exact .inl ⟨p, vs, rfl, SqT.of hp, by rw [← hs.length]; exact h.1, _, S, G, Na, hs, rs, rg, h.2, k⟩
    · obtain ⟨xs, hp, hl, q⟩ := h
      obtain ⟨vs, e, hs⟩ := rg _ _ hp
      exact .inr ⟨_, vs, rx, SqL.of e, by rw [← hs.length]; exact hl, _, S, G, Na, hs, rs, rg, q, k⟩
    · exact h.elim
theorem ag_sub (ho : AE X o ao) (hi : AE X i ai) (ha : ∀ v, assign (.Subscript o i pos) X.env v = (do
      let ov ← holding [v] (eval o X.env)
      let iv ← holding [v, ov] (eval i X.env)
      standAt pos
      holding [v, ov, iv] (setItem ov iv v)
      release [v, ov, iv] []) := by intro _; rfl) : PG X (.Subscript o i pos) (lowG (agSub ao ai)) :=
  PGimp (pg_sub ho hi set_list ha) fun v σ H N ⟨x, S, G, Na, rx, rs, rg, h, k⟩ => ⟨S, G, _, rs, rg, h, fun y G1 w H1 tk1 rg1 ry h1 => ⟨S, G1, _, rs.mono tk1, rg1, h1, fun z G2 u H2 tk2 rg2 rz h2 => by
    obtain ⟨p, kk, xs, j, rfl, rfl, hp, hj, q⟩ := h2
    obtain ⟨vs, e, hs⟩ := rg2 _ _ hp
    refine ⟨p, vs, kk, j, ry, rz, e, by rw [← hs.length]; exact hj, ?_⟩
    have tk := tk1.trans tk2
    exact k S _ σ _ (tk.trans (TK.lst e)) ((rs.mono tk).mono (TK.lst e)) (rg2.setL e (hs.set j (rx.mono tk))) q⟩⟩

/-! ### statements -/
variable {st : Stmt} {rest sts sts2 : List Stmt} {sa sb sc : ATS}
def aSeq (s t : ATS) : ATS := fun D S G => s { D with nx := t D } S G
def aNext : ATS := fun D S G => D.nx S G
theorem as_nil : ASs X [] aNext := PSsimp pss_nil fun D σ H ⟨S, G, Da, rs, rg, h, E⟩ => E.nx S G σ H (TK.refl H) rs rg h
theorem as_cons (h1 : AS X st sa) (h2 : ASs X rest sb) : ASs X (st :: rest) (aSeq sa sb) := PSsimp (pss_cons h1 h2) fun D σ H ⟨S, G, Da, rs, rg, h, E⟩ =>
  ⟨S, G, _, rs, rg, h, ⟨fun S1 G1 σ1 H1 tk rs1 rg1 h1 => ⟨S1, G1, Da, rs1, rg1, h1, E.mono tk⟩, E.rt, E.bk, E.ct⟩⟩
theorem as_one (h1 : AS X st sa) : ASs X [st] sa := pss_one h1
def aDropS (aa : AT) : ATS := fun D S G => aa S G fun _ G1 => D.nx S G1
theorem as_expr (he : AE X e aa) (hs : swapsWith e none pos.line X.env = pure false := by rfl) : AS X (.Expr e pos) (aDropS aa) := PSimp (ps_expr he hs) fun D σ H ⟨S, G, Da, rs, rg, h, E⟩ =>
  ⟨S, G, _, rs, rg, h, fun x G1 v H1 tk rg1 rx h1 => E.nx S G1 σ H1 tk (rs.mono tk) rg1 h1⟩
def aRet (aa : AT) : ATS := fun D S G => aa S G D.rt
theorem as_ret (he : AE X e aa) : AS X (.Return (some e) pos) (aRet aa) := PSimp (ps_ret he) fun D σ H ⟨S, G, Da, rs, rg, h, E⟩ => ⟨S, G, _, rs, rg, h, E.rt⟩
def aIfS (c : ATT) (s t : ATS) : ATS := fun D S G => c S G fun b G1 => if b = true then s D S G1 else t D S G1
theorem as_if {c : Expr} (hc : APt X c ta) (ha : ASs X sts sa) (hb : ASs X sts2 sb) : AS X (.If c sts sts2 pos) (aIfS ta sa sb) := PSimp (ps_if hc ha hb) fun D σ H ⟨S, G, Da, rs, rg, h, E⟩ =>
  ⟨S, G, _, rs, rg, h, fun b G1 H1 tk rg1 h1 => by
    cases b with
    | true => exact ⟨S, G1, Da, rs.mono tk, rg1, h1, E.mono tk⟩
    | false => exact ⟨S, G1, Da, rs.mono tk, rg1, h1, E.mono tk⟩⟩
def aAsg (aa : AT) (g : ATG) : ATS := fun D S G => aa S G fun x G1 => g x S G1 D.nx
theorem low_asg : ∀ D σ H, lowS (aAsg aa g) D σ H → tAsg (lowE aa) (lowG g) D σ H := fun D σ H ⟨S, G, Da, rs, rg, h, E⟩ =>
  ⟨S, G, _, rs, rg, h, fun x G1 v H1 tk rg1 rx h1 => ⟨x, S, G1, _, rx, rs.mono tk, rg1, h1, E.nx.mono tk⟩⟩
theorem as_asg {tg : Expr} (he : AE X e aa) (hg : PG X tg (lowG g)) (hs : swapsWithSole [tg] e pos.line X.env = pure false := by rfl) (hw : swappedStores [tg] e X.env = pure none := by rfl)
    (h1 : (assignEach [tg] X.env).map (·.2) = [assign tg X.env] := by rfl) : AS X (.Assign [tg] e pos) (aAsg aa g) := PSimp (ps_asg he hg hs hw h1) low_asg
theorem low_set {t : TE} {i : Nat} (im : ∀ σ H Q, lowE aa σ H Q → t σ H Q) : ∀ D σ H, lowS (aAsg aa (agName i)) D σ H → tAsg t (gName i) D σ H := fun D σ H ⟨S, G, Da, rs, rg, h, E⟩ =>
  im _ _ _ ⟨S, G, _, rs, rg, h, fun x G1 v H1 tk rg1 rx h1 => E.nx _ G1 _ H1 tk ((rs.mono tk).set i rx) rg1 h1⟩
theorem as_set (i : Nat) {x : Str} {pos' : Pos} (hN : X.N.Nodup) (he : AE X e aa) (hi : X.N[i]? = some x := by rfl) (hx : Loc X.env.scope x := by first | exact Or.inl rfl | exact Or.inr rfl) (hs : swapsWith e (some (.Name x pos')) pos.line X.env = pure false := by rfl)
    (hf : X.fn x = true ∨ X.env.scope.names.lookup x = some .local := by first | exact .inl rfl | exact .inr rfl | assumption) : AS X (.Assign [.Name x pos'] e pos) (aAsg aa (agName i)) := PSimp (ps_set hN hi hx he hs hf) (low_set fun _ _ _ h => h)
def aAugAdd (i : Nat) (aa : AT) : ATS := fun D S G => ∃ n, S[i]? = some (some (.int n)) ∧ aa S G fun y G1 => ∃ m, y = .int m ∧ D.nx (S.set i (some (.int (n + m)))) G1
theorem as_augAdd (i : Nat) {x : Str} {pos' : Pos} (hN : X.N.Nodup) (he : AE X e aa) (hi : X.N[i]? = some x := by rfl) (hx : Loc X.env.scope x := by first | exact Or.inl rfl | exact Or.inr rfl)
    (hf : X.fn x = true ∨ X.env.scope.names.lookup x = some .local := by first | exact .inl rfl | exact .inr rfl | assumption) : AS X (.AugAssign (.Name x pos') .Add e pos) (aAugAdd i aa) :=
  PSimp (ps_aug hN hi hx he ip_add hf) fun D σ H ⟨S, G, Da, rs, rg, ⟨n, e1, h⟩, E⟩ => by
    obtain ⟨v, e2, r⟩ := rs.2 i _ e1
    cases (show v = V.int n from r)
    refine ⟨.int n, e2, S, G, _, rs, rg, h, fun y G1 u H1 tk rg1 ry h1 => ?_⟩
    obtain ⟨m, rfl, h1⟩ := h1
    cases (show u = V.int m from ry)
    exact ⟨n, m, rfl, rfl, E.nx _ G1 _ H1 tk ((rs.mono tk).set i (show AVr H1 (.int (n + m)) (V.int (n + m)) from rfl)) rg1 h1⟩

/-! ### what is walked -/
structure ItR (H0 : Hp) (J : It) (items : List AV) (guard : AH → Prop) : Prop where
  go : ∀ i H G, i < items.length → TK H0 H → RelG H G → guard G → J.go i H
  stop : ∀ H G, TK H0 H → RelG H G → guard G → J.stop items.length H
  yld : ∀ i H G v H', i < items.length → TK H0 H → RelG H G → guard G → J.yld i H v H' → ∃ y, items[i]? = some y ∧ TK H H' ∧ RelG H' G ∧ AVr H' y v
abbrev ATI := ASt → AH → (List AV → (AH → Prop) → AH → Prop) → Prop
def lowI (ai : ATI) : TI := fun σ H R => ∃ S G Ra, RelS H σ S ∧ RelG H G ∧ ai S G Ra ∧ ∀ items guard G' J H', TK H H' → RelG H' G' → ItR H' J items guard → Ra items guard G' → R J H'
theorem PIimp {tg iter : Expr} {t t' : TI} (h : PI X tg iter t) (i : ∀ σ H R, t' σ H R → t σ H R) : PI X tg iter t' := ⟨fun pins s σ H R I q => h.run pins s σ H R I (i σ H R q)⟩
theorem itr_tup {K : PySem.W.Frag} {H : Hp} {p : Addr} {xs : List AV} {vs : List V} (hp : H p = some (.tup vs)) (hs : AVs H xs vs) : ItR H (Itt K p) xs (fun _ => True) where
  go := fun i H1 G hi tk rg _ => by
    obtain ⟨x, hx⟩ : ∃ x, xs[i]? = some x := ⟨xs[i], List.getElem?_eq_getElem hi⟩
    obtain ⟨v, hv, _⟩ := hs.get hx
    exact ⟨vs, v, SqT.of (tk _ _ hp), hv⟩
  stop := fun H1 G tk rg _ => ⟨vs, SqT.of (tk _ _ hp), by rw [hs.length]; exact Nat.le_refl _⟩
  yld := fun i H1 G v H' hi tk rg _ ⟨e, h⟩ => by
    subst e
    obtain ⟨x, hx, r⟩ := hs.get' (h vs (SqT.of (tk _ _ hp)))
    exact ⟨x, hx, TK.refl _, rg, r.mono tk⟩
theorem itr_lst {K : PySem.W.Frag} {H : Hp} {p : Addr} {xs : List AV} : ItR H (Itl K p) xs (fun G => G p = some xs) where
  go := fun i H1 G hi tk rg gd => by
    obtain ⟨vs, e, hs⟩ := rg _ _ gd
    obtain ⟨x, hx⟩ : ∃ x, xs[i]? = some x := ⟨xs[i], List.getElem?_eq_getElem hi⟩
    obtain ⟨v, hv, _⟩ := hs.get hx
    exact ⟨vs, v, SqL.of e, hv⟩
  stop := fun H1 G tk rg gd => by
    obtain ⟨vs, e, hs⟩ := rg _ _ gd
    exact ⟨vs, SqL.of e, by rw [hs.length]; exact Nat.le_refl _⟩
  yld := fun i H1 G v H' hi tk rg gd ⟨e, h⟩ => by
    subst e
    obtain ⟨vs, e, hs⟩ := rg _ _ gd
    obtain ⟨x, hx, r⟩ := hs.get' (h vs (SqL.of e))
    exact ⟨x, hx, TK.refl _, rg, r⟩
/-- a tuple or a list, item by item -/
def iSeq (K : PySem.W.Frag) (tl : TE) : TI := fun σ H R => tl σ H fun x H1 => ∃ a, x = .ref a ∧ (((∃ xs, SqT K H1 a xs) ∧ R (Itt K a) H1) ∨ ((∃ xs, SqL K H1 a xs) ∧ R (Itl K a) H1))
theorem pi_seq {tg l : Expr} {tl : TE} (hl : PE X l tl) : PI X tg l (iSeq X.K tl) := by
  refine ⟨fun pins s σ H R I h => ?_⟩
  refine thn (hl.run pins s σ H _ I h) fun v s1 ⟨x, H1, I1, r1, q1⟩ => ?_
  obtain ⟨a, e, q1⟩ := q1
  subst e
  cases r1
  rcases q1 with ⟨⟨xs, hq⟩, q⟩ | ⟨⟨xs, hq⟩, q⟩
  · have z : PE X l (fun σ' H' Q => σ' = σ ∧ H' = H1 ∧ Q (.ref a) H1) → True := fun _ => True.intro
    obtain ⟨its, rv, p, hz⟩ := I1.tuple hq
    refine wpAny_pyIter_tuple p ?_
    refine ⟨s1.heap.objs.size, [s1.heap.objs.size], _, _, H1, rfl, I1.kept (t' := s1.toks) fun b o e => Heap.get?_push_of_some _ e, turn_tuple a _, ⟨_, Heap.get?_push_size _ rfl, rfl, rfl⟩, fun b hb => ?_, q⟩
    have e : b = s1.heap.objs.size := by simpa using hb
    subst e
    exact I1.fpOk (Nat.le_refl _) (I1.hok.fresh (Nat.le_refl _))
  · obtain ⟨its, rv, p, hz⟩ := I1.list hq
    refine wpAny_pyIter_list p.isList ?_
    refine ⟨s1.heap.objs.size, [s1.heap.objs.size], _, _, H1, rfl, I1.kept (t' := s1.toks) fun b o e => Heap.get?_push_of_some _ e, turn_list a _, ⟨_, Heap.get?_push_size _ rfl, rfl, rfl⟩, fun b hb => ?_, q⟩
    have e : b = s1.heap.objs.size := by simpa using hb
    subst e
    exact I1.fpOk (Nat.le_refl _) (I1.hok.fresh (Nat.le_refl _))
def aiSeq (aa : AT) : ATI := fun S G R => aa S G fun x G1 => match x with
  | .tup xs => R xs (fun _ => True) G1
  | .ref p => ∃ xs, G1 p = some xs ∧ R xs (fun G => G p = some xs) G1
  | _ => False
theorem ai_seq {tg : Expr} (ha : AE X a aa) : PI X tg a (lowI (aiSeq aa)) := PIimp (pi_seq ha) fun σ H R ⟨S, G, Ra, rs, rg, h, k⟩ => ⟨S, G, _, rs, rg, h, fun x G1 v H1 tk rg1 rx h1 => by
  split at h1
  · obtain ⟨p, vs, rfl, hp, hs⟩ := rx
    exact ⟨p, rfl, .inl ⟨⟨vs, SqT.of hp⟩, k _ _ G1 _ H1 tk rg1 (itr_tup hp hs) h1⟩⟩
  · obtain ⟨xs, hp, q⟩ := h1
    obtain ⟨vs, e, hs⟩ := rg1 _ _ hp
    exact ⟨_, rx, .inr ⟨⟨vs, SqL.of e⟩, k _ _ G1 _ H1 tk rg1 itr_lst q⟩⟩
  · exact h1.elim⟩
def rgA (lo : Int) (n : Nat) : List AV := (List.range n).map fun (i : Nat) => AV.int (lo + (i : Int))
theorem rgA_length (lo : Int) (n : Nat) : (rgA lo n).length = n := by unfold rgA; rw [List.length_map, List.length_range]
theorem rgA_get {lo : Int} {n i : Nat} (h : i < n) : (rgA lo n)[i]? = some (.int (lo + (i : Int))) := by unfold rgA; rw [List.getElem?_map, List.getElem?_range h]; rfl
theorem rgA_of {lo : Int} {n i : Nat} {x : AV} (h : (rgA lo n)[i]? = some x) : i < n ∧ x = .int (lo + (i : Int)) := by
  have hi := (List.getElem?_eq_some_iff.mp h).1
  rw [rgA_length] at hi
  rw [rgA_get hi] at h
  exact ⟨hi, (Option.some.inj h).symm⟩
theorem itr_range {H : Hp} {lo : Int} {n : Nat} : ItR H (Itr lo n) (rgA lo n) (fun _ => True) where
  go := fun i H1 G hi tk rg _ => by rw [rgA_length] at hi; exact hi
  stop := fun H1 G tk rg _ => by rw [rgA_length]; exact Nat.le_refl _
  yld := fun i H1 G v H' hi tk rg _ ⟨e, h⟩ => by
    subst e
    rw [rgA_length] at hi
    exact ⟨_, rgA_get hi, TK.refl _, rg, h⟩
/-- range(n) -/
def aiRng1 (la : ATA) : ATI := fun S G R => la S G fun xs G1 => ∃ n : Nat, xs = [.int (n : Int)] ∧ n ≤ 100000 ∧ R (rgA 0 n) (fun _ => True) G1
theorem ai_range1 {tg : Expr} {p : Pos} (hm : X.mg "range" = none) (ha : APa X [a] la) (hg : Gl X "range" := by rfl) (hs : starEach [a] X.env = [(false, eval a X.env)] := by rfl) : PI X tg (.Call (.Name "range" p) [a] [] pos) (lowI (aiRng1 la)) :=
  PIimp (pi_range1 hg hm ha hs) fun σ H R ⟨S, G, Ra, rs, rg, h, k⟩ => ⟨S, G, _, rs, rg, h, fun xs G1 vs H1 tk rg1 rx h1 => by
    obtain ⟨n, rfl, hn, q⟩ := h1
    obtain ⟨v, rfl, r⟩ := avs_one rx
    cases (show v = V.int (n : Int) from r)
    refine ⟨(n : Int), rfl, by omega, by omega, ?_⟩
    exact k _ _ G1 _ H1 tk rg1 (by simpa using itr_range (lo := 0) (n := n)) q⟩
/-- range(lo, hi, 2) -/
def rg2 (lo : Int) (n : Nat) : List AV := (List.range n).map fun (i : Nat) => AV.int (lo + (i : Int) * 2)
theorem rg2_length (lo : Int) (n : Nat) : (rg2 lo n).length = n := by unfold rg2; rw [List.length_map, List.length_range]
theorem rg2_get {lo : Int} {n i : Nat} (h : i < n) : (rg2 lo n)[i]? = some (.int (lo + (i : Int) * 2)) := by unfold rg2; rw [List.getElem?_map, List.getElem?_range h]; rfl
theorem rg2_of {lo : Int} {n i : Nat} {x : AV} (h : (rg2 lo n)[i]? = some x) : i < n ∧ x = .int (lo + (i : Int) * 2) := by
  have hi := (List.getElem?_eq_some_iff.mp h).1
  rw [rg2_length] at hi
  rw [rg2_get hi] at h
  exact ⟨hi, (Option.some.inj h).symm⟩
theorem itr_rangeC {H : Hp} {lo : Int} {n : Nat} : ItR H (Itc lo 2 n) (rg2 lo n) (fun _ => True) where
  go := fun i H1 G hi tk rg _ => by rw [rg2_length] at hi; exact hi
  stop := fun H1 G tk rg _ => by rw [rg2_length]; exact Nat.le_refl _
  yld := fun i H1 G v H' hi tk rg _ ⟨e, h⟩ => by
    subst e
    rw [rg2_length] at hi
    exact ⟨_, rg2_get hi, TK.refl _, rg, h⟩
theorem rgSize_two (i j : Nat) : Builtin.Range.rangeSize (i : Int) (j : Int) 2 = (((j + 1 - i) / 2 : Nat) : Int) := by
  unfold Builtin.Range.rangeSize
  rw [if_pos (by decide)]
  split <;> omega
theorem RgC_two {i j : Nat} (hi : i ≤ 100000) (hj : j ≤ 100000) : RgC (i : Int) (j : Int) 2 ((j + 1 - i) / 2) := by
  refine ⟨by decide, by decide, ?_, rgSize_two i j⟩
  have fit : ∀ x : Int, -1000000 ≤ x → x ≤ 1000000 → Builtin.Range.rangeFitsLong x = true := fun x h1 h2 => by
    unfold Builtin.Range.rangeFitsLong
    exact Bool.and_eq_true_iff.mpr ⟨decide_eq_true (by omega), decide_eq_true (by omega)⟩
  unfold Builtin.Range.small
  rw [rgSize_two]
  rw [if_pos (by decide), fit _ (by omega) (by omega), fit _ (by omega) (by omega), fit _ (by omega) (by omega), fit _ (by omega) (by omega), fit _ (by omega) (by omega), Bool.or_true]
  rfl
def aiRng3 (la : ATA) : ATI := fun S G R => la S G fun xs G1 => ∃ i j : Nat, xs = [.int (i : Int), .int (j : Int), .int 2] ∧ i ≤ 100000 ∧ j ≤ 100000 ∧ R (rg2 (i : Int) ((j + 1 - i) / 2)) (fun _ => True) G1
theorem ai_range3 {tg : Expr} {p : Pos} (hm : X.mg "range" = none) (ha : APa X [a, b, c] la) (hg : Gl X "range" := by rfl) (hs : starEach [a, b, c] X.env = (false, eval a X.env) :: starEach [b, c] X.env := by rfl) (hpl : (backTo pos (starEach [b, c] X.env)).any (·.1) = false := by rfl) : PI X tg (.Call (.Name "range" p) [a, b, c] [] pos) (lowI (aiRng3 la)) :=
  PIimp (pi_range3 hg hm ha hs hpl) fun σ H R ⟨S, G, Ra, rs, rg, h, k⟩ => ⟨S, G, _, rs, rg, h, fun xs G1 vs H1 tk rg1 rx h1 => by
    obtain ⟨i, j, rfl, hi, hj, q⟩ := h1
    obtain ⟨v, r, rfl, r1, r2⟩ := rx
    obtain ⟨u, w, rfl, r3, r4⟩ := avs_two r2
    cases (show v = V.int _ from r1)
    cases (show u = V.int _ from r3)
    cases (show w = V.int _ from r4)
    exact ⟨_, _, 2, _, rfl, RgC_two hi hj, k _ _ G1 _ H1 tk rg1 itr_rangeC q⟩⟩
end
end LA
set_option Elab.async false
set_option linter.all false
set_option maxRecDepth 100000
set_option maxHeartbeats 4000000
namespace LA
open PySem PySem.Spec PyProof.Rows L2

section
variable {X : Cx} {a b c e o i : Expr} {es : List Expr} {aa ab ac ao : AT} {ta tb : ATT} {la : ATA} {pos : Pos} {g : ATG} {gs : ATGs} {ai : ATI} {sa sb : ATS} {sts : List Stmt}
/-! ### zip -/
def zipA (xs ys : List AV) : List AV := List.zipWith (fun x y => AV.tup [x, y]) xs ys
theorem zipA_length (xs ys : List AV) : (zipA xs ys).length = min xs.length ys.length := by unfold zipA; rw [List.length_zipWith]
theorem zipA_get {xs ys : List AV} {i : Nat} {x y : AV} (hx : xs[i]? = some x) (hy : ys[i]? = some y) : (zipA xs ys)[i]? = some (.tup [x, y]) := by
  unfold zipA
  rw [List.getElem?_zipWith, hx, hy]
theorem zipA_of {xs ys : List AV} {i : Nat} {z : AV} (h : (zipA xs ys)[i]? = some z) : ∃ x y, xs[i]? = some x ∧ ys[i]? = some y ∧ z = .tup [x, y] := by
  unfold zipA at h
  rw [List.getElem?_zipWith] at h
  split at h
  · rename_i x y hx hy
    exact ⟨x, y, hx, hy, (Option.some.inj h).symm⟩
  · cases h
theorem pair_new {H : Hp} {T : Addr} {x y : AV} {v u : V} (hT : H T = none) (rx : AVr H x v) (ry : AVr H y u) : AVr (upd H T (.tup [v, u])) (.tup [x, y]) (.ref T) :=
  ⟨T, [v, u], rfl, upd_same, .cons (rx.mono (TK.new hT)) (.cons (ry.mono (TK.new hT)) rfl)⟩
theorem itr_zipL {K : PySem.W.Frag} {H : Hp} {p q : Addr} {xs ys : List AV} : ItR H (Itz K p q) (zipA xs ys) (fun G => G p = some xs ∧ G q = some ys) where
  go := fun i H1 G hi tk rg gd => by
    rw [zipA_length] at hi
    obtain ⟨vs, e1, h1⟩ := rg _ _ gd.1
    obtain ⟨us, e2, h2⟩ := rg _ _ gd.2
    obtain ⟨v, hv, _⟩ := h1.get (List.getElem?_eq_getElem (by omega : i < xs.length))
    obtain ⟨u, hu, _⟩ := h2.get (List.getElem?_eq_getElem (by omega : i < ys.length))
    exact ⟨vs, us, v, u, SqL.of e1, SqL.of e2, hv, hu⟩
  stop := fun H1 G tk rg gd => by
    rw [zipA_length]
    obtain ⟨vs, e1, h1⟩ := rg _ _ gd.1
    obtain ⟨us, e2, h2⟩ := rg _ _ gd.2
    exact ⟨vs, us, SqL.of e1, SqL.of e2, by rw [← h1.length, ← h2.length]; omega⟩
  yld := fun i H1 G v H' hi tk rg gd ⟨T, v1, v2, e, hT, e2, f1, f2⟩ => by
    subst e e2
    obtain ⟨vs, e1, h1⟩ := rg _ _ gd.1
    obtain ⟨us, e2, h2⟩ := rg _ _ gd.2
    obtain ⟨x, hx, rx⟩ := h1.get' (f1 vs (SqL.of e1))
    obtain ⟨y, hy, ry⟩ := h2.get' (f2 us (SqL.of e2))
    exact ⟨_, zipA_get hx hy, TK.new hT, rg.newO hT, pair_new hT rx ry⟩
theorem itr_zipT {K : PySem.W.Frag} {H : Hp} {p q : Addr} {xs ys : List AV} {vs us : List V} (hp : H p = some (.tup vs)) (hq : H q = some (.tup us)) (h1 : AVs H xs vs) (h2 : AVs H ys us) : ItR H (RZ.ItzT K p q) (zipA xs ys) (fun _ => True) where
  go := fun i H1 G hi tk rg gd => by
    rw [zipA_length] at hi
    obtain ⟨v, hv, _⟩ := h1.get (List.getElem?_eq_getElem (by omega : i < xs.length))
    obtain ⟨u, hu, _⟩ := h2.get (List.getElem?_eq_getElem (by omega : i < ys.length))
    exact ⟨vs, us, v, u, SqT.of (tk _ _ hp), SqT.of (tk _ _ hq), hv, hu⟩
  stop := fun H1 G tk rg gd => by
    rw [zipA_length]
    exact ⟨vs, us, SqT.of (tk _ _ hp), SqT.of (tk _ _ hq), by rw [← h1.length, ← h2.length]; omega⟩
  yld := fun i H1 G v H' hi tk rg gd ⟨T, v1, v2, e, hT, e2, f1, f2⟩ => by
    subst e e2
    obtain ⟨x, hx, rx⟩ := h1.get' (f1 vs (SqT.of (tk _ _ hp)))
    obtain ⟨y, hy, ry⟩ := h2.get' (f2 us (SqT.of (tk _ _ hq)))
    exact ⟨_, zipA_get hx hy, TK.new hT, rg.newO hT, pair_new hT (rx.mono tk) (ry.mono tk)⟩
def aiZip (la : ATA) : ATI := fun S G R => la S G fun zs G1 => match zs with
  | [.tup xs, .tup ys] => R (zipA xs ys) (fun _ => True) G1
  | [.ref p, .ref q] => ∃ xs ys, G1 p = some xs ∧ G1 q = some ys ∧ R (zipA xs ys) (fun G => G p = some xs ∧ G q = some ys) G1
  | _ => False
theorem ai_zip {elts : List Expr} {kk : Nat} {p tpos : Pos} (hm : X.mg "zip" = none) (ha : APa X [a, b] la) (hg : Gl X "zip" := by rfl) (hs : starEach [a, b] X.env = (false, eval a X.env) :: starEach [b] X.env := by rfl) (hpl : (backTo pos (starEach [b] X.env)).any (·.1) = false := by rfl) :
    PI X (.Tuple elts kk tpos) (.Call (.Name "zip" p) [a, b] [] pos) (lowI (aiZip la)) :=
  PIimp (RZ.pi_zipA hg hm ha hs hpl) fun σ H R ⟨S, G, Ra, rs, rg, h, k⟩ => ⟨S, G, _, rs, rg, h, fun zs G1 vs H1 tk rg1 rx h1 => by
    split at h1
    · obtain ⟨v, u, rfl, r1, r2⟩ := avs_two rx
      obtain ⟨p, ws, rfl, hp, hw⟩ := r1
      obtain ⟨q, ts, rfl, hq, ht⟩ := r2
      exact ⟨p, q, ws, ts, rfl, .inr ⟨SqT.of hp, SqT.of hq, k _ _ G1 _ H1 tk rg1 (itr_zipT hp hq hw ht) h1⟩⟩
    · obtain ⟨v, u, rfl, r1, r2⟩ := avs_two rx
      obtain ⟨xs, ys, hp, hq, q⟩ := h1
      cases (show v = V.ref _ from r1)
      cases (show u = V.ref _ from r2)
      obtain ⟨vs, e1, _⟩ := rg1 _ _ hp
      obtain ⟨us, e2, _⟩ := rg1 _ _ hq
      exact ⟨_, _, vs, us, rfl, .inl ⟨SqL.of e1, SqL.of e2, k _ _ G1 _ H1 tk rg1 itr_zipL q⟩⟩
    · exact h1.elim⟩

/-! ### for -/
def aFor (ai : ATI) (g : ATG) (sb : ATS) : ATS := fun D S G => ai S G fun items guard G1 => ∃ Pv : Nat → ASt → AH → Prop, Pv 0 S G1 ∧ (∀ i S G, i ≤ items.length → Pv i S G → guard G) ∧
  (∀ i x S G, items[i]? = some x → Pv i S G → g x S G fun S2 G2 => sb { D with nx := Pv (i + 1), ct := Pv (i + 1), bk := D.nx } S2 G2) ∧ ∀ S G, Pv items.length S G → D.nx S G
theorem as_for {tg iter : Expr} (hp : PassesOwn (model X.prog X.w) X.A X.env X.xe) (hc : X.calm = true) (hi : PI X tg iter (lowI ai)) (hg : PG X tg (lowG g)) (hb : ASs X sts sb)
    (hs : ∀ x, foldedSetIterable iter X.env x = pure x := by intro _; rfl) : AS X (.For tg iter sts [] pos) (aFor ai g sb) := PSimp (ps_for hp hc hi hg hb hs) fun D σ H ⟨S, G, Da, rs, rg, h, E⟩ =>
  ⟨S, G, _, rs, rg, h, fun items guard G1 J H1 tk rg1 it ⟨Pv, p0, pg, pt, pd⟩ => by
    refine ⟨fun i m σ H => m = items.length - i ∧ i ≤ items.length ∧ TK H1 H ∧ ∃ S G, RelS H σ S ∧ RelG H G ∧ Pv i S G, ⟨_, rfl, Nat.zero_le _, TK.refl _, S, G1, rs.mono tk, rg1, p0⟩, ?_⟩
    rintro i m σ2 H2 ⟨rfl, hi, tk2, S2, G2, rs2, rg2, p2⟩
    have gd := pg i S2 G2 hi p2
    by_cases hlt : i < items.length
    · refine .inr ⟨it.go i H2 G2 hlt tk2 rg2 gd, fun σ' H' => TK H1 H' ∧ ∃ S G, RelS H' σ' S ∧ RelG H' G ∧ Pv (i + 1) S G, fun σ' H' ⟨t, S', G', a, b, c⟩ => ⟨items.length - (i + 1), by omega, rfl, hlt, t, S', G', a, b, c⟩, fun v H3 y => ?_⟩
      obtain ⟨x, hx, tk3, rg3, rx⟩ := it.yld i H2 G2 v H3 hlt tk2 rg2 gd y
      have kn : KN H3 (fun σ' H' => TK H1 H' ∧ ∃ S G, RelS H' σ' S ∧ RelG H' G ∧ Pv (i + 1) S G) (Pv (i + 1)) := fun S' G' σ' H' t a b c => ⟨tk2.trans (tk3.trans t), S', G', a, b, c⟩
      exact ⟨x, S2, G2, _, rx, rs2.mono tk3, rg3, pt i x S2 G2 hx p2, fun S4 G4 σ4 H4 tk4 rs4 rg4 h4 =>
        ⟨S4, G4, _, rs4, rg4, h4, ⟨kn.mono tk4, E.rt.mono (tk.trans (tk2.trans (tk3.trans tk4))), E.nx.mono (tk.trans (tk2.trans (tk3.trans tk4))), kn.mono tk4⟩⟩⟩
    · have e : i = items.length := by omega
      subst e
      exact .inl ⟨it.stop H2 G2 tk2 rg2 gd, E.nx S2 G2 σ2 H2 (tk.trans tk2) rs2 rg2 (pd S2 G2 p2)⟩⟩

/-! ### comprehensions -/
structure APTs (X : Cx) (ifs : List Expr) (t : ATT) : Prop where
  of : PTs X ifs (lowT t)
def aYes : ATT := fun _ G Q => Q true G
theorem PTsimp {ifs : List Expr} {t t' : TT} (h : PTs X ifs t) (i : ∀ σ H Q, t' σ H Q → t σ H Q) : PTs X ifs t' := ⟨fun pins s σ H Q I q => h.run pins s σ H Q I (i σ H Q q)⟩
theorem apts_nil : PTs X [] (lowT aYes) := PTsimp pts_nil fun σ H Q ⟨S, G, Qa, rs, rg, h, k⟩ => k true G H (TK.refl H) rg h
theorem apts_one {c : Expr} (h : APt X c ta) : PTs X [c] (lowT ta) := pts_one h
/-- one turn of a comprehension, the block's slots S -/
def aTurn (p : Addr) (ta : ATT) (ae : AT) (N : AH → Prop) : ASt → AH → Prop := fun S G => ta S G fun b G3 => if b = true then ae S G3 fun y G4 => ∃ acc, G4 p = some acc ∧ acc.length < 100000 ∧ N (aupd G4 p (acc ++ [y])) else N G3
def aLc (ai : ATI) (st : AV → ASt → (ASt → Prop) → Prop) (ta : ATT) (ae : AT) : AT := fun S G Q => ai S G fun items guard G1 => ∀ p, G1 p = none → ∃ Pv : Nat → AH → Prop, Pv 0 (aupd G1 p []) ∧ (∀ i G, i ≤ items.length → Pv i G → guard G) ∧
  (∀ i x G, items[i]? = some x → Pv i G → st x S fun S2 => aTurn p ta ae (Pv (i + 1)) S2 G) ∧ ∀ G, Pv items.length G → Q (.ref p) G
def stN (j : Nat) : AV → ASt → (ASt → Prop) → Prop := fun x S N => N (S.set j (some x))
def st2 (j k : Nat) : AV → ASt → (ASt → Prop) → Prop := fun x S N => ∃ y z, x = .tup [y, z] ∧ N ((S.set j (some y)).set k (some z))
theorem lc_turn {ta : ATT} {ae : AT} {p : Addr} {H1 H : Hp} {σ2 : L2.St} {S2 : ASt} {G : AH} {N : Hp → Prop} {Na : AH → Prop} (hN : ∀ H' G', TK H H' → RelG H' G' → Na G' → N H') (rs : RelS H σ2 S2) (rg : RelG H G) (h : aTurn p ta ae Na S2 G) :
    lowT ta σ2 H fun b H3 => if b = true then lowE ae σ2 H3 fun y H4 => ∃ acc, H4 p = some (.lst acc) ∧ acc.length < sizeLine ∧ N (upd H4 p (.lst (acc ++ [y]))) else N H3 :=
  ⟨S2, G, _, rs, rg, h, fun b G3 H3 tk rg3 h3 => by
    cases b with
    | true =>
      exact ⟨S2, G3, _, rs.mono tk, rg3, h3, fun y G4 v H4 tk4 rg4 ry ⟨acc, hp, hl, q⟩ => by
        obtain ⟨vs, e, hs⟩ := rg4 _ _ hp
        exact ⟨vs, e, sz_lt (by rw [← hs.length]; exact hl), hN _ _ (tk.trans (tk4.trans (TK.lst e))) (rg4.setL e (hs.append (.cons ry AVs.nil))) q⟩⟩
    | false => exact hN _ _ tk rg3 h3⟩
theorem low_lc {g : TG} {st : AV → ASt → (ASt → Prop) → Prop} {ta : ATT} {ae : AT} {vs : List Nat}
    (hgs : ∀ (σ : L2.St) (H : Hp) (S : ASt) (G : AH) (x : AV) (v : V) (N : ASt → Prop) (R : L2.St → Hp → Prop), RelS H σ S → RelG H G → AVr H x v → st x S N → (∀ σ2 S2, RelS H σ2 S2 → wipe σ2 vs = wipe σ vs → N S2 → R σ2 H) → g v (wipe σ vs) H R) :
    ∀ σ H Q, lowE (aLc ai st ta ae) σ H Q → tLc (lowI ai) g (lowT ta) (lowE ae) vs σ H Q := fun σ H Q ⟨S, G, Qa, rs, rg, h, k⟩ =>
  ⟨S, G, _, rs, rg, h, fun items guard G1 J H1 tk rg1 it h1 p hp => by
    obtain ⟨Pv, p0, pg, pt, pd⟩ := h1 p (rg1.free hp)
    refine ⟨fun i m H => m = items.length - i ∧ i ≤ items.length ∧ TK H1 H ∧ ∃ G, RelG H G ∧ Pv i G, ⟨_, rfl, Nat.zero_le _, TK.new hp, _, rg1.newL hp AVs.nil, p0⟩, ?_⟩
    rintro i m H2 ⟨rfl, hi, tk2, G2, rg2, p2⟩
    have gd := pg i G2 hi p2
    by_cases hlt : i < items.length
    · refine .inr ⟨it.go i H2 G2 hlt tk2 rg2 gd, fun H' => TK H1 H' ∧ ∃ G, RelG H' G ∧ Pv (i + 1) G, fun H' ⟨t, G', b, c⟩ => ⟨items.length - (i + 1), by omega, rfl, hlt, t, G', b, c⟩, fun v H3 y => ?_⟩
      obtain ⟨x, hx, tk3, rg3, rx⟩ := it.yld i H2 G2 v H3 hlt tk2 rg2 gd y
      refine hgs σ H3 S G2 x v _ _ (rs.mono (tk.trans (tk2.trans tk3))) rg3 rx (pt i x G2 hx p2) fun σ2 S2 rs2 hw h2 => ⟨hw, ?_⟩
      exact lc_turn (H1 := H1) (fun H' G' t b c => ⟨tk2.trans (tk3.trans t), G', b, c⟩) rs2 rg3 h2
    · have e : i = items.length := by omega
      subst e
      exact .inl ⟨it.stop H2 G2 tk2 rg2 gd, k (.ref p) G2 _ H2 (tk.trans tk2) rg2 rfl (pd G2 p2)⟩⟩
theorem sets4 (σ : L2.St) (j l : Nat) (u w : Option V) : ((((σ.set l none).set j none).set j u).set l w) = (σ.set j u).set l w := by
  rw [List.set_set]
  by_cases c : j = l
  · subst c; rw [List.set_set, List.set_set, List.set_set]
  · rw [List.set_comm _ _ (Ne.symm c), List.set_set]
theorem sets5 (σ : L2.St) (j l : Nat) (u w : Option V) : ((((σ.set j u).set l w).set l none).set j none) = (σ.set l none).set j none := by
  rw [List.set_set]
  by_cases c : j = l
  · subst c; rw [List.set_set, List.set_set, List.set_set]
  · rw [List.set_comm _ _ c, List.set_set]
theorem set_set_none (σ : L2.St) (j : Nat) (v : Option V) : ((σ.set j none).set j v).set j none = σ.set j none := by
  rw [List.set_set, List.set_set]
theorem wipe_one (σ : L2.St) (j : Nat) : wipe σ [j] = σ.set j none := rfl
theorem st_name {j : Nat} : ∀ (σ : L2.St) (H : Hp) (S : ASt) (G : AH) (x : AV) (v : V) (N : ASt → Prop) (R : L2.St → Hp → Prop), RelS H σ S → RelG H G → AVr H x v → stN j x S N → (∀ σ2 S2, RelS H σ2 S2 → wipe σ2 [j] = wipe σ [j] → N S2 → R σ2 H) → gName j v (wipe σ [j]) H R :=
  fun σ H S G x v N R rs rg rx h k => k ((σ.set j none).set j (some v)) (S.set j (some x)) (by rw [List.set_set]; exact rs.set j rx) (set_set_none σ j (some v)) h
theorem st_pair {K : PySem.W.Frag} {j l : Nat} : ∀ (σ : L2.St) (H : Hp) (S : ASt) (G : AH) (x : AV) (v : V) (N : ASt → Prop) (R : L2.St → Hp → Prop), RelS H σ S → RelG H G → AVr H x v → st2 j l x S N → (∀ σ2 S2, RelS H σ2 S2 → wipe σ2 [j, l] = wipe σ [j, l] → N S2 → R σ2 H) →
    gTup K 2 (gCons (gName j) (gCons (gName l) gNil)) v (wipe σ [j, l]) H R := fun σ H S G x v N R rs rg rx h k => by
  obtain ⟨y, z, rfl, h⟩ := h
  obtain ⟨p, vs, rfl, hp, hs⟩ := rx
  obtain ⟨u, w, rfl, ru, rw'⟩ := avs_two hs
  refine ⟨p, _, rfl, SqT.of hp, rfl, u, [w], rfl, w, [], rfl, rfl, ?_⟩
  have e : ∀ τ : L2.St, wipe τ [j, l] = (τ.set l none).set j none := fun _ => rfl
  refine k _ ((S.set j (some y)).set l (some z)) ?_ ?_ h
  · rw [e, sets4]
    exact (rs.set j ru).set l rw'
  · rw [e, e, sets4, sets5]
variable {elt iter : Expr} {ifs : List Expr} {scope : Scope}
/-- [elt for x in iter ..] -/
theorem ae_lc (j : Nat) {x : Str} {pt : Pos} (hc : X.calm = true) (hN : X.N.Nodup) (hi : PI X (.Name x pt) iter (lowI ai)) (ok : BlkOk X.N X.env.scope scope [(x, j)])
    (hg : ∀ (s : Shared) (H : Hp) (C : Addr) (cl : List (Str × Addr)) (fp : List Addr), PG (X.blk s H scope (compEnvC scope cl C X.env) fp) (.Name x pt) (gName j))
    (ht : ∀ (s : Shared) (H : Hp) (C : Addr) (cl : List (Str × Addr)) (fp : List Addr), PTs (X.blk s H scope (compEnvC scope cl C X.env) fp) ifs (lowT ta))
    (he : ∀ (s : Shared) (H : Hp) (C : Addr) (cl : List (Str × Addr)) (fp : List Addr), PE (X.blk s H scope (compEnvC scope cl C X.env) fp) elt (lowE ab)) (hs : ∀ x, foldedSetIterable iter X.env x = pure x := by intro _; rfl) :
    AE X (.ListComp elt [⟨.Name x pt, iter, ifs, 0⟩] scope pos) (aLc ai (stN j) ta ab) := PEimp (pe_lc (own := [(x, j)]) hc hN hi ok hg ht he hs) (low_lc st_name)
/-- y = [elt for x in iter ..] -/
theorem as_setLc (i j : Nat) {x y : Str} {pt py spos : Pos} (hc : X.calm = true) (hN : X.N.Nodup) (hy : X.N[i]? = some y) (hyl : X.env.scope.names.lookup y = some .local)
    (hsw : swapsWith (.ListComp elt [⟨.Name x pt, iter, ifs, 0⟩] scope pos) (some (.Name y py)) spos.line X.env = pure true)
    (hi : PI X (.Name x pt) iter (lowI ai)) (ok : BlkOk X.N X.env.scope scope [(x, j)])
    (hg : ∀ (s : Shared) (H : Hp) (C : Addr) (cl : List (Str × Addr)) (fp : List Addr), PG (X.blk s H scope (compEnvC scope cl C X.env) fp) (.Name x pt) (gName j))
    (ht : ∀ (s : Shared) (H : Hp) (C : Addr) (cl : List (Str × Addr)) (fp : List Addr), PTs (X.blk s H scope (compEnvC scope cl C X.env) fp) ifs (lowT ta))
    (he : ∀ (s : Shared) (H : Hp) (C : Addr) (cl : List (Str × Addr)) (fp : List Addr), PE (X.blk s H scope (compEnvC scope cl C X.env) fp) elt (lowE ab)) (hs : ∀ x, foldedSetIterable iter X.env x = pure x := by intro _; rfl) :
    AS X (.Assign [.Name y py] (.ListComp elt [⟨.Name x pt, iter, ifs, 0⟩] scope pos) spos) (aAsg (aLc ai (stN j) ta ab) (agName i)) :=
  PSimp (ps_setLc (i := i) (own := [(x, j)]) hc hN hy hyl hsw hi ok hg ht he hs) (low_set (low_lc st_name))
/-- [elt for x, y in iter ..] -/
theorem ae_lc2 (j l : Nat) {x y : Str} {es : List Expr} {kk : Nat} {pt : Pos} (hc : X.calm = true) (hN : X.N.Nodup) (hi : PI X (.Tuple es kk pt) iter (lowI ai)) (ok : BlkOk X.N X.env.scope scope [(x, j), (y, l)])
    (hg : ∀ (s : Shared) (H : Hp) (C : Addr) (cl : List (Str × Addr)) (fp : List Addr), PG (X.blk s H scope (compEnvC scope cl C X.env) fp) (.Tuple es kk pt) (gTup X.K 2 (gCons (gName j) (gCons (gName l) gNil))))
    (ht : ∀ (s : Shared) (H : Hp) (C : Addr) (cl : List (Str × Addr)) (fp : List Addr), PTs (X.blk s H scope (compEnvC scope cl C X.env) fp) ifs (lowT ta))
    (he : ∀ (s : Shared) (H : Hp) (C : Addr) (cl : List (Str × Addr)) (fp : List Addr), PE (X.blk s H scope (compEnvC scope cl C X.env) fp) elt (lowE ab)) (hs : ∀ x, foldedSetIterable iter X.env x = pure x := by intro _; rfl) :
    AE X (.ListComp elt [⟨.Tuple es kk pt, iter, ifs, 0⟩] scope pos) (aLc ai (st2 j l) ta ab) := PEimp (pe_lc (own := [(x, j), (y, l)]) hc hN hi ok hg ht he hs) (low_lc st_pair)
end

/-! ### a def keeps its promise -/
/-- what is made within a def may be forgotten behind it -/
def aDrop (Q : AQ) : AQ := fun x G => ∃ G', Sub G' G ∧ Q x G'
theorem drop_same {Q : AQ} {x : AV} {G : AH} (h : Q x G) : aDrop Q x G := ⟨G, Sub.refl G, h⟩
def astart (n : Nat) (xs : List AV) : ASt := xs.map some ++ List.replicate (n - xs.length) none
theorem relS_start {H : Hp} {N : List Str} {xs : List AV} {vs : List V} (h : AVs H xs vs) : RelS H (L2.start N vs) (astart N.length xs) := by
  refine ⟨by unfold L2.start astart; simp [h.length], fun i x e => ?_⟩
  unfold astart at e
  unfold L2.start
  by_cases c : i < xs.length
  · rw [List.getElem?_append_left (by rw [List.length_map]; exact c), List.getElem?_map] at e
    rw [List.getElem?_append_left (by rw [List.length_map, ← h.length]; exact c), List.getElem?_map]
    cases q : xs[i]? with
    | none => rw [q] at e; cases e
    | some y =>
      rw [q] at e
      cases e
      obtain ⟨v, hv, r⟩ := h.get q
      exact ⟨v, by rw [hv]; rfl, r⟩
  · rw [List.getElem?_append_right (by rw [List.length_map]; omega)] at e
    rw [List.getElem?_replicate] at e
    split at e <;> cases e
def aEnds (Q : AQ) : AEnds := { nx := fun _ G => aDrop Q .non G, rt := aDrop Q }
section
variable {P : Program} {w : World} {K : PySem.W.Frag} {mg : Str → Option Value} {base : Heap}
theorem fn_A {x : Str} {st : Stmt} {N ps : List Str} {k : Nat} {sp : ASp} {f : Addr} {fd : FuncData} {a : ATS} (F : FunD K x x (defArgs st) (defBody st) (defScope st) [] [] f fd) (gm : mg x = some (.ref f)) (S : FnScope N ps (defScope st))
    (hb : ∀ (kV doc pm : Value) (an : Option Addr) (cdv ct : Value) (us : List Value), us.length = ps.length → bindArgs (PySem.W.fnOf x x (defArgs st) (defBody st) (defScope st) .none kV doc pm an cdv ct) ⟨us, []⟩ = pure (ps.zip us))
    (len : ∀ xs G Q, sp xs G Q → xs.length = ps.length)
    (body : ∀ (cdv : Value) (A : Around) (outer : List Env) (s : Shared) (H : Hp) (E : XK), Room k (A.deeper (envOfC x (defScope st) s.heap.objs.size f cdv)) → PSs (cxOf CX0 P w K mg base N x (defScope st) f cdv A outer s H E).nox (defBody st) (lowS a))
    (read : ∀ xs G Q, sp xs G Q → a (aEnds Q) (astart N.length xs) G) : Cal P w K mg base (k + 1) x ps sp := by
  have bd : Binds K fd ps [] := F.bindsN hb
  refine ⟨f, fd, F.ok S (fun vs H Q E ⟨xs, G, Qa, rg, rx, h, k⟩ => ?_) (fun cdv A outer s H vs Q E hr ⟨xs, G, Qa, rg, rx, h, k⟩ => ⟨_, PSs.nox (body cdv A outer s H E hr), ?_⟩), gm, F.kp, bd⟩
  · rw [← rx.length]; exact len xs G Qa h
  · refine ⟨astart N.length xs, G, aEnds Qa, relS_start rx, rg, read xs G Qa h, ⟨fun S' G' σ' H' tk rs' rg' ⟨G'', sub, q⟩ => k .non G'' _ H' tk (rg'.sub sub) rfl q, fun y G' v H' tk rg' ry ⟨G'', sub, q⟩ => k y G'' v H' tk (rg'.sub sub) ry q, fun _ _ _ _ _ _ _ z => z.elim, fun _ _ _ _ _ _ _ z => z.elim⟩⟩
end
end LA
set_option Elab.async false
set_option linter.all false
set_option maxRecDepth 100000
set_option maxHeartbeats 4000000
namespace L2
open PySem PySem.Spec PyProof.Rows HT
section
variable {prog : Program} {w : World} {A : Around} {E : Value → Shared → Prop} {s : Shared}
/-! ### t[::-1], t a tuple -/
theorem adjust_back (n : Nat) : Builtin.Slice.sliceAdjust none none (-1) (n : Int) = ((n : Int) - 1, -1) := by
  unfold Builtin.Slice.sliceAdjust
  simp
theorem places_back (n : Nat) : Builtin.Slice.slicePlaces ((n : Int) - 1) (-1) (-1) = n := by
  unfold Builtin.Slice.slicePlaces
  simp
  omega
theorem sliceApplied_back {sl : Addr} {u : Tok} {n : Nat} {Q : Int × Int × Nat → Shared → Prop} (hs : s.heap.IsSliceOf sl .none .none (.int (-1) u))
    (h : Q ((n : Int) - 1, -1, n) s) : wpAny (model prog w) A (Builtin.Slice.sliceApplied (.ref sl) (pure (n : Int))) Q E s := by
  obtain ⟨os, hos, hcs, hds⟩ := id hs
  unfold Builtin.Slice.sliceApplied Builtin.Slice.sliceFields
  refine wpAny_bind (wpAny_bind (wpAny_field hos hds (x := .none) rfl (wpAny_bind (wpAny_field hos hds (x := .none) rfl (wpAny_bind (wpAny_field hos hds (x := .int (-1) u) rfl (wpAny_pure ?_)))))))
  refine wpAny_bind (slicePart_int ?_)
  show wpAny _ _ (if ((-1 : Int) == 0) = true then _ else _) _ _ s
  rw [if_neg (by decide)]
  refine wpAny_bind (slicePart_none (wpAny_bind (slicePart_none (wpAny_bind (wpAny_pure ?_)))))
  show wpAny _ _ (match Builtin.Slice.sliceAdjust none none (-1) (n : Int) with | (lo, hi) => pure (lo, (-1 : Int), Builtin.Slice.slicePlaces lo hi (-1))) _ _ s
  rw [adjust_back n]
  show wpAny _ _ (pure ((n : Int) - 1, (-1 : Int), Builtin.Slice.slicePlaces ((n : Int) - 1) (-1) (-1))) _ _ s
  rw [places_back]
  exact wpAny_pure h
theorem fm_congr {α β : Type} {f g : α → Option β} : ∀ {l : List α}, (∀ m ∈ l, f m = g m) → l.filterMap f = l.filterMap g
  | [], _ => rfl
  | a :: l, h => by
    rw [List.filterMap_cons, List.filterMap_cons, h a (List.mem_cons_self ..), fm_congr fun m hm => h m (List.mem_cons_of_mem _ hm)]
theorem pick_back (xs : Array Value) : ((List.range xs.size).filterMap fun (m : Nat) => xs[(((xs.size : Int) - 1) + (m : Int) * (-1)).toNat]?).toArray = xs.toList.reverse.toArray := by
  have e : ((List.range xs.size).filterMap fun (m : Nat) => xs[(((xs.size : Int) - 1) + (m : Int) * (-1)).toNat]?) = ((List.range xs.size).map fun k => xs.size - 1 - k).filterMap (xs[·]?) := by
    rw [List.filterMap_map]
    refine fm_congr fun m hm => ?_
    have h1 : (((xs.size : Int) - 1) + (m : Int) * (-1)).toNat = xs.size - 1 - m := by omega
    show _ = xs[xs.size - 1 - m]?
    rw [h1]
  rw [e, PySem.W.krv_range, List.filterMap_reverse, PySem.W.krv_all]
theorem getItem_tuple_back {t sl : Addr} {items : Array Value} {u : Tok} {Q : Value → Shared → Prop} (ht : IsTup s.heap t items) (hs : s.heap.IsSliceOf sl .none .none (.int (-1) u))
    (h : Q (.ref s.heap.objs.size) { s with heap := s.heap.push { cls := .type "tuple", data := .seq items.toList.reverse.toArray } })
    (hsz : items.size ≤ sizeLine) : wpAny (model prog w) A (getItem (.ref t) (.ref sl)) Q E s := by
  have htake : sizeOk (.seq items.toList.reverse.toArray) := by
    show items.toList.reverse.toArray.size ≤ sizeLine
    rw [List.size_toArray, List.length_reverse, Array.length_toList]
    exact hsz
  obtain ⟨os, hos, hcs, hds⟩ := id hs
  have hTs : s.TypeIs (.ref sl) "slice" := ⟨os, hos, hcs⟩
  unfold getItem
  try with_reducible refine wpAny_holding ?_
  first | refine wpAny_bind (wpAny_pure ?_) | skip
  refine wpAny_bind (wpAny_sequenceKey ht.typeIs (by decide) ?_)
  refine wpAny_bind (wpAny_callSpecial?_slot (name := Str.ofString "__getitem__") ht.typeIs PyProof.Rows.slot_tuple_getitem
    (wpAny_call_entry PyProof.Rows.slot_tuple_getitem ht.typeIs entry_tuple_getitem ?_ (args_tuple_getitem _ _)))
  show wpAny _ _ (Builtin.Tuple.tupleItemsOf (.ref t) >>= _) _ _ s
  refine wpAny_bind (tupleItemsOf_ ht ?_)
  refine wpAny_bind (wpAny_typeOf hTs ?_)
  rw [if_pos (by decide)]
  refine wpAny_bind (sliceApplied_back hs ?_)
  have hno : ¬ ((((items.size : Int) - 1) == 0 && (-1 : Int) == 1 && items.size == items.size) = true) := by
    intro q
    rw [Bool.and_eq_true, Bool.and_eq_true] at q
    exact absurd q.1.2 (by decide)
  show wpAny _ _ (if (((items.size : Int) - 1) == 0 && (-1 : Int) == 1 && items.size == items.size) = true then _ else _) _ _ s
  rw [if_neg hno, pick_back]
  first
    | exact wpAny_bind (m := Builtin.Tuple.tupleExact _) (wpAny_newObj_type (wpAny_pure ⟨_, rfl, wpAny_pure h⟩) htake)
    | exact wpAny_bind (m := Builtin.Tuple.tupleExact _) (wpAny_newObj_type (wpAny_bind (wpAny_pure (wpAny_pure ⟨_, rfl, wpAny_pure h⟩))) htake)
    | exact wpAny_bind (wpAny_bind (m := Builtin.Tuple.tupleExact _) (wpAny_newObj_type (wpAny_pure (wpAny_pure ⟨_, rfl, wpAny_pure h⟩)) htake))
    | exact wpAny_bind (wpAny_bind (m := Builtin.Tuple.tupleExact _) (wpAny_newObj_type (wpAny_pure ⟨_, rfl, wpAny_pure h⟩) htake))
/-! ### t * 1 is t -/
theorem tuple_mulOne (l : Addr) (items : Array Value) (n : Nat) (dd : Option Addr) (sl : Array (Option Value)) (u : Tok) :
    Meets (Builtin.«tuple.__mul__» ⟨[.ref l, .int 1 u], []⟩) (fun _ R s => s.heap.get? l = some { cls := .type "tuple", dict := dd, data := .seq items n, slots := sl } ∧
      R (.ok (.ret (Value.ref l))) s) :=
  .of_wp fun prog w A R s h => by
    obtain ⟨hp, g, d, tk, os⟩ := s
    obtain ⟨hl, h⟩ := h
    have f1 := AutoSeq1.idx_int
    have c0 : (decide ((1 : Int) < -(2 ^ 63)) || decide ((1 : Int) ≥ 2 ^ 63)) = false := by decide
    have c1 : (items.isEmpty || (1 : Int) == 1) = true := by simp
    wp_walk using AutoSeq1.wpAny_loadPart' hl
    repeat (first
      | (refine wpAny_ite_false (decide_eq_false (by rw [c0]; exact Bool.false_ne_true)) ?_; wp_walk using AutoSeq1.wpAny_loadPart' hl)
      | (refine wpAny_ite_true (decide_eq_true (by rw [c1])) ?_; wp_walk using AutoSeq1.wpAny_loadPart' hl))
    exact ⟨_, rfl, h⟩
end
section
variable {X : Cx}
def rRep1 (K : PySem.W.Frag) : R2 := fun x y H Q => ∃ l xs, x = .ref l ∧ y = .int 1 ∧ SqT K H l xs ∧ Q (.ref l) H
theorem op_rep1 : OpR X (binaryOp .Mult) (rRep1 X.K) := by
  intro pins s σ H x y v u Q I rx ry h
  obtain ⟨l, xs, rfl, rfl, hT, q⟩ := h
  cases rx
  obtain ⟨t, rfl⟩ := ry
  obtain ⟨its, r, ⟨⟨cls, dd, data, sl⟩, ho, hc, n, hd⟩, hs⟩ := I.tuple hT
  simp only at hc hd
  subst hc hd
  exact wpAny_binaryOp_repeat_ref (T := "tuple") (U := "int") (by decide) ⟨_, ho, rfl⟩ (fun s' => typeIs_int s' 1 t) noFill_tuple_mul F.fills_int_mul F.slot_int_rmul repeat_tuple F.slot_int_index.lookup
    (call_meets F.slot_int_rmul (typeIs_int s 1 t) F.entry_int_rmul (F.args_int_rmul_2 _ _) (int_rmul_tuple 1 t l its.toArray n dd sl)
      ⟨ho, rfl, ⟨_, ho, rfl⟩, call_meets F.slot_tuple_mul ⟨_, ho, rfl⟩ F.entry_tuple_mul (F.args_tuple_mul_2 _ _) (tuple_mulOne l its.toArray n dd sl t) ⟨ho, ⟨.ref l, H, I, rfl, q⟩⟩⟩)
end
end L2

namespace LA
open PySem PySem.Spec PyProof.Rows L2
/-- * of ints, a list or a tuple and an int -/
def oMulA : AO := fun x y G Q => match x, y with
  | .int i, .int j => CMul i j ∧ Q (.int (i * j)) G
  | .ref p, .int k => ∃ xs, G p = some xs ∧ -(2 ^ 62) ≤ k ∧ k < 2 ^ 62 ∧ xs.length * k.toNat ≤ 100000 ∧ ∀ r, G r = none → Q (.ref r) (aupd G r (List.replicate k.toNat xs).flatten)
  | .tup xs, .int k => xs ≠ [] ∧ 1 ≤ k ∧ k ≤ 1000 ∧ xs.length ≤ 1000 ∧ Q (.tup (List.replicate k.toNat xs).flatten) G
  | _, _ => False
section
variable {X : Cx} {a b c e o i : Expr} {es : List Expr} {aa ab ac ao : AT} {ta tb : ATT} {la : ATA} {pos : Pos} {k : Nat}
theorem op_a_mulA : OpA X (binaryOp .Mult) oMulA := ⟨_, op_mul.or (op_rep.or (op_repT.or op_rep1)), fun H G x y v u Q Qa rg rx ry h k => by
  cases x with
  | int i => cases y with
    | int j => exact .inl ⟨i, j, rx, ry, h.1, k (.int (i * j)) G _ H (TK.refl H) rg rfl h.2⟩
    | _ => exact h.elim
  | ref p => cases y with
    | int j =>
      obtain ⟨xs, hp, h1, h2, hl, q⟩ := h
      obtain ⟨vs, e1, r1⟩ := rg _ _ hp
      exact .inr (.inl ⟨p, j, vs, rx, ry, e1, by omega, by omega, sz_of (by rw [← r1.length]; exact hl), k.newl rg (r1.rep _) q⟩)
    | _ => exact h.elim
  | tup xs => cases y with
    | int j =>
      obtain ⟨hne, h1, h2, hl, q⟩ := h
      obtain ⟨p, vs, rfl, hp, hs⟩ := rx
      have hlen := hs.length
      have hv : vs ≠ [] := fun e => by
        subst e
        exact hne (List.eq_nil_of_length_eq_zero hlen)
      by_cases hj : j = 1
      · subst hj
        refine .inr (.inr (.inr ⟨p, vs, rfl, ry, SqT.of hp, ?_⟩))
        have e : (List.replicate (1 : Int).toNat xs).flatten = xs := by simp
        rw [e] at q
        exact k (.tup xs) G _ H (TK.refl H) rg ⟨p, vs, rfl, hp, hs⟩ q
      · exact .inr (.inr (.inl ⟨p, j, vs, rfl, ry, SqT.of hp, hv, by omega, h2, by omega, k.tup rg (hs.rep _) q⟩))
    | _ => exact h.elim
  | _ => exact h.elim⟩
/-- t[::-1] -/
def aRevT (aa : AT) : AT := fun S G Q => aa S G fun x G1 => ∃ xs, x = .tup xs ∧ Q (.tup xs.reverse) G1
theorem ae_revT {kk : Nat} {p1 p2 p3 : Pos} (he : AE X e aa) : AE X (.Subscript e (.Slice none none (some (.UnaryOp .USub (.Constant (.int 1) kk p1) p2)) p3) pos) (aRevT aa) := by
  refine ⟨fun pins s σ H Q I h => ?_⟩
  obtain ⟨S, G, Qa, rs, rg, h, kq⟩ := h
  refine Subscript_ (thn (he.run pins s σ H (fun v H1 => ∃ xs p vs, v = .ref p ∧ TK H H1 ∧ (∃ G1, RelG H1 G1 ∧ Qa (.tup xs.reverse) G1) ∧ H1 p = some (.tup vs) ∧ AVs H1 xs vs) I
    ⟨S, G, _, rs, rg, h, fun x G1 v H1 tk rg1 rx ⟨xs, ex, q⟩ => by
      subst ex
      obtain ⟨p, vs, e, hp, hs⟩ := rx
      exact ⟨xs, p, vs, e, tk, ⟨G1, rg1, q⟩, hp, hs⟩⟩) fun v s1 ⟨x, H1, I1, r1, q1⟩ => ?_)
  obtain ⟨xs, p, vs, ex, tk, ⟨G1, rg1, q⟩, hp, hs⟩ := q1
  subst ex
  cases r1
  have hst : PO X (some (.UnaryOp .USub (.Constant (.int 1) kk p1) p2)) (tPart (tUn (rU fun i => .int (-i)) (tC (.int 1)))) := po_some (pe_un un_neg pe_int)
  refine wpAny_Slice (thn (po_none.run pins s1 σ H1 (fun o H2 => o = none ∧ H2 = H1) I1 ⟨rfl, rfl⟩) fun vl s2 ⟨l, H2, I2, pl, el, e2⟩ => ?_)
  subst el e2
  refine thn (po_none.run pins s2 σ H2 (fun o H3 => o = none ∧ H3 = H2) I2 ⟨rfl, rfl⟩) fun vu s3 ⟨u, H3, I3, pu, eu, e3⟩ => ?_
  subst eu e3
  refine thn (hst.run pins s3 σ H3 (fun o H4 => o = some (-1) ∧ H4 = H3) I3 ⟨1, rfl, -1, rfl, rfl, rfl⟩) fun vt s4 ⟨o, H4, I4, ps, eo, e4⟩ => ?_
  subst eo e4
  cases pl
  cases pu
  cases ps with
  | int i t =>
  have I5 : Inv X pins σ H4 { s4 with heap := s4.heap.push { cls := .type "slice", data := .fields #[.none, .none, .int (-1) t] } } := I4.kept (t' := s4.toks) fun b ob q => Heap.get?_push_of_some _ q
  obtain ⟨its, r, ht, hz⟩ := I5.tuple (SqT.of hp)
  have hlen := r.length
  show wpAny (model X.prog X.w) X.A (subscriptTail e (.Slice none none (some (.UnaryOp .USub (.Constant (.int 1) kk p1) p2)) p3) (.ref p) (.ref s4.heap.objs.size)) (EP X pins σ Q) X.xe { s4 with heap := s4.heap.push { cls := .type "slice", data := .fields #[.none, .none, .int (-1) t] } }
  refine tail_any (ops := [.ref p, .ref s4.heap.objs.size]) ht.typeIs (PyProof.Rows.slot_tuple_getitem.lookup) ?_ (by with_unfolding_all rfl)
  refine getItem_tuple_back ht (Heap.IsSliceOf.new _ .none .none (.int (-1) t)) ?_ (by rw [List.size_toArray]; omega)
  refine ⟨.ref _, _, I5.laid (t' := s4.toks) (o := .tup vs.reverse) (fun b ob q => Heap.get?_push_of_some _ q) (Nat.le_refl _) ?_, rfl, ?_⟩
  · exact ⟨by rw [List.length_reverse]; exact hz, _, r.reverse, IsTup.new _ _⟩
  · exact (kq.mono tk).tup rg1 hs.reverse q _ (I5.hok.fresh (Nat.le_refl _))
/-- xs[a::b], xs a list: some of its items -/
def aStepL (aa : AT) : AT := fun S G Q => aa S G fun x G1 => ∃ p xs, x = .ref p ∧ G1 p = some xs ∧ ∀ ys r, (∀ y ∈ ys, y ∈ xs) → ys.length ≤ xs.length → G1 r = none → Q (.ref r) (aupd G1 r ys)
theorem vals_pick : ∀ {xs : List V} {us : List Value} (l : List Nat), Vals xs us → Vals (l.filterMap (xs[·]?)) (l.filterMap (us[·]?))
  | _, _, [], _ => .nil
  | xs, us, i :: l, h => by
    rw [List.filterMap_cons, List.filterMap_cons]
    cases e : xs[i]? with
    | none =>
      rw [h.none_of e]
      exact vals_pick l h
    | some v =>
      obtain ⟨u, e2, r⟩ := h.get e
      rw [e2]
      exact .cons r (vals_pick l h)
theorem avs_pick {H : Hp} : ∀ {xs : List AV} {vs : List V} (l : List Nat), AVs H xs vs → AVs H (l.filterMap (xs[·]?)) (l.filterMap (vs[·]?))
  | _, _, [], _ => rfl
  | xs, vs, i :: l, h => by
    rw [List.filterMap_cons, List.filterMap_cons]
    cases e : xs[i]? with
    | none =>
      have : vs[i]? = none := by
        rw [List.getElem?_eq_none_iff] at e ⊢
        rw [← h.length]; exact e
      rw [this]
      exact avs_pick l h
    | some v =>
      obtain ⟨u, e2, r⟩ := h.get e
      rw [e2]
      exact .cons r (avs_pick l h)
theorem ae_stepL {ka kb : Nat} {ia ib : Int} {p1 p2 p3 : Pos} (he : AE X e aa) (hb : ib ≠ 0 := by decide) : AE X (.Subscript e (.Slice (some (.Constant (.int ia) ka p1)) none (some (.Constant (.int ib) kb p2)) p3) pos) (aStepL aa) := by
  refine ⟨fun pins s σ H Q I h => ?_⟩
  obtain ⟨S, G, Qa, rs, rg, h, kq⟩ := h
  refine Subscript_ (thn (he.run pins s σ H (fun v H1 => ∃ p xs vs, v = .ref p ∧ TK H H1 ∧ (∃ G1, RelG H1 G1 ∧ ∀ ys r, (∀ y ∈ ys, y ∈ xs) → ys.length ≤ xs.length → G1 r = none → Qa (.ref r) (aupd G1 r ys)) ∧ H1 p = some (.lst vs) ∧ AVs H1 xs vs) I
    ⟨S, G, _, rs, rg, h, fun x G1 v H1 tk rg1 rx ⟨p, xs, ex, hp, q⟩ => by
      subst ex
      obtain ⟨vs, e, hs⟩ := rg1 _ _ hp
      exact ⟨p, xs, vs, rx, tk, ⟨G1, rg1, q⟩, e, hs⟩⟩) fun v s1 ⟨x, H1, I1, r1, q1⟩ => ?_)
  obtain ⟨p, xs, vs, ex, tk, ⟨G1, rg1, q⟩, hp, hs⟩ := q1
  subst ex
  cases r1
  refine wpAny_Slice (thn ((po_some pe_int).run pins s1 σ H1 (fun o H2 => o = some ia ∧ H2 = H1) I1 ⟨ia, rfl, rfl, rfl⟩) fun vl s2 ⟨l, H2, I2, pl, el, e2⟩ => ?_)
  subst el e2
  refine thn (po_none.run pins s2 σ H2 (fun o H3 => o = none ∧ H3 = H2) I2 ⟨rfl, rfl⟩) fun vu s3 ⟨u, H3, I3, pu, eu, e3⟩ => ?_
  subst eu e3
  refine thn ((po_some pe_int).run pins s3 σ H3 (fun o H4 => o = some ib ∧ H4 = H3) I3 ⟨ib, rfl, rfl, rfl⟩) fun vt s4 ⟨o, H4, I4, ps, eo, e4⟩ => ?_
  subst eo e4
  have I5 : Inv X pins σ H4 { s4 with heap := s4.heap.push { cls := .type "slice", data := .fields #[vl, vu, vt] } } := I4.kept (t' := s4.toks) fun b ob q => Heap.get?_push_of_some _ q
  obtain ⟨its, r, ht, hz⟩ := I5.list (SqL.of hp)
  have hlen := r.length
  show wpAny (model X.prog X.w) X.A (subscriptTail e (.Slice (some (.Constant (.int ia) ka p1)) none (some (.Constant (.int ib) kb p2)) p3) (.ref p) (.ref s4.heap.objs.size)) (EP X pins σ Q) X.xe { s4 with heap := s4.heap.push { cls := .type "slice", data := .fields #[vl, vu, vt] } }
  refine tail_any (ops := [.ref p, .ref s4.heap.objs.size]) ht.isList.typeIs (PySem.slot_list_getitem.lookup) ?_ (by with_unfolding_all rfl)
  have hle := slicePick_size_le its.toArray (some ia) none (some ib)
  refine wpAny_getItem_list_slice ht.isList (Heap.IsSliceOf.new _ vl vu vt) pl pu ps (by simpa using hb) ?_ (by rw [List.size_toArray]; omega)
  obtain ⟨idx, hidx⟩ : ∃ idx : List Nat, slicePick its.toArray (some ia) none (some ib) = (idx.filterMap (its[·]?)).toArray := ⟨_, by unfold slicePick; simp only [List.getElem?_toArray]; rfl⟩
  rw [hidx] at hle ⊢
  have hv := vals_pick idx r
  have ha := avs_pick idx hs
  rw [List.size_toArray, List.size_toArray] at hle
  have hl2 := hv.length
  have hl3 := ha.length
  have hl4 := hs.length
  refine ⟨.ref _, _, I5.laid (t' := s4.toks) (o := .lst (idx.filterMap (vs[·]?))) (fun b ob q => Heap.get?_push_of_some _ q) (Nat.le_refl _) ?_, rfl, ?_⟩
  · exact ⟨by omega, _, 0, hv, Heap.get?_push_size _ rfl⟩
  · refine (kq.mono tk).newl rg1 ha (fun r hr => q _ r (fun y hy => ?_) (by omega) hr) _ (I5.hok.fresh (Nat.le_refl _))
    obtain ⟨i, _, e⟩ := List.mem_filterMap.mp hy
    exact List.mem_of_getElem? e

/-! ### min(xs, default=None) of pairs of ints -/
def minT (t : Int × Int) (r : List (Int × Int)) : Int × Int := r.foldl (fun a y => if tlt y a then y else a) t
def minO : List (Int × Int) → Option (Int × Int)
  | [] => none
  | t :: r => some (minT t r)
def optV : Option (Int × Int) → AV
  | none => .non
  | some t => thV t
def aMinD (aa : AT) : AT := fun S G Q => aa S G fun x G1 => ∃ (p : Addr) (ts : List (Int × Int)), [x] = [AV.ref p] ∧ G1 p = some (ts.map thV) ∧ Q (optV (minO ts)) G1
def thD (t : Int × Int) : PyData := .tuple [.int t.1, .int t.2]
theorem thV_D (t : Int × Int) : (thV t).D = some (thD t) := rfl
theorem thV_Ds : ∀ ts : List (Int × Int), AV.Ds (ts.map thV) = some (ts.map thD)
  | [] => rfl
  | t :: ts => by
    show (match (thV t).D, AV.Ds (ts.map thV) with | some d, some ds => some (d :: ds) | _, _ => none) = _
    rw [thV_Ds ts]
    rfl
theorem thD_inj {t u : Int × Int} (h : thD t = thD u) : t = u := by
  unfold thD at h
  injection h with h
  injection h with h1 h
  injection h with h2 _
  injection h1 with h1
  injection h2 with h2
  exact Prod.ext h1 h2
theorem dataLt_th (t u : Int × Int) : PySem.W.dataLt (thD t) (thD u) = tlt t u := by
  unfold thD tlt
  rw [PySem.W.dataLt_ii]
  by_cases h : t.1 = u.1
  · rw [if_pos h]
    simp [h]
  · rw [if_neg h]
    simp [h]
theorem minD_th (t : Int × Int) : ∀ r : List (Int × Int), PySem.W.minD (thD t) (r.map thD) = thD (minT t r) := by
  intro r
  unfold PySem.W.minD minT
  induction r generalizing t with
  | nil => rfl
  | cons u r ih =>
    rw [List.map_cons, List.foldl_cons, List.foldl_cons, ← ih, dataLt_th]
    congr 1
    split <;> rfl
theorem alike_th (ts : List (Int × Int)) : PySem.W.AlikeAll (ts.map thD) := by
  refine ⟨fun x hx y hy => ?_, fun x hx => ?_⟩
  · obtain ⟨t, _, rfl⟩ := List.mem_map.mp hx
    obtain ⟨u, _, rfl⟩ := List.mem_map.mp hy
    rfl
  · obtain ⟨t, _, rfl⟩ := List.mem_map.mp hx
    intro q
    cases q
theorem depth_th : ∀ ts : List (Int × Int), PyData.depthAll (ts.map thD) ≤ 1
  | [] => Nat.zero_le _
  | t :: ts => by
    show max (PyData.depth (thD t)) (PyData.depthAll (ts.map thD)) ≤ 1
    have h1 : PyData.depth (thD t) = 1 := rfl
    have h2 := depth_th ts
    omega
theorem lay_th (t : Int × Int) : (thD t).canLay0 = true := rfl
theorem call_minD (hc : X.calm = true) (hr : Room k X.A) : CallRK X (.builtin "min") [Str.ofString "default"] (fun vs zs H Q => ∃ G xs Qa, RelG H G ∧ AVs H xs vs ∧ zs = [.non] ∧ (∃ (p : Addr) (ts : List (Int × Int)), xs = [.ref p] ∧ G p = some (ts.map thV) ∧ Qa (optV (minO ts)) G) ∧ KE H Q Qa) := by
  intro pins s σ H vs zs us ws Q I r1 r2 h
  obtain ⟨G, xs, Qa, rg, rx, rfl, ⟨p, ts, rfl, hp, q⟩, kq⟩ := h
  obtain ⟨v, rfl, rv⟩ := avs_one rx
  cases (show v = V.ref p from rv)
  obtain ⟨vs, e, hs⟩ := rg _ _ hp
  obtain ⟨u, rfl, ru⟩ := vals1 r1
  cases (show u = Value.ref p from ru)
  obtain ⟨d, rfl, rd⟩ := vals1 r2
  cases (show d = Value.none from rd)
  obtain ⟨its, r, ht, hz⟩ := I.list (SqL.of e)
  obtain ⟨as, hra⟩ := Dp.readsAll I (ts.map thD) vs its (dps_of hs (thV_Ds ts)) r
  refine PySem.W.min_list_default (vs := its.toArray) (I.ok.hd hc) ht.isList hra (alike_th ts) (by have := hr.un; have := depth_th ts; omega) (fun e0 h' tk kp => ?_) (fun y ys i v h' tk bs ey hv hrd kp => ?_)
  · have ets : ts = [] := by cases ts with | nil => rfl | cons a b => cases e0
    subst ets
    exact ⟨.non, H, I.kept (t' := tk) kp, rfl, kq .non G .non H (TK.refl H) rg rfl q⟩
  · cases ts with
    | nil => cases ey
    | cons t ts =>
      injection ey with e1 e2
      subst e1 e2
      have hv2 : its[i]? = some v := by simpa using hv
      have hi : i < vs.length := by rw [r.length]; exact (List.getElem?_eq_some_iff.mp hv2).1
      have hvx : vs[i]? = some vs[i] := List.getElem?_eq_getElem hi
      obtain ⟨u, hu, rux⟩ := r.get hvx
      rw [hv2] at hu
      cases hu
      obtain ⟨z, hz2, rz⟩ := hs.get' hvx
      rw [List.getElem?_map] at hz2
      cases ez : (t :: ts)[i]? with
      | none => rw [ez] at hz2; cases hz2
      | some w =>
        rw [ez] at hz2
        cases hz2
        obtain ⟨cs, hrw⟩ := Dp.reads I (thD w) vs[i] v (dp_of rz (thV_D w)) rux
        have hun := (PySem.Reads.unique (PySem.W.reads_keeps kp hrw) _ _ hrd).1
        rw [minD_th] at hun
        have ew := thD_inj hun
        subst ew
        exact ⟨vs[i], H, I.kept (t' := tk) kp, rux, kq (thV (minT t ts)) G vs[i] H (TK.refl H) rg rz q⟩
theorem ae_minD {x : Str} {p kpos p3 : Pos} {kk : Nat} (hx : x = "min") (hc : X.calm = true) (hr : Room k X.A) (hm : X.mg x = none) (ha : AE X e aa) (hg : Gl X x := by rfl)
    (hs1 : starEach [e] X.env = (false, eval e X.env) :: starEach [] X.env := by rfl)
    (he : backTo pos (starEach (e :: []) X.env) = (false, eval e X.env) :: backTo pos (starEach [] X.env) := by rfl) (hpl : (backTo pos (starEach (e :: []) X.env)).any (·.1) = false := by rfl)
    (hall : (backToKw pos (keywordEach [⟨some (Str.ofString "default"), (.Constant .none kk p3), kpos⟩] X.env)).all (·.1.isSome) = true := by rfl) (hnone : (backToKw pos (keywordEach [⟨some (Str.ofString "default"), (.Constant .none kk p3), kpos⟩] X.env)).any (·.1.isNone) = false := by rfl) (hks : (backToKw pos (keywordEach [⟨some (Str.ofString "default"), (.Constant .none kk p3), kpos⟩] X.env)).filterMap (·.1) = [Str.ofString "default"] := by rfl) :
    AE X (.Call (.Name x p) [e] [⟨some (Str.ofString "default"), (.Constant .none kk p3), kpos⟩] pos) (aMinD aa) := by
  subst hx
  refine PEimp (pe_callBK (call_minD hc hr) hg hm (by decide +kernel) (aa_cons ha aa_nil hs1) (pk_cons pe_non pk_nil) (by decide) (by decide) he hpl hall hnone hks) fun σ H Q ⟨S, G, Qa, rs, rg, h, kq⟩ => ?_
  refine ⟨S, G, fun xs G1 => ∃ (p : Addr) (ts : List (Int × Int)), xs = [AV.ref p] ∧ G1 p = some (ts.map thV) ∧ Qa (optV (minO ts)) G1, rs, rg, h, fun xs G1 vs H1 tk rg1 rx h1 => ?_⟩
  show tCons (tC .non) tNil σ H1 _
  exact ⟨G1, xs, Qa, rg1, rx, rfl, h1, kq.mono tk⟩

/-! ### enumerate of a tuple -/
def enumA (xs : List AV) : List AV := (List.range xs.length).map fun (i : Nat) => AV.tup [.int (i : Int), xs.getD i .non]
theorem enumA_length (xs : List AV) : (enumA xs).length = xs.length := by unfold enumA; rw [List.length_map, List.length_range]
theorem enumA_get {xs : List AV} {i : Nat} {x : AV} (h : xs[i]? = some x) : (enumA xs)[i]? = some (.tup [.int (i : Int), x]) := by
  unfold enumA
  have hi := (List.getElem?_eq_some_iff.mp h).1
  rw [List.getElem?_map, List.getElem?_range hi]
  simp [List.getD, h]
theorem enumA_of {xs : List AV} {i : Nat} {z : AV} (h : (enumA xs)[i]? = some z) : ∃ x, xs[i]? = some x ∧ z = .tup [.int (i : Int), x] := by
  have hi := (List.getElem?_eq_some_iff.mp h).1
  rw [enumA_length] at hi
  have hx : xs[i]? = some xs[i] := List.getElem?_eq_getElem hi
  rw [enumA_get hx] at h
  exact ⟨_, hx, (Option.some.inj h).symm⟩
end
end LA
set_option Elab.async false
set_option linter.all false
set_option maxRecDepth 100000
set_option maxHeartbeats 4000000
namespace L2
open PySem PySem.Spec PyProof.Rows
set_option maxHeartbeats 4000000 in
theorem meets_enumerate_newT (l : Addr) (items : Array Value) (n : Nat) (dct : Option Addr) (sl : Array (Option Value)) :
    Meets (Builtin.«enumerate.__new__» ⟨[.type "enumerate", .ref l], []⟩) (fun _ R s => s.heap.get? l = some { cls := .type "tuple", dict := dct, data := .seq items n, slots := sl } ∧
      R (.ok (.ret (.ref (s.heap.push { cls := .type "tuple_iterator", data := .fields #[.ref l, .int 0 0] }).objs.size)))
        { s with heap := (s.heap.push { cls := .type "tuple_iterator", data := .fields #[.ref l, .int 0 0] }).push { cls := .type "enumerate", data := .fields #[.none, .bool false, .ref s.heap.objs.size, rawInt 0, .none, .none] } }) :=
  .of_wp fun prog w A R s h => by
    obtain ⟨hp, g, d, tk, os⟩ := s; obtain ⟨hl, h⟩ := h
    have hsub := sub_enumerate
    have hL : Heap.IsTuple (Shared.heap ⟨hp, g, d, tk, os⟩) l items := ⟨_, hl, rfl, n, rfl⟩
    wp_walk using AutoSeq1.wpAny_loadPart' hl
    refine wpAny_stack_any fun st => wpAny_pure ?_
    split
    · rename_i c _ _ _ _ _
      cases (c == Value.type "enumerate")
      · wp_walk using AutoSeq1.wpAny_loadPart' hl, wpAny_pyIter_tuple hL
        exact ⟨_, rfl, h⟩
      · wp_walk using AutoSeq1.wpAny_loadPart' hl, wpAny_pyIter_tuple hL
        exact ⟨_, rfl, h⟩
    · wp_walk using AutoSeq1.wpAny_loadPart' hl, wpAny_pyIter_tuple hL
      exact ⟨_, rfl, h⟩
section
variable {prog : Program} {w : World} {A : Around} {E : Value → Shared → Prop} {s : Shared}
theorem call_enumerate_tuple {l : Addr} {items : Array Value} {Q : Value → Shared → Prop} (hL : s.heap.IsTuple l items)
    (h : ∀ h', IsEnum h' (s.heap.objs.size + 1) s.heap.objs.size 0 .none → h'.IsTupleIter s.heap.objs.size l 0 → h'.objs.size = s.heap.objs.size + 2 →
      (∀ b o, s.heap.get? b = some o → h'.get? b = some o) → Q (.ref (s.heap.objs.size + 1)) { s with heap := h' }) :
    wpAny (model prog w) A (call (.type "enumerate") [.ref l]) Q E s := by
  obtain ⟨⟨c, dct, dt, sl⟩, hl, hc, n, hd⟩ := hL
  replace hc : c = .type "tuple" := hc
  replace hd : dt = .seq items n := hd
  subst hc hd
  refine callType_new F.called_enumerate (by decide) (F.typeCall_enumerate_1 _) (F.newCall_enumerate_1 _) (fun obj => F.args_object_init_2 obj _) F.entry_enumerate_new
    (meets_enumerate_newT l items n dct sl) ⟨hl, ?_⟩
  have hz : (s.heap.push { cls := .type "tuple_iterator", data := .fields #[.ref l, .int 0 0] }).objs.size = s.heap.objs.size + 1 := Heap.size_push ..
  show _ ∧ _
  rw [hz]
  have he : IsEnum ((s.heap.push { cls := .type "tuple_iterator", data := .fields #[.ref l, .int 0 0] }).push
      { cls := .type "enumerate", data := .fields #[.none, .bool false, .ref s.heap.objs.size, rawInt 0, .none, .none] }) (s.heap.objs.size + 1) s.heap.objs.size 0 .none := by
    have := Heap.get?_push_size (s.heap.push { cls := .type "tuple_iterator", data := .fields #[.ref l, .int 0 0] })
      (o := { cls := .type "enumerate", data := .fields #[.none, .bool false, .ref s.heap.objs.size, rawInt 0, .none, .none] }) rfl
    rw [hz] at this; exact this
  refine ⟨⟨_, he, rfl⟩, h _ he ⟨_, Heap.get?_push_of_some _ (Heap.get?_push_size _ rfl), rfl, rfl⟩ (by rw [Heap.size_push, hz]) fun b o x => Heap.get?_push_of_some _ (Heap.get?_push_of_some _ x)⟩
end
section
variable {prog : Program} {w : World} {A : Around} {E : Value → Shared → Prop} {s : Shared}
theorem wpAny_pyNext_enum_endT {e it l : Addr} {i : Nat} {j : Int} {items : Array Value} {old : Value} {Q : Option Value → Shared → Prop} (hh : A.handled = none)
    (he : IsEnum s.heap e it j old) (hit : s.heap.IsTupleIter it l i) (hl : s.heap.IsTuple l items) (hx : items[i]? = none)
    (hQ : ∀ h', Heap.ExtBut it s.heap h' → Q none { s with heap := h' }) : wpAny (model prog w) A (pyNext (.ref e)) Q E s := by
  have hT : s.TypeIs (.ref e) "enumerate" := ⟨_, he, rfl⟩
  unfold pyNext
  refine wpAny_bind (wpAny_attempt (wpAny_callSpecial?_slot (name := Str.ofString "__next__") hT PySem.F.slot_enumerate_next
    (wpAny_call_entry PySem.F.slot_enumerate_next hT PySem.F.entry_enumerate_next ?_ (PySem.F.args_enumerate_next_1 _))))
  show wpAny _ _ (field (.ref e) 2 >>= _) _ _ _
  refine wpAny_bind (wpAny_field he rfl (x := .ref it) rfl ?_)
  refine wpAny_bind (wpAny_nextOf_tuple_end hh hit hl hx fun h' x he' hx' => ?_)
  obtain ⟨o, ho, hc⟩ := hx'
  refine wpAny_bind (wpAny_isInstance (T := "StopIteration") (b := true) ⟨o, ho, hc⟩ isSubtype_stop ?_)
  exact wpAny_pure (hQ _ he')
end
def IteT (K : PySem.W.Frag) (a : Addr) : It :=
  ⟨fun i H => ∃ (xs : List V) (x : V), SqT K H a xs ∧ xs[i]? = some x, fun i H v H' => ∃ T x, v = .ref T ∧ H T = none ∧ H' = upd H T (.tup [.int (i : Nat), x]) ∧ ∀ xs, SqT K H a xs → xs[i]? = some x, fun i H => ∃ xs : List V, SqT K H a xs ∧ xs.length ≤ i⟩
theorem turn_enumT {P : Program} {w : World} {K : PySem.W.Frag} {elts : List Expr} {kk : Nat} {tpos : Pos} (a e it : Addr) (hae : a ≠ e) (hai : a ≠ it) :
    Turn P w K (.Tuple elts kk tpos) (IteT K a) [e, it] e (fun i h => (∃ old, IsEnum h e it ((i : Nat) : Int) old) ∧ h.IsTupleIter it a i ∧ e ≠ it) where
  mem := by simp
  obj := fun i h st b hb => by
    obtain ⟨⟨old, he⟩, ⟨o, ho, hc, hd⟩, _⟩ := st
    have e' : b = e ∨ b = it := by simpa using hb
    rcases e' with z | z
    · rw [z]; exact ⟨_, he, fun v q => nomatch q⟩
    · rw [z]; exact ⟨o, ho, fun v q => by rw [hd] at q; cases q⟩
  keep := fun i h h' st k => let ⟨⟨old, he⟩, hi, hne⟩ := st; ⟨⟨old, k e (by simp) _ he⟩, hi.at fun o q => k it (by simp) o q, hne⟩
  item := by
    intro X hP hw hK hc i pins s σ H E I hf st hg
    subst hP hw hK
    obtain ⟨⟨old, he⟩, hit, hne⟩ := st
    obtain ⟨xs, x, hq, hx⟩ := hg
    obtain ⟨its, rv, p, hz⟩ := I.tuple hq
    obtain ⟨u, hu, ru⟩ := rv.get hx
    have hel : e < s.heap.objs.size := Heap.lt_size he
    have hil : it < s.heap.objs.size := by obtain ⟨_, q, _⟩ := hit; exact Heap.lt_size q
    have hlt : i < its.toArray.size := by rw [List.size_toArray]; exact (List.getElem?_eq_some_iff.mp hu).1
    refine wpAny_pyNext_enum_itemD (Draws.tuple (A := X.A.in1) (I.ok.hd hc) it a hai its.toArray) he ⟨hit, p⟩ hlt hne (by simp [hne, Ne.symm hae]) fun u' h' tk hu' ho hit' hT hsz hk => ?_
    have eu : u' = u := by
      have : its.toArray[i]? = some u := by simpa using hu
      rw [this] at hu'
      exact (Option.some.inj hu').symm
    subst eu
    refine ⟨_, rfl, wpAny_letOwnedTupleGo_enum (s := { s with heap := h', toks := tk + 1 }) ho fun h'' he' sb => ?_⟩
    have hT2 : h''.get? s.heap.objs.size = some { cls := .type "tuple", data := .seq #[.int i tk, u'] } := (sb.2 _ (Nat.ne_of_gt hel)).trans hT
    have new : ObjOk X.prog X.w (upd H s.heap.objs.size (.tup [.int (i : Nat), x])) h'' s.heap.objs.size (.tup [.int (i : Nat), x]) :=
      ⟨by show 2 ≤ sizeLine; decide, [.int i tk, u'], .cons ⟨_, rfl⟩ (.cons ru .nil), ⟨_, hT2, rfl, _, rfl⟩⟩
    have I1 : Inv X pins σ (upd H s.heap.objs.size (.tup [.int (i : Nat), x])) { s with heap := h'', toks := tk + 1 } :=
      I.turnedNew (ch := [e, it]) (fun b ob hb q => (sb.2 b (fun z => hb (by simp [z]))).trans (hk b ob (fun z => hb (by simp [z])) (fun z => hb (by simp [z])) q)) hf (Nat.le_refl _) new
    refine ⟨.ref s.heap.objs.size, _, I1, rfl, ⟨_, x, rfl, I.hok.fresh (Nat.le_refl _), rfl, fun ys hy => by rw [I.tuple_inj hy hq]; exact hx⟩, ⟨⟨u', ?_⟩, hit'.1.at fun o q => (sb.2 it (Ne.symm hne)).trans q, hne⟩, fun b hb => ?_⟩
    · have e1 : ((i + 1 : Nat) : Int) = (i : Int) + 1 := by omega
      rw [e1]; exact he'
    · have hb' : b < s.heap.objs.size := by
        have e' : b = e ∨ b = it := by simpa using hb
        rcases e' with z | z
        · rw [z]; exact hel
        · rw [z]; exact hil
      rw [upd_ne (Nat.ne_of_lt hb')]
      exact (hf b hb).1
  done := by
    intro X hP hw hK hc i pins s σ H E I hf st hg
    subst hP hw hK
    obtain ⟨⟨old, he⟩, hit, hne⟩ := st
    obtain ⟨xs, hq, hx⟩ := hg
    obtain ⟨its, rv, p, hz⟩ := I.tuple hq
    obtain ⟨f0, f1, f2, f3, f4, f5⟩ := hf it (by simp)
    have hl := rv.length
    refine wpAny_pyNext_enum_endT (I.ok.hd hc) he hit p (by simp; omega) fun h' eb => ⟨rfl, I.turned (t' := s.toks) (fun b o hb q => eb b o hb q) f0 f1 f3 f4 f5⟩
  self := fun A i s Q E st h => let ⟨⟨_, he⟩, _⟩ := st; wpAny_pyIter_enum he h
def iEnumT (K : PySem.W.Frag) (ta : TA) : TI := fun σ H R => ta σ H fun vs H1 => ∃ a xs, vs = [.ref a] ∧ SqT K H1 a xs ∧ R (IteT K a) H1
theorem pi_enumT {X : Cx} {e : Expr} {ta : TA} {p pos tpos : Pos} {elts : List Expr} {kk : Nat} (hg : Gl X "enumerate") (hm : X.mg "enumerate" = none) (ha : PA X [e] ta) (hs : starEach [e] X.env = [(false, eval e X.env)] := by rfl) :
    PI X (.Tuple elts kk tpos) (.Call (.Name "enumerate" p) [e] [] pos) (iEnumT X.K ta) := by
  refine ⟨fun pins s σ H R I h => ?_⟩
  refine Call_ (ld_blt I hg hm boot_enumerate (PyProof.Rows.callWith_type1 (thn (ha.run pos pins s σ H _ I h) fun us s1 ⟨vs, H1, I1, r1, q1⟩ => ?_) hs rfl))
  obtain ⟨a, xs, ex, hq, q⟩ := q1
  subst ex
  cases r1 with
  | cons r rr =>
    cases rr
    cases r
    obtain ⟨its, rv, p', hz⟩ := I1.tuple hq
    have hlt : a < s1.heap.objs.size := p'.lt
    refine call_enumerate_tuple p' fun h' he hit hsz hk => wpAny_pyIter_enum he ?_
    have I2 : Inv X pins σ H1 { s1 with heap := h' } := I1.kept (t' := s1.toks) hk
    refine ⟨s1.heap.objs.size + 1, [s1.heap.objs.size + 1, s1.heap.objs.size], _, _, H1, rfl, I2, turn_enumT a (s1.heap.objs.size + 1) s1.heap.objs.size (Nat.ne_of_lt (Nat.lt_succ_of_lt hlt)) (Nat.ne_of_lt hlt), ⟨⟨.none, he⟩, hit, Nat.succ_ne_self _⟩, fun b hb => ?_, q⟩
    have e' : b = s1.heap.objs.size + 1 ∨ b = s1.heap.objs.size := by simpa using hb
    have hle : s1.heap.objs.size ≤ b := by
      rcases e' with z | z
      · rw [z]; exact Nat.le_add_right _ _
      · rw [z]; exact Nat.le_refl _
    exact I1.fpOk hle (I1.hok.fresh hle)
end L2
namespace LA
open PySem PySem.Spec PyProof.Rows L2
theorem itr_enumT {K : PySem.W.Frag} {H : Hp} {p : Addr} {xs : List AV} {vs : List V} (hp : H p = some (.tup vs)) (hs : AVs H xs vs) : ItR H (IteT K p) (enumA xs) (fun _ => True) where
  go := fun i H1 G hi tk rg _ => by
    rw [enumA_length] at hi
    obtain ⟨v, hv, _⟩ := hs.get (List.getElem?_eq_getElem hi)
    exact ⟨vs, v, SqT.of (tk _ _ hp), hv⟩
  stop := fun H1 G tk rg _ => by
    rw [enumA_length]
    exact ⟨vs, SqT.of (tk _ _ hp), by rw [hs.length]; exact Nat.le_refl _⟩
  yld := fun i H1 G v H' hi tk rg _ ⟨T, x, e, hT, e2, f⟩ => by
    subst e e2
    obtain ⟨y, hy, r⟩ := hs.get' (f vs (SqT.of (tk _ _ hp)))
    exact ⟨_, enumA_get hy, TK.new hT, rg.newO hT, pair_new hT (show AVr H1 (.int (i : Int)) (V.int (i : Int)) from rfl) (r.mono tk)⟩
section
variable {X : Cx} {a : Expr} {la : ATA} {pos : Pos}
def aiEnum (la : ATA) : ATI := fun S G R => la S G fun zs G1 => ∃ xs, zs = [.tup xs] ∧ R (enumA xs) (fun _ => True) G1
theorem ai_enum {elts : List Expr} {kk : Nat} {p tpos : Pos} (hm : X.mg "enumerate" = none) (ha : APa X [a] la) (hg : Gl X "enumerate" := by rfl) (hs : starEach [a] X.env = [(false, eval a X.env)] := by rfl) :
    PI X (.Tuple elts kk tpos) (.Call (.Name "enumerate" p) [a] [] pos) (lowI (aiEnum la)) :=
  PIimp (pi_enumT hg hm ha hs) fun σ H R ⟨S, G, Ra, rs, rg, h, k⟩ => ⟨S, G, _, rs, rg, h, fun zs G1 vs H1 tk rg1 rx ⟨xs, e, h1⟩ => by
    subst e
    obtain ⟨v, rfl, r⟩ := avs_one rx
    obtain ⟨p, ws, rfl, hp, hw⟩ := r
    exact ⟨p, ws, rfl, SqT.of hp, k _ _ G1 _ H1 tk rg1 (itr_enumT hp hw) h1⟩⟩
end
end LA
set_option Elab.async false
set_option linter.all false
set_option maxRecDepth 100000
set_option maxHeartbeats 4000000
namespace LA
open PySem PySem.Spec PyProof.Rows L2
section
variable {X : Cx} {pos : Pos}
theorem ae_neg {i : Int} {kk : Nat} {p1 : Pos} : AE X (.UnaryOp .USub (.Constant (.int i) kk p1) pos) (aC (.int (-i))) :=
  PEimp (pe_un un_neg pe_int) fun σ H Q ⟨S, G, Qa, rs, rg, h, k⟩ => ⟨i, rfl, k (.int (-i)) G _ H (TK.refl H) rg rfl h⟩
end
/-- the names that the program's text does not lay anew; its two numbers -/
structure Txt (mg : Str → Option Value) : Prop where
  isinstance : mg "isinstance" = none
  len : mg "len" = none
  range : mg "range" = none
  tuple : mg "tuple" = none
  list : mg "list" = none
  int : mg "int" = none
  sorted : mg "sorted" = none
  min : mg "min" = none
  max : mg "max" = none
  zip : mg "zip" = none
  enumerate : mg "enumerate" = none
  bool : mg "bool" = none
  str : mg "str" = none
  MOST_NUMBER : ∃ t, mg "MOST_NUMBER" = some (.int 1000000000000000 t)
  MOST_TICKET : ∃ t, mg "MOST_TICKET" = some (.int 1000000 t)
end LA
set_option Elab.async false
set_option linter.all false
set_option maxRecDepth 100000
set_option maxHeartbeats 4000000
namespace LS
open PySem PySem.Spec PyProof.Rows L2 LA
/-! ### data of the program -/
abbrev Th := Int × Int
abbrev Cell := Option Th × Option Th
def cellV (c : Cell) : AV := .tup [optV c.1, optV c.2]
def cellsV (cs : List Cell) : AV := .tup (cs.map cellV)
def thsV (ts : List Th) : AV := .tup (ts.map thV)
def things : List Cell → List Th
  | [] => []
  | c :: cs => c.1.toList ++ (c.2.toList ++ things cs)
theorem things_append (a b : List Cell) : things (a ++ b) = things a ++ things b := by
  induction a with
  | nil => rfl
  | cons c a ih => simp only [things, List.cons_append, ih, List.append_assoc]
theorem things_len (cs : List Cell) : (things cs).length ≤ 2 * cs.length := by
  induction cs with
  | nil => exact Nat.zero_le _
  | cons c cs ih =>
    obtain ⟨a, b⟩ := c
    cases a <;> cases b <;> simp [things] <;> omega
/-! ### places -/
theorem at0 {x : AV} {xs : List AV} : atI (x :: xs) 0 = some x := atI_nat (j := 0) rfl
theorem at1 {x y : AV} {xs : List AV} : atI (x :: y :: xs) 1 = some y := atI_nat (j := 1) rfl
theorem at2 {x y z : AV} {xs : List AV} : atI (x :: y :: z :: xs) 2 = some z := atI_nat (j := 2) rfl
theorem at3 {x y z w : AV} {xs : List AV} : atI (x :: y :: z :: w :: xs) 3 = some w := atI_nat (j := 3) rfl
/-! ### promises -/
def sp_is_number : ASp := fun xs G Q => ∃ i m : Int, xs = [.int i, .int m] ∧ Q (.bl (decide (0 ≤ i) && decide (i ≤ m))) G
def goodT (t : Th) : Bool := (decide (0 ≤ t.1) && decide (t.1 ≤ 1000000000000000)) && (decide (0 ≤ t.2) && decide (t.2 ≤ 1000000))
def sp_is_thing : ASp := fun xs G Q => ∃ t : Th, xs = [thV t] ∧ Q (.bl (goodT t)) G
def sp_comes_before : ASp := fun xs G Q => ∃ t u : Th, xs = [thV t, thV u] ∧ Q (.bl (tlt t u)) G
def sp_first_of : ASp := fun xs G Q => ∃ ts : List Th, xs = [thsV ts] ∧ Q (optV (minO ts)) G
def sp_things_of : ASp := fun xs G Q => ∃ cs : List Cell, cs.length ≤ 1000 ∧ xs = [cellsV cs] ∧ Q (thsV (things cs)) G
end LS
set_option Elab.async false
set_option linter.all false
set_option maxRecDepth 100000
set_option maxHeartbeats 4000000
namespace LS
open PySem PySem.Spec PyProof.Rows L2 LA
/-! ### stands -/
structure Stand where
  one : Bool
  turn : Int
  came : Int
  cells : List Cell
def kindV : Bool → AV
  | true => .str "one"
  | false => .str "two"
def standV (s : Stand) : AV := .tup [kindV s.one, .int s.turn, .int s.came, cellsV s.cells]
inductive Ask where
  | rest | take | both (n : Int) | put (n : Int)
def askV : Ask → AV
  | .rest => .tup [.str "rest"]
  | .take => .tup [.str "take"]
  | .both n => .tup [.str "both", .int n]
  | .put n => .tup [.str "put", .int n]
def goodA : Ask → Prop
  | .rest => True
  | .take => True
  | .both n => 0 ≤ n ∧ n ≤ 1000000000000000
  | .put n => 0 ≤ n ∧ n ≤ 1000000000000000
abbrev Entry := Option Th × Nat
def entV (e : Entry) : AV := .tup [optV e.1, .int (e.2 : Int)]
def entriesV (es : List Entry) : AV := .tup (es.map entV)
def entries : List Cell → List Entry
  | [] => []
  | c :: cs => (minO (things cs), (things (c :: cs)).length) :: entries cs
/-! ### the order -/
def aheadB (k : Option Th) (ts : List Th) : Bool := match minO ts with
  | none => true
  | some m => match k with
    | none => false
    | some k => tlt k m
def handB : Cell → Bool
  | (_, none) => true
  | (none, some _) => false
  | (some k, some h) => tlt k h
def keepAt : List Cell → Bool
  | [] => false
  | c :: _ => c.1.isSome
def leadsB (c : Cell) (rest : List Cell) : Bool := c.2.isNone && aheadB c.1 (things rest)
def firstB (turn : Int) (p : Nat) : Bool := decide (p = 0) || !decide ((p : Int) % 2 = turn)
def twoB (turn : Int) (p : Nat) (c : Cell) (rest : List Cell) : Bool := if firstB turn p = true then leadsB c rest else handB c
def holeB (p : Nat) (c : Cell) (rest : List Cell) : Bool :=
  if (c.2.isSome || (decide (p = 0) && !(things rest).isEmpty)) = true then false else ((things rest).isEmpty || keepAt rest)
def oneB (turn : Int) (p : Nat) (c : Cell) (rest : List Cell) : Bool :=
  if c.1.isNone = true then holeB p c rest
  else if (!handB c || !aheadB c.1 (things rest)) = true then false
  else if (decide (turn = 0) && decide (p = 0)) = true then c.2.isNone && ((things rest).isEmpty || keepAt rest)
  else true
def roomB (cs : List Cell) : Bool := decide (((things cs).length : Int) ≤ (cs.length : Int))
def cellB (one : Bool) (turn : Int) (p : Nat) (c : Cell) (rest : List Cell) : Bool :=
  roomB (c :: rest) && (if one = true then oneB turn p c rest else twoB turn p c rest)
def orderFrom (one : Bool) (turn : Int) : Nat → List Cell → Bool
  | _, [] => true
  | p, c :: rest => cellB one turn p c rest && orderFrom one turn (p + 1) rest
def orderB (s : Stand) : Bool := orderFrom s.one s.turn 0 s.cells
/-! ### .. as the law words it -/
def lawOneB (turn : Int) (p : Nat) (c : Cell) (rest : List Cell) : Bool :=
  if (c.1.isSome && !aheadB c.1 (things rest)) = true then false
  else if (c.1.isNone && ((decide (p = 0) && !(things rest).isEmpty) || (!(things rest).isEmpty && !keepAt rest))) = true then false
  else if (decide (turn = 0) && decide (p = 0)) = true then c.2.isNone && ((things rest).isEmpty || keepAt rest)
  else true
def lawHandB : Cell → Bool
  | (_, none) => true
  | (none, some _) => false
  | (some k, some h) => !tlt h k
def lawCellB (one : Bool) (turn : Int) (p : Nat) (c : Cell) (rest : List Cell) : Bool :=
  if (!roomB (c :: rest)) = true then false
  else if (!lawHandB c) = true then false
  else if one = true then lawOneB turn p c rest
  else if firstB turn p = true then c.2.isNone && aheadB c.1 (things rest) else true
def lawFrom (one : Bool) (turn : Int) : Nat → List Cell → Bool
  | _, [] => true
  | p, c :: rest => lawCellB one turn p c rest && lawFrom one turn (p + 1) rest
def lawB (s : Stand) : Bool := lawFrom s.one s.turn 0 s.cells
/-! ### a stand that the draws can bring -/
structure okS (b : Int) (s : Stand) : Prop where
  turn : s.turn = 0 ∨ s.turn = 1
  came : 0 ≤ s.came ∧ s.came ≤ b
  few : 1 ≤ s.cells.length ∧ s.cells.length ≤ 40
  once : ∀ t, (things s.cells).count t ≤ 1
  good : ∀ t, t ∈ things s.cells → (0 ≤ t.1 ∧ t.1 ≤ 1000000000000000) ∧ 0 ≤ t.2 ∧ t.2 < s.came
/-! ### the drawn list -/
/-- all lists but these are kept -/
def Keep (E : List Addr) (G G' : AH) : Prop := ∀ a xs, a ∉ E → G a = some xs → G' a = some xs
structure Dr (d c r : Addr) (b : Int) (G : AH) : Prop where
  ne : d ≠ c ∧ d ≠ r ∧ c ≠ r
  dd : ∃ m : Int, 0 ≤ m ∧ m ≤ b ∧ G d = some [.ref c, .int m, .ref r]
  cr : ∃ xs ys : List Int, G c = some (xs.map .int) ∧ G r = some (ys.map .int) ∧ xs ≠ [] ∧ xs.length ≤ 60 ∧ ys.length = xs.length ∧ ∀ y ∈ ys, 0 ≤ y
/-- a list of the def's own -/
structure Own (d c r : Addr) (p : Addr) (xs : List AV) (G : AH) : Prop where
  at_ : G p = some xs
  ne : p ≠ d ∧ p ≠ c ∧ p ≠ r
/-! ### promises: the program's own defs -/
def sp_comes_ahead : ASp := fun xs G Q => ∃ (k : Option Th) (ts : List Th), xs = [optV k, thsV ts] ∧ Q (.bl (aheadB k ts)) G
def sp_has_room : ASp := fun xs G Q => ∃ (pre suf : List Cell), pre.length + suf.length ≤ 1000 ∧ xs = [cellsV (pre ++ suf), .int (pre.length : Int)] ∧ Q (.bl (roomB suf)) G
def sp_hand_fits : ASp := fun xs G Q => ∃ c : Cell, xs = [cellV c] ∧ Q (.bl (handB c)) G
def sp_leads : ASp := fun xs G Q => ∃ (pre : List Cell) (c : Cell) (rest : List Cell), pre.length + rest.length ≤ 900 ∧ xs = [cellsV (pre ++ c :: rest), .int (pre.length : Int)] ∧ Q (.bl (leadsB c rest)) G
def sp_fits_two : ASp := fun xs G Q => ∃ (pre : List Cell) (c : Cell) (rest : List Cell) (turn : Int), pre.length + rest.length ≤ 900 ∧ xs = [cellsV (pre ++ c :: rest), .int turn, .int (pre.length : Int)] ∧ Q (.bl (twoB turn pre.length c rest)) G
def sp_hole_fits : ASp := fun xs G Q => ∃ (pre : List Cell) (c : Cell) (rest : List Cell), pre.length + rest.length ≤ 900 ∧ xs = [cellsV (pre ++ c :: rest), .int (pre.length : Int)] ∧ Q (.bl (holeB pre.length c rest)) G
def sp_fits_one : ASp := fun xs G Q => ∃ (pre : List Cell) (c : Cell) (rest : List Cell) (turn : Int), pre.length + rest.length ≤ 900 ∧ xs = [cellsV (pre ++ c :: rest), .int turn, .int (pre.length : Int)] ∧ Q (.bl (oneB turn pre.length c rest)) G
def sp_in_order : ASp := fun xs G Q => ∃ s : Stand, s.cells.length ≤ 900 ∧ xs = [standV s] ∧ Q (.bl (orderB s)) G
def sp_entries_of : ASp := fun xs G Q => ∃ cs : List Cell, cs.length ≤ 900 ∧ xs = [cellsV cs] ∧ Q (entriesV (entries cs)) G
def goodE (e : Entry) : Bool := match e.1 with
  | none => true
  | some t => goodT t
def sp_is_entry : ASp := fun xs G Q => ∃ e : Entry, xs = [entV e] ∧ Q (.bl (goodE e)) G
def sp_right_order : ASp := fun xs G Q => ∃ (s : Stand) (es : List Entry), s.cells.length ≤ 900 ∧ es.length ≤ 900 ∧ (∀ e ∈ es, goodE e = true) ∧ xs = [standV s, entriesV es] ∧ Q (.bl (decide (es = entries s.cells) && orderB s)) G
/-! ### .. the law's readers -/
def sp_law_in_cells : ASp := fun xs G Q => ∃ cs : List Cell, cs.length ≤ 1000 ∧ xs = [cellsV cs] ∧ ∀ p, G p = none → Q (.ref p) (aupd G p ((things cs).map thV))
def sp_law_least_beyond : ASp := fun xs G Q => ∃ (pre : List Cell) (c : Cell) (rest : List Cell), pre.length + rest.length ≤ 900 ∧ xs = [cellsV (pre ++ c :: rest), .int (pre.length : Int)] ∧ Q (optV (minO (things rest))) G
def sp_law_leads : ASp := fun xs G Q => ∃ (pre : List Cell) (c : Cell) (rest : List Cell), pre.length + rest.length ≤ 900 ∧ xs = [cellsV (pre ++ c :: rest), .int (pre.length : Int)] ∧ Q (.bl (aheadB c.1 (things rest))) G
def sp_law_one_cell : ASp := fun xs G Q => ∃ (s : Stand) (pre : List Cell) (c : Cell) (rest : List Cell), pre.length + rest.length ≤ 900 ∧ s.cells = pre ++ c :: rest ∧ xs = [standV s, .int (pre.length : Int)] ∧ Q (.bl (lawOneB s.turn pre.length c rest)) G
def sp_law_in_order : ASp := fun xs G Q => ∃ s : Stand, s.cells.length ≤ 900 ∧ xs = [standV s] ∧ Q (.bl (lawB s)) G
def sp_law_entries : ASp := fun xs G Q => ∃ cs : List Cell, cs.length ≤ 900 ∧ xs = [cellsV cs] ∧ Q (entriesV (entries cs)) G
def plainV : Nat → AV → Prop
  | 0, _ => False
  | n + 1, x => x = .non ∨ (∃ i, x = .int i) ∨ ∃ ys, x = .tup ys ∧ ys.length ≤ 10000 ∧ ∀ y ∈ ys, plainV n y
def sp_law_like (n : Nat) : ASp := fun xs G Q => ∃ x, xs = [x, x] ∧ plainV n x ∧ Q (.bl true) G
def sp_law_seen : ASp := fun xs G Q => ∃ s : Stand, s.cells.length ≤ 900 ∧ orderB s = true ∧ xs = [standV s, entriesV (entries s.cells)] ∧ Q (.bl true) G
def sp_law_truth : ASp := fun xs G Q => ∃ a b : Bool, xs = [.bl a, .bl b] ∧ Q (.bl (decide (a = b))) G
/-! ### .. the law's makers -/
def sp_law_next : ASp := fun xs G Q => ∃ d c r b, xs = [.ref d] ∧ Dr d c r b G ∧ b ≤ 1000000 ∧ ∀ i G', 0 ≤ i → i ≤ 3000000000 → Dr d c r (b + 1) G' → Keep [d, r] G G' → Q (.int i) G'
def sp_law_number : ASp := fun xs G Q => ∃ d c r b s, xs = [.ref d, .int s] ∧ Dr d c r b G ∧ b ≤ 900000 ∧ ∀ i G', 0 ≤ i → i ≤ 1000000000000000 → Dr d c r (b + 2) G' → Keep [d, r] G G' → Q (.int i) G'
def sp_law_three : ASp := fun xs G Q => ∃ (p : Addr) (os : List (Option Th)) (n : Nat), xs = [.ref p, .int (n : Int)] ∧ G p = some (os.map optV) ∧ os.length ≤ n ∧ n ≤ 1000 ∧
  ∀ (ws : List (Option Th)) r, ws.length = n → (ws.filterMap id).Perm (os.filterMap id) → G r = none → Q (.ref r) (aupd G r (ws.map optV))
def sp_law_two_moved : ASp := fun xs G Q => ∃ (cs : List Cell) (turn : Int) (f : Addr) (ts : List AV), xs = [cellsV cs, .int turn, .ref f] ∧ (turn = 0 ∨ turn = 1) ∧ cs.length ≤ 900 ∧ G f = some ts ∧ ts.length ≤ 900 ∧
  ∀ (cs' : List Cell) G', cs'.length = cs.length → (∀ t, (things cs').count t ≤ (things cs).count t) → Keep [f] G G' → Q (cellsV cs') G'
def sp_law_one_moved : ASp := fun xs G Q => ∃ (cs : List Cell) (hand : Option Th) (f : Addr) (ts : List AV), xs = [cellsV cs, optV hand, .ref f] ∧ cs ≠ [] ∧ cs.length ≤ 900 ∧ G f = some ts ∧ ts.length ≤ 900 ∧
  ∀ (cs' : List Cell) G', cs'.length = cs.length → (∀ t, (things cs').count t ≤ hand.toList.count t + (things cs).count t) → Keep [f] G G' → Q (cellsV cs') G'
def sp_law_too_soon : ASp := fun xs G Q => ∃ (s : Stand) (a : Ask), xs = [standV s, askV a] ∧ ∀ b, Q (.bl b) G
def sp_law_taken : ASp := fun xs G Q => ∃ s : Stand, xs = [standV s] ∧ s.cells ≠ [] ∧ s.cells.length ≤ 900 ∧ ∀ ans (cs' : List Cell), cs'.length = s.cells.length → (∀ t, (things cs').count t ≤ (things s.cells).count t) → Q (.tup [ans, cellsV cs']) G
def sp_law_beat : ASp := fun xs G Q => ∃ (s : Stand) (a : Ask) (b : Int), xs = [standV s, askV a] ∧ okS b s ∧ goodA a ∧ ∀ x y (s' : Stand), okS (b + 1) s' → s'.cells.length = s.cells.length → s'.one = s.one → Q (.tup [x, y, standV s']) G
def emptyS (k : Bool) (n : Nat) : Stand := ⟨k, 0, 0, List.replicate n (none, none)⟩
def sp_law_empty : ASp := fun xs G Q => ∃ (k : Bool) (n : Nat), xs = [kindV k, .int (n : Int)] ∧ 1 ≤ n ∧ n ≤ 40 ∧ Q (standV (emptyS k n)) G
def sp_law_tickets : ASp := fun xs G Q => ∃ d c r b, ∃ n : Nat, xs = [.ref d, .int (n : Int)] ∧ n ≤ 41 ∧ Dr d c r b G ∧ b ≤ 800000 ∧
  ∀ p (ts : List Int) (came : Int) G', Own d c r p (ts.map .int) G' → ts.length = n → ts.Nodup → (0 ≤ came ∧ came ≤ 995000) → (∀ t ∈ ts, 0 ≤ t ∧ t < came) → Dr d c r (b + 100) G' → Keep [d, r] G G' → Q (.tup [.ref p, .int came]) G'
def goodL (ts : List Th) (came : Int) : Prop := (∀ t, ts.count t ≤ 1) ∧ (0 ≤ came ∧ came ≤ 995000) ∧ ∀ t ∈ ts, (0 ≤ t.1 ∧ t.1 ≤ 1000000000000000) ∧ 0 ≤ t.2 ∧ t.2 < came
def sp_law_made_things : ASp := fun xs G Q => ∃ d c r b, ∃ n : Nat, xs = [.ref d, .int (n : Int)] ∧ n ≤ 41 ∧ Dr d c r b G ∧ b ≤ 700000 ∧
  ∀ p (ts : List Th) (came : Int) G', Own d c r p (ts.map thV) G' → ts.length = n → goodL ts came → G p = none → Dr d c r (b + 200) G' → Keep [d, r] G G' → Q (.tup [.ref p, .int came]) G'
def sp_law_made_two : ASp := fun xs G Q => ∃ d c r b l, ∃ (ts : List Th) (turn : Int) (p many : Nat), xs = [.ref d, .ref l, .int turn, .int (p : Int), .int (many : Int)] ∧ Dr d c r b G ∧ b ≤ 700000 ∧ Own d c r l (ts.map thV) G ∧ p < many ∧ many ≤ 40 ∧ ts.length + p ≤ many ∧
  ∀ (e : Cell) (us : List Th) G', Own d c r l (us.map thV) G' → us.length + p + 1 ≤ many → (things [e] ++ us).Perm ts → Dr d c r (b + 3) G' → Keep [d, r, l] G G' → Q (cellV e) G'
def sp_law_made_one : ASp := fun xs G Q => ∃ d c r b l q, ∃ (ts : List Th) (cs : List Cell) (turn : Int) (many : Nat), xs = [.ref d, .ref l, .int turn, .ref q, .int (many : Int)] ∧ Dr d c r b G ∧ b ≤ 700000 ∧ Own d c r l (ts.map thV) G ∧ Own d c r q (cs.map cellV) G ∧ l ≠ q ∧ ts.length ≤ 900 ∧ cs.length ≤ 900 ∧ many ≤ 40 ∧
  ∀ (e : Cell) (us : List Th) G', Own d c r l (us.map thV) G' → (things [e] ++ us).Perm ts → Dr d c r (b + 3) G' → Keep [d, r, l] G G' → Q (cellV e) G'
def sp_law_made_stand : ASp := fun xs G Q => ∃ d c r b k, ∃ many : Nat, xs = [.ref d, kindV k, .int (many : Int)] ∧ Dr d c r b G ∧ b ≤ 600000 ∧ 1 ≤ many ∧ many ≤ 40 ∧
  ∀ (s : Stand) G', okS 995000 s → s.cells.length = many → Dr d c r (b + 400) G' → Keep [d, r] G G' → Q (standV s) G'
def flat (cs : List Cell) : List (Option Th) := (cs.map fun c => [c.1, c.2]).flatten
def sp_law_laid : ASp := fun xs G Q => ∃ (k : Bool) (turn came : Int) (p : Addr) (cs : List Cell), xs = [kindV k, .int turn, .int came, .ref p] ∧ cs.length ≤ 900 ∧ G p = some ((flat cs).map optV) ∧ Q (standV ⟨k, turn, came, cs⟩) G
def sp_law_strewn : ASp := fun xs G Q => ∃ d c r b k, ∃ many : Nat, xs = [.ref d, kindV k, .int (many : Int)] ∧ Dr d c r b G ∧ b ≤ 600000 ∧ 1 ≤ many ∧ many ≤ 40 ∧
  ∀ (s : Stand) G', okS 995000 s → s.cells.length = many → Dr d c r (b + 300) G' → Keep [d, r] G G' → Q (standV s) G'
def sp_law_bent : ASp := fun xs G Q => ∃ d c r b B, ∃ s : Stand, xs = [.ref d, standV s] ∧ Dr d c r b G ∧ b ≤ 600000 ∧ okS B s ∧
  ∀ (s' : Stand) G', okS (B + 1) s' → s'.cells.length = s.cells.length → Dr d c r (b + 6) G' → Keep [d, r] G G' → Q (standV s') G'
def sp_law_asked : ASp := fun xs G Q => ∃ d c r b n, ∃ s : Stand, xs = [.ref d, standV s, .int n] ∧ Dr d c r b G ∧ b ≤ 600000 ∧
  ∀ (a : Ask) G', goodA a → Dr d c r (b + 3) G' → Keep [d, r] G G' → Q (askV a) G'
def sp_law_come_to : ASp := fun xs G Q => ∃ d c r b k, ∃ many : Nat, xs = [.ref d, kindV k, .int (many : Int), .int 12] ∧ Dr d c r b G ∧ b ≤ 500000 ∧ 1 ≤ many ∧ many ≤ 40 ∧
  ∀ p (ss : List Stand) G', Own d c r p (ss.map standV) G' → ss.length = 13 → (∀ s ∈ ss, okS 1000 s) → Dr d c r (b + 37) G' → Keep [d, r] G G' → Q (.ref p) G'
def sp_law_all_stands : ASp := fun xs G Q => ∃ d c r, xs = [.ref d] ∧ Dr d c r 0 G ∧
  ∀ p (ss : List Stand) G', G' p = some (ss.map standV) → ss.length ≤ 100 → (∀ s ∈ ss, okS 1000000 s) → Q (.ref p) G'
end LS
set_option Elab.async false
set_option linter.all false
set_option maxRecDepth 100000
set_option maxHeartbeats 4000000
namespace LS
open PySem PySem.Spec PyProof.Rows L2 LA
def a_is_number : ATS :=
  (aRet (aAndV (aCB (cIs "int" isIntB) (aCons (aVar 0) (aCons (aC (.ty "int")) aNil))) (aAndV (aNotV (aCB (cIs "bool" isBoolB) (aCons (aVar 0) (aCons (aC (.ty "bool")) aNil)))) (aChain oLe oLe (aC (.int 0)) (aVar 0) (aVar 1)))))
def a_is_thing : ATS :=
  (aSeq (aIfS (aOr (aNot (aTest (aCB (cIs "tuple" isTupB) (aCons (aVar 0) (aCons (aC (.ty "tuple")) aNil))))) (aTest (aOp oNe (aCB cLen (aCons (aVar 0) aNil)) (aC (.int 2))))) (aRet (aC (.bl false))) aNext)
  (aRet (aAndV (aCall sp_is_number (aCons (aOp oIx (aVar 0) (aC (.int 0))) (aCons (aC (.int 1000000000000000)) aNil))) (aCall sp_is_number (aCons (aOp oIx (aVar 0) (aC (.int 1))) (aCons (aC (.int 1000000)) aNil))))))
def a_comes_before : ATS :=
  (aSeq (aIfS (aTest (aOp oEq (aOp oIx (aVar 0) (aC (.int 0))) (aOp oIx (aVar 1) (aC (.int 0))))) (aRet (aOp oLt (aOp oIx (aVar 0) (aC (.int 1))) (aOp oIx (aVar 1) (aC (.int 1))))) aNext)
  (aRet (aOp oLt (aOp oIx (aVar 0) (aC (.int 0))) (aOp oIx (aVar 1) (aC (.int 0))))))
def a_first_of : ATS :=
  (aSeq (aAsg (aC .non) (agName 1))
  (aSeq (aFor (aiSeq (aVar 0)) (agName 2) (aIfS (aOr (aTest (aOp oIsN (aVar 1) (aC .non))) (aTest (aCall sp_comes_before (aCons (aVar 2) (aCons (aVar 1) aNil))))) (aAsg (aVar 2) (agName 1)) aNext))
  (aRet (aVar 1))))
def a_things_of : ATS :=
  (aSeq (aAsg (aLst aNil) (agName 1))
  (aSeq (aFor (aiSeq (aVar 0)) (agName 2) (aDropS (aMt mExtend (aVar 1) (aCons (aLc (aiSeq (aVar 2)) (stN 3) (aTest (aOp oNotN (aVar 3) (aC .non))) (aVar 3)) aNil))))
  (aRet (aCB cTuple (aCons (aVar 1) aNil)))))
def a_comes_ahead : ATS :=
  (aSeq (aAsg (aCall sp_first_of (aCons (aVar 1) aNil)) (agName 2))
  (aSeq (aIfS (aTest (aOp oIsN (aVar 2) (aC .non))) (aRet (aC (.bl true))) aNext)
  (aRet (aAndV (aOp oNotN (aVar 0) (aC .non)) (aCall sp_comes_before (aCons (aVar 0) (aCons (aVar 2) aNil)))))))
def a_has_room : ATS :=
  (aRet (aOp oLe (aCB cLen (aCons (aCall sp_things_of (aCons (aSl (aVar 0) (aPart (aVar 1)) aNoP) aNil)) aNil)) (aOp oSub (aCB cLen (aCons (aVar 0) aNil)) (aVar 1))))
def a_hand_fits : ATS :=
  (aSeq (aAsg (aVar 0) (agTup 2 (agCons (agName 1) (agCons (agName 2) agNil))))
  (aRet (aOrV (aOp oIsN (aVar 2) (aC .non)) (aAndV (aOp oNotN (aVar 1) (aC .non)) (aCall sp_comes_before (aCons (aVar 1) (aCons (aVar 2) aNil)))))))
def a_leads : ATS :=
  (aSeq (aAsg (aOp oIx (aVar 0) (aVar 1)) (agTup 2 (agCons (agName 2) (agCons (agName 3) agNil))))
  (aRet (aAndV (aOp oIsN (aVar 3) (aC .non)) (aCall sp_comes_ahead (aCons (aVar 2) (aCons (aCall sp_things_of (aCons (aSl (aVar 0) (aPart (aOp oAdd (aVar 1) (aC (.int 1)))) aNoP) aNil)) aNil))))))
def a_fits_two : ATS :=
  (aSeq (aIfS (aOr (aTest (aOp oEq (aVar 2) (aC (.int 0)))) (aTest (aOp oNe (aOp oMod (aVar 2) (aC (.int 2))) (aVar 1)))) (aRet (aCall sp_leads (aCons (aVar 0) (aCons (aVar 2) aNil)))) aNext)
  (aRet (aCall sp_hand_fits (aCons (aOp oIx (aVar 0) (aVar 2)) aNil))))
def a_hole_fits : ATS :=
  (aSeq (aAsg (aCall sp_things_of (aCons (aSl (aVar 0) (aPart (aOp oAdd (aVar 1) (aC (.int 1)))) aNoP) aNil)) (agName 2))
  (aSeq (aIfS (aOr (aTest (aOp oNotN (aOp oIx (aOp oIx (aVar 0) (aVar 1)) (aC (.int 1))) (aC .non))) (aAnd (aTest (aOp oEq (aVar 1) (aC (.int 0)))) (aTest (aOp oNe (aVar 2) (aTup aNil))))) (aRet (aC (.bl false))) aNext)
  (aRet (aOrV (aOp oEq (aVar 2) (aTup aNil)) (aOp oNotN (aOp oIx (aOp oIx (aVar 0) (aOp oAdd (aVar 1) (aC (.int 1)))) (aC (.int 0))) (aC .non))))))
def a_fits_one : ATS :=
  (aSeq (aAsg (aOp oIx (aVar 0) (aVar 2)) (agTup 2 (agCons (agName 3) (agCons (agName 4) agNil))))
  (aSeq (aAsg (aCall sp_things_of (aCons (aSl (aVar 0) (aPart (aOp oAdd (aVar 2) (aC (.int 1)))) aNoP) aNil)) (agName 5))
  (aSeq (aIfS (aTest (aOp oIsN (aVar 3) (aC .non))) (aRet (aCall sp_hole_fits (aCons (aVar 0) (aCons (aVar 2) aNil)))) aNext)
  (aSeq (aIfS (aOr (aNot (aTest (aCall sp_hand_fits (aCons (aOp oIx (aVar 0) (aVar 2)) aNil)))) (aNot (aTest (aCall sp_comes_ahead (aCons (aVar 3) (aCons (aVar 5) aNil)))))) (aRet (aC (.bl false))) aNext)
  (aSeq (aIfS (aAnd (aTest (aOp oEq (aVar 1) (aC (.int 0)))) (aTest (aOp oEq (aVar 2) (aC (.int 0))))) (aRet (aAndV (aOp oIsN (aVar 4) (aC .non)) (aOrV (aOp oEq (aVar 5) (aTup aNil)) (aOp oNotN (aOp oIx (aOp oIx (aVar 0) (aC (.int 1))) (aC (.int 0))) (aC .non))))) aNext)
  (aRet (aC (.bl true))))))))
def a_in_order : ATS :=
  (aSeq (aAsg (aVar 0) (agTup 4 (agCons (agName 1) (agCons (agName 2) (agCons (agName 3) (agCons (agName 4) agNil))))))
  (aSeq (aFor (aiRng1 (aCons (aCB cLen (aCons (aVar 4) aNil)) aNil)) (agName 5) (aSeq (aIfS (aNot (aTest (aCall sp_has_room (aCons (aVar 4) (aCons (aVar 5) aNil))))) (aRet (aC (.bl false))) aNext)
  (aSeq (aIfS (aAnd (aTest (aOp oEq (aVar 1) (aC (.str "two")))) (aNot (aTest (aCall sp_fits_two (aCons (aVar 4) (aCons (aVar 2) (aCons (aVar 5) aNil))))))) (aRet (aC (.bl false))) aNext)
  (aIfS (aAnd (aTest (aOp oEq (aVar 1) (aC (.str "one")))) (aNot (aTest (aCall sp_fits_one (aCons (aVar 4) (aCons (aVar 2) (aCons (aVar 5) aNil))))))) (aRet (aC (.bl false))) aNext))))
  (aRet (aC (.bl true)))))
def a_entries_of : ATS :=
  (aSeq (aAsg (aLst aNil) (agName 1))
  (aSeq (aAsg (aC .non) (agName 2))
  (aSeq (aAsg (aC (.int 0)) (agName 3))
  (aSeq (aFor (aiSeq (aRevT (aVar 0))) (agTup 2 (agCons (agName 4) (agCons (agName 5) agNil))) (aSeq (aAsg (aCB cTuple (aCons (aLc (aiSeq (aTup (aCons (aVar 4) (aCons (aVar 5) aNil)))) (stN 6) (aTest (aOp oNotN (aVar 6) (aC .non))) (aVar 6)) aNil)) (agName 7))
  (aSeq (aAugAdd 3 (aCB cLen (aCons (aVar 7) aNil)))
  (aSeq (aAsg (aOp oAdd (aLst (aCons (aTup (aCons (aVar 2) (aCons (aVar 3) aNil))) aNil)) (aVar 1)) (agName 1))
  (aSeq (aIfS (aTest (aOp oNotN (aVar 2) (aC .non))) (aAsg (aOp oAdd (aVar 7) (aTup (aCons (aVar 2) aNil))) (agName 7)) aNext)
  (aAsg (aCall sp_first_of (aCons (aVar 7) aNil)) (agName 2)))))))
  (aRet (aCB cTuple (aCons (aVar 1) aNil)))))))
def a_is_entry : ATS :=
  (aSeq (aIfS (aOr (aNot (aTest (aCB (cIs "tuple" isTupB) (aCons (aVar 0) (aCons (aC (.ty "tuple")) aNil))))) (aTest (aOp oNe (aCB cLen (aCons (aVar 0) aNil)) (aC (.int 2))))) (aRet (aC (.bl false))) aNext)
  (aSeq (aIfS (aOr (aNot (aTest (aCB (cIs "int" isIntB) (aCons (aOp oIx (aVar 0) (aC (.int 1))) (aCons (aC (.ty "int")) aNil))))) (aTest (aCB (cIs "bool" isBoolB) (aCons (aOp oIx (aVar 0) (aC (.int 1))) (aCons (aC (.ty "bool")) aNil))))) (aRet (aC (.bl false))) aNext)
  (aRet (aOrV (aOp oIsN (aOp oIx (aVar 0) (aC (.int 0))) (aC .non)) (aCall sp_is_thing (aCons (aOp oIx (aVar 0) (aC (.int 0))) aNil))))))
def a_right_order : ATS :=
  (aSeq (aIfS (aOr (aNot (aTest (aCB (cIs "tuple" isTupB) (aCons (aVar 1) (aCons (aC (.ty "tuple")) aNil))))) (aTest (aOp oNe (aLc (aiSeq (aVar 1)) (stN 2) (aNot (aTest (aCall sp_is_entry (aCons (aVar 2) aNil)))) (aVar 2)) (aLst aNil)))) (aRet (aC (.bl false))) aNext)
  (aRet (aAndV (aOp oEq (aVar 1) (aCall sp_entries_of (aCons (aOp oIx (aVar 0) (aC (.int 3))) aNil))) (aCall sp_in_order (aCons (aVar 0) aNil)))))
def a_law_next : ATS :=
  (aSeq (aAsg (aVar 0) (agTup 3 (agCons (agName 1) (agCons (agName 2) (agCons (agName 3) agNil)))))
  (aSeq (aAsg (aOp oMod (aVar 2) (aCB cLen (aCons (aVar 1) aNil))) (agName 4))
  (aSeq (aAsg (aOp oAdd (aVar 2) (aC (.int 1))) (agSub (aVar 0) (aC (.int 1))))
  (aSeq (aIfS (aTest (aOp oGt (aOp oIx (aVar 3) (aVar 4)) (aC (.int 0)))) (aSeq (aAsg (aOp oMod (aOp oIx (aVar 3) (aVar 4)) (aC (.int 1000))) (agName 5))
  (aSeq (aAsg (aOp oFdiv (aOp oIx (aVar 3) (aVar 4)) (aC (.int 1000))) (agSub (aVar 3) (aVar 4)))
  (aRet (aVar 5)))) aNext)
  (aSeq (aAsg (aLst (aCons (aC (.int 2147483629)) (aCons (aC (.int 2147483587)) (aCons (aC (.int 2147483579)) (aCons (aC (.int 2147483563)) (aCons (aC (.int 2147483549)) (aCons (aC (.int 2147483543)) (aCons (aC (.int 2147483497)) aNil)))))))) (agName 6))
  (aSeq (aAsg (aOp oMod (aOp oPow (aOp oAdd (aOp oAdd (aOp oMod (aOp oIx (aVar 1) (aVar 4)) (aC (.int 2147483647))) (aOp oMulA (aC (.int 48271)) (aVar 2))) (aC (.int 104729))) (aC (.int 3))) (aOp oIx (aVar 6) (aOp oMod (aVar 2) (aC (.int 7))))) (agName 7))
  (aRet (aOp oMod (aOp oPow (aOp oAdd (aVar 7) (aOp oMulA (aC (.int 7919)) (aVar 2))) (aC (.int 2))) (aC (.int 2147483477))))))))))
def a_law_number : ATS :=
  (aSeq (aAsg (aCall sp_law_next (aCons (aVar 0) aNil)) (agName 2))
  (aSeq (aIfS (aTest (aOp oEq (aOp oMod (aVar 1) (aC (.int 4))) (aC (.int 0)))) (aRet (aOp oMod (aVar 2) (aC (.int 4)))) aNext)
  (aSeq (aIfS (aTest (aOp oEq (aOp oMod (aVar 1) (aC (.int 4))) (aC (.int 1)))) (aRet (aOp oMod (aVar 2) (aC (.int 30)))) aNext)
  (aSeq (aIfS (aTest (aOp oEq (aOp oMod (aVar 1) (aC (.int 4))) (aC (.int 2)))) (aRet (aOp oSub (aOp oPow (aC (.int 10)) (aC (.int 15))) (aOp oMod (aVar 2) (aC (.int 3))))) aNext)
  (aRet (aOp oMod (aOp oAdd (aOp oMulA (aVar 2) (aC (.int 1000003))) (aCall sp_law_next (aCons (aVar 0) aNil))) (aOp oAdd (aOp oPow (aC (.int 10)) (aC (.int 15))) (aC (.int 1)))))))))
def a_law_in_cells : ATS :=
  (aSeq (aAsg (aLst aNil) (agName 1))
  (aSeq (aFor (aiSeq (aVar 0)) (agName 2) (aDropS (aMt mExtend (aVar 1) (aCons (aLc (aiSeq (aVar 2)) (stN 3) (aTest (aOp oNotN (aVar 3) (aC .non))) (aVar 3)) aNil))))
  (aRet (aVar 1))))
def a_law_three : ATS :=
  (aSeq (aAsg (aCB cSorted (aCons (aLc (aiSeq (aVar 0)) (stN 2) (aTest (aOp oNotN (aVar 2) (aC .non))) (aVar 2)) aNil)) (agName 3))
  (aRet (aOp oAdd (aVar 3) (aOp oMulA (aLst (aCons (aC .non) aNil)) (aOp oSub (aVar 1) (aCB cLen (aCons (aVar 3) aNil)))))))
def a_law_two_moved : ATS :=
  (aSeq (aAsg (aLc (aiSeq (aVar 0)) (stN 3) aYes (aCB cList (aCons (aVar 3) aNil))) (agName 4))
  (aSeq (aFor (aiRng3 (aCons (aVar 1) (aCons (aCB cLen (aCons (aVar 4) aNil)) (aCons (aC (.int 2)) aNil)))) (agName 5) (aSeq (aAsg (aLst (aCons (aC .non) (aCons (aC .non) aNil))) (agName 6))
  (aSeq (aIfS (aTest (aOp oLt (aOp oAdd (aVar 5) (aC (.int 1))) (aCB cLen (aCons (aVar 4) aNil)))) (aAsg (aOp oIx (aVar 4) (aOp oAdd (aVar 5) (aC (.int 1)))) (agName 6)) aNext)
  (aIfS (aTest (aOp oIsN (aOp oIx (aVar 6) (aC (.int 1))) (aC .non))) (aSeq (aAsg (aCall sp_law_three (aCons (aLst (aCons (aOp oIx (aOp oIx (aVar 4) (aVar 5)) (aC (.int 0))) (aCons (aOp oIx (aOp oIx (aVar 4) (aVar 5)) (aC (.int 1))) (aCons (aOp oIx (aVar 6) (aC (.int 0))) aNil)))) (aCons (aC (.int 3)) aNil))) (agName 7))
  (aSeq (aAsg (aOp oIx (aVar 7) (aC (.int 0))) (agSub (aOp oIx (aVar 4) (aVar 5)) (aC (.int 0))))
  (aSeq (aAsg (aC .non) (agSub (aOp oIx (aVar 4) (aVar 5)) (aC (.int 1))))
  (aSeq (aAsg (aOp oIx (aVar 7) (aC (.int 1))) (agSub (aVar 6) (aC (.int 0))))
  (aSeq (aAsg (aOp oIx (aVar 7) (aC (.int 2))) (agSub (aVar 6) (aC (.int 1))))
  (aIfS (aTest (aOp oEq (aOp oAdd (aVar 5) (aC (.int 1))) (aCB cLen (aCons (aVar 4) aNil)))) (aDropS (aMt mExtend (aVar 2) (aCons (aLc (aiSeq (aVar 6)) (stN 8) (aTest (aOp oNotN (aVar 8) (aC .non))) (aVar 8)) aNil))) aNext)))))) aNext))))
  (aRet (aCB cTuple (aCons (aLc (aiSeq (aVar 4)) (stN 3) aYes (aCB cTuple (aCons (aVar 3) aNil))) aNil)))))
def a_law_one_moved : ATS :=
  (aSeq (aAsg (aLst aNil) (agName 3))
  (aSeq (aAsg (aCB cLen (aCons (aVar 0) aNil)) (agName 4))
  (aSeq (aFor (aiRng1 (aCons (aVar 4) aNil)) (agName 5) (aSeq (aAsg (aVar 1) (agName 6))
  (aSeq (aIfS (aTest (aOp oGt (aVar 5) (aC (.int 0)))) (aAsg (aOp oIx (aOp oIx (aVar 0) (aOp oSub (aVar 5) (aC (.int 1)))) (aC (.int 1))) (agName 6)) aNext)
  (aSeq (aAsg (aOp oIx (aOp oIx (aVar 0) (aVar 5)) (aC (.int 0))) (agName 7))
  (aSeq (aIfS (aAnd (aTest (aOp oIsN (aVar 7) (aC .non))) (aTest (aOp oLt (aOp oAdd (aVar 5) (aC (.int 1))) (aVar 4)))) (aAsg (aOp oIx (aOp oIx (aVar 0) (aOp oAdd (aVar 5) (aC (.int 1)))) (aC (.int 0))) (agName 7)) (aIfS (aAnd (aTest (aOp oNotN (aVar 7) (aC .non))) (aAnd (aTest (aOp oGt (aVar 5) (aC (.int 0)))) (aTest (aOp oIsN (aOp oIx (aOp oIx (aVar 0) (aOp oSub (aVar 5) (aC (.int 1)))) (aC (.int 0))) (aC .non))))) (aAsg (aC .non) (agName 7)) aNext))
  (aDropS (aMt mAppend (aVar 3) (aCons (aCB cTuple (aCons (aCall sp_law_three (aCons (aLst (aCons (aVar 6) (aCons (aVar 7) aNil))) (aCons (aC (.int 2)) aNil))) aNil)) aNil))))))))
  (aSeq (aIfS (aTest (aOp oNotN (aOp oIx (aOp oIx (aVar 0) (aC (.int (-1)))) (aC (.int 1))) (aC .non))) (aDropS (aMt mAppend (aVar 2) (aCons (aOp oIx (aOp oIx (aVar 0) (aC (.int (-1)))) (aC (.int 1))) aNil))) aNext)
  (aRet (aCB cTuple (aCons (aVar 3) aNil)))))))
def a_law_too_soon : ATS :=
  (aSeq (aIfS (aOr (aTest (aOp oEq (aOp oIx (aVar 0) (aC (.int 1))) (aC (.int 0)))) (aTest (aOp oEq (aOp oIx (aVar 1) (aC (.int 0))) (aC (.str "rest"))))) (aRet (aC (.bl false))) aNext)
  (aRet (aOrV (aOp oEq (aOp oIx (aVar 0) (aC (.int 0))) (aC (.str "two"))) (aOp oNe (aOp oIx (aVar 1) (aC (.int 0))) (aC (.str "put"))))))
def a_law_taken : ATS :=
  (aSeq (aAsg (aOp oIx (aVar 0) (aC (.int 3))) (agName 1))
  (aSeq (aIfS (aTest (aOp oEq (aCall sp_law_in_cells (aCons (aVar 1) aNil)) (aLst aNil))) (aRet (aTup (aCons (aC (.str "empty")) (aCons (aVar 1) aNil)))) aNext)
  (aSeq (aIfS (aTest (aOp oIsN (aOp oIx (aOp oIx (aVar 1) (aC (.int 0))) (aC (.int 0))) (aC .non))) (aRet (aTup (aCons (aC (.str "none")) (aCons (aVar 1) aNil)))) aNext)
  (aRet (aTup (aCons (aOp oIx (aOp oIx (aVar 1) (aC (.int 0))) (aC (.int 0))) (aCons (aOp oAdd (aTup (aCons (aTup (aCons (aC .non) (aCons (aOp oIx (aOp oIx (aVar 1) (aC (.int 0))) (aC (.int 1))) aNil))) aNil)) (aSl (aVar 1) (aPart (aC (.int 1))) aNoP)) aNil)))))))
def a_law_beat : ATS :=
  (aSeq (aAsg (aVar 0) (agTup 4 (agCons (agName 2) (agCons (agName 3) (agCons (agName 4) (agCons (agName 5) agNil))))))
  (aSeq (aAsg (aLst aNil) (agName 6))
  (aSeq (aAsg (aC .non) (agName 7))
  (aSeq (aAsg (aC .non) (agName 8))
  (aSeq (aIfS (aTest (aOp oInS (aOp oIx (aVar 1) (aC (.int 0))) (aLst (aCons (aC (.str "take")) (aCons (aC (.str "both")) aNil))))) (aAsg (aCall sp_law_taken (aCons (aVar 0) aNil)) (agTup 2 (agCons (agName 7) (agCons (agName 5) agNil)))) aNext)
  (aSeq (aIfS (aTest (aOp oInS (aOp oIx (aVar 1) (aC (.int 0))) (aLst (aCons (aC (.str "put")) (aCons (aC (.str "both")) aNil))))) (aSeq (aAsg (aC (.str "full")) (agName 9))
  (aSeq (aIfS (aTest (aOp oLt (aCB cLen (aCons (aCall sp_law_in_cells (aCons (aVar 5) aNil)) aNil)) (aCB cLen (aCons (aVar 5) aNil)))) (aSeq (aAsg (aTup (aCons (aOp oIx (aVar 1) (aC (.int 1))) (aCons (aVar 4) aNil))) (agName 8))
  (aSeq (aAsg (aVar 4) (agName 9))
  (aAsg (aOp oAdd (aVar 4) (aC (.int 1))) (agName 4)))) aNext)
  (aAsg (aOp oIx (aLst (aCons (aVar 9) (aCons (aTup (aCons (aVar 7) (aCons (aVar 9) aNil))) aNil))) (aCB cInt (aCons (aOp oEq (aOp oIx (aVar 1) (aC (.int 0))) (aC (.str "both"))) aNil))) (agName 7)))) aNext)
  (aSeq (aIfS (aTest (aOp oEq (aVar 2) (aC (.str "one")))) (aRet (aTup (aCons (aVar 7) (aCons (aVar 6) (aCons (aTup (aCons (aC (.str "one")) (aCons (aCB cInt (aCons (aOp oNe (aOp oIx (aVar 1) (aC (.int 0))) (aC (.str "rest"))) aNil)) (aCons (aVar 4) (aCons (aCall sp_law_one_moved (aCons (aVar 5) (aCons (aVar 8) (aCons (aVar 6) aNil)))) aNil))))) aNil))))) aNext)
  (aSeq (aIfS (aTest (aOp oNotN (aVar 8) (aC .non))) (aSeq (aIfS (aTest (aOp oNotN (aOp oIx (aOp oIx (aVar 5) (aC (.int 0))) (aC (.int 1))) (aC .non))) (aDropS (aMt mAppend (aVar 6) (aCons (aOp oIx (aOp oIx (aVar 5) (aC (.int 0))) (aC (.int 1))) aNil))) aNext)
  (aAsg (aOp oAdd (aTup (aCons (aTup (aCons (aOp oIx (aOp oIx (aVar 5) (aC (.int 0))) (aC (.int 0))) (aCons (aVar 8) aNil))) aNil)) (aSl (aVar 5) (aPart (aC (.int 1))) aNoP)) (agName 5))) aNext)
  (aRet (aTup (aCons (aVar 7) (aCons (aVar 6) (aCons (aTup (aCons (aC (.str "two")) (aCons (aOp oSub (aC (.int 1)) (aVar 3)) (aCons (aVar 4) (aCons (aCall sp_law_two_moved (aCons (aVar 5) (aCons (aVar 3) (aCons (aVar 6) aNil)))) aNil))))) aNil)))))))))))))
def a_law_empty : ATS :=
  (aRet (aTup (aCons (aVar 0) (aCons (aC (.int 0)) (aCons (aC (.int 0)) (aCons (aOp oMulA (aTup (aCons (aTup (aCons (aC .non) (aCons (aC .non) aNil))) aNil)) (aVar 1)) aNil))))))
def a_law_least_beyond : ATS :=
  (aRet (aMinD (aCall sp_law_in_cells (aCons (aSl (aVar 0) (aPart (aOp oAdd (aVar 1) (aC (.int 1)))) aNoP) aNil))))
def a_law_leads : ATS :=
  (aSeq (aAsg (aCall sp_law_least_beyond (aCons (aVar 0) (aCons (aVar 1) aNil))) (agName 2))
  (aSeq (aIfS (aTest (aOp oIsN (aOp oIx (aOp oIx (aVar 0) (aVar 1)) (aC (.int 0))) (aC .non))) (aRet (aOp oIsN (aVar 2) (aC .non))) aNext)
  (aRet (aOrV (aOp oIsN (aVar 2) (aC .non)) (aOp oLt (aOp oIx (aOp oIx (aVar 0) (aVar 1)) (aC (.int 0))) (aVar 2))))))
def a_law_in_order : ATS :=
  (aSeq (aAsg (aVar 0) (agTup 4 (agCons (agName 1) (agCons (agName 2) (agCons (agName 3) (agCons (agName 4) agNil))))))
  (aSeq (aFor (aiEnum (aCons (aVar 4) aNil)) (agTup 2 (agCons (agName 5) (agCons (agName 6) agNil))) (aSeq (aIfS (aTest (aOp oGt (aCB cLen (aCons (aCall sp_law_in_cells (aCons (aSl (aVar 4) (aPart (aVar 5)) aNoP) aNil)) aNil)) (aOp oSub (aCB cLen (aCons (aVar 4) aNil)) (aVar 5)))) (aRet (aC (.bl false))) aNext)
  (aSeq (aIfS (aAnd (aTest (aOp oNotN (aOp oIx (aVar 6) (aC (.int 1))) (aC .non))) (aOr (aTest (aOp oIsN (aOp oIx (aVar 6) (aC (.int 0))) (aC .non))) (aTest (aOp oLt (aOp oIx (aVar 6) (aC (.int 1))) (aOp oIx (aVar 6) (aC (.int 0))))))) (aRet (aC (.bl false))) aNext)
  (aSeq (aIfS (aAnd (aTest (aOp oEq (aVar 1) (aC (.str "two")))) (aOr (aTest (aOp oNe (aOp oMod (aVar 5) (aC (.int 2))) (aVar 2))) (aTest (aOp oEq (aVar 5) (aC (.int 0)))))) (aIfS (aOr (aTest (aOp oNotN (aOp oIx (aVar 6) (aC (.int 1))) (aC .non))) (aNot (aTest (aCall sp_law_leads (aCons (aVar 4) (aCons (aVar 5) aNil)))))) (aRet (aC (.bl false))) aNext) aNext)
  (aIfS (aAnd (aTest (aOp oEq (aVar 1) (aC (.str "one")))) (aNot (aTest (aCall sp_law_one_cell (aCons (aVar 0) (aCons (aVar 5) aNil)))))) (aRet (aC (.bl false))) aNext)))))
  (aRet (aC (.bl true)))))
def a_law_one_cell : ATS :=
  (aSeq (aAsg (aVar 0) (agTup 4 (agCons (agName 2) (agCons (agName 3) (agCons (agName 4) (agCons (agName 5) agNil))))))
  (aSeq (aAsg (aOp oIx (aVar 5) (aVar 1)) (agTup 2 (agCons (agName 6) (agCons (agName 7) agNil))))
  (aSeq (aAsg (aCall sp_law_in_cells (aCons (aSl (aVar 5) (aPart (aOp oAdd (aVar 1) (aC (.int 1)))) aNoP) aNil)) (agName 8))
  (aSeq (aIfS (aAnd (aTest (aOp oNotN (aVar 6) (aC .non))) (aNot (aTest (aCall sp_law_leads (aCons (aVar 5) (aCons (aVar 1) aNil)))))) (aRet (aC (.bl false))) aNext)
  (aSeq (aIfS (aAnd (aTest (aOp oIsN (aVar 6) (aC .non))) (aOr (aAnd (aTest (aOp oEq (aVar 1) (aC (.int 0)))) (aTest (aOp oNe (aVar 8) (aLst aNil)))) (aAnd (aTest (aOp oNe (aVar 8) (aLst aNil))) (aTest (aOp oIsN (aOp oIx (aOp oIx (aVar 5) (aOp oAdd (aVar 1) (aC (.int 1)))) (aC (.int 0))) (aC .non)))))) (aRet (aC (.bl false))) aNext)
  (aSeq (aIfS (aAnd (aTest (aOp oEq (aVar 3) (aC (.int 0)))) (aTest (aOp oEq (aVar 1) (aC (.int 0))))) (aRet (aAndV (aOp oIsN (aVar 7) (aC .non)) (aOrV (aOp oEq (aVar 8) (aLst aNil)) (aOp oNotN (aOp oIx (aOp oIx (aVar 5) (aC (.int 1))) (aC (.int 0))) (aC .non))))) aNext)
  (aRet (aC (.bl true)))))))))
def a_law_tickets : ATS :=
  (aSeq (aAsg (aOp oMod (aCall sp_law_next (aCons (aVar 0) aNil)) (aC (.int 4))) (agName 2))
  (aSeq (aAsg (aListRg (aOp oAdd (aVar 1) (aOp oIx (aLst (aCons (aC (.int 0)) (aCons (aC (.int 1)) (aCons (aC (.int 5)) (aCons (aC (.int 5)) aNil))))) (aVar 2)))) (agName 3))
  (aSeq (aIfS (aTest (aOp oEq (aVar 2) (aC (.int 3)))) (aAsg (aLc (aiRng1 (aCons (aOp oAdd (aVar 1) (aC (.int 5))) aNil)) (stN 4) aYes (aOp oAdd (aOp oMulA (aC (.int 1000)) (aVar 4)) (aOp oMod (aCall sp_law_next (aCons (aVar 0) aNil)) (aC (.int 1000))))) (agName 3)) aNext)
  (aSeq (aAsg (aLst aNil) (agName 5))
  (aSeq (aFor (aiRng1 (aCons (aVar 1) aNil)) (agName 6) (aDropS (aMt mAppend (aVar 5) (aCons (aMt mPopAt (aVar 3) (aCons (aOp oMod (aCall sp_law_next (aCons (aVar 0) aNil)) (aCB cLen (aCons (aVar 3) aNil))) aNil)) aNil))))
  (aRet (aTup (aCons (aVar 5) (aCons (aOp oIx (aLst (aCons (aVar 1) (aCons (aOp oAdd (aVar 1) (aC (.int 1))) (aCons (aOp oAdd (aVar 1) (aC (.int 5))) (aCons (aOp oSub (aOp oPow (aC (.int 10)) (aC (.int 6))) (aC (.int 5000))) aNil))))) (aVar 2)) aNil)))))))))
def a_law_made_things : ATS :=
  (aSeq (aAsg (aCall sp_law_next (aCons (aVar 0) aNil)) (agName 2))
  (aSeq (aAsg (aCall sp_law_tickets (aCons (aVar 0) (aCons (aVar 1) aNil))) (agTup 2 (agCons (agName 3) (agCons (agName 4) agNil))))
  (aRet (aTup (aCons (aCB cSorted (aCons (aLc (aiSeq (aVar 3)) (stN 5) aYes (aTup (aCons (aCall sp_law_number (aCons (aVar 0) (aCons (aVar 2) aNil))) (aCons (aVar 5) aNil)))) aNil)) (aCons (aVar 4) aNil))))))
def a_law_made_two : ATS :=
  (aSeq (aIfS (aTest (aOp oEq (aVar 1) (aLst aNil))) (aRet (aTup (aCons (aC .non) (aCons (aC .non) aNil)))) aNext)
  (aSeq (aIfS (aOr (aTest (aOp oEq (aVar 3) (aC (.int 0)))) (aTest (aOp oNe (aOp oMod (aVar 3) (aC (.int 2))) (aVar 2)))) (aRet (aTup (aCons (aMt mPopAt (aVar 1) (aCons (aC (.int 0)) aNil)) (aCons (aC .non) aNil)))) aNext)
  (aSeq (aAsg (aCB cMax2 (aCons (aC (.int 0)) (aCons (aOp oSub (aCB cLen (aCons (aVar 1) aNil)) (aOp oSub (aOp oSub (aVar 4) (aVar 3)) (aC (.int 1)))) aNil))) (agName 5))
  (aSeq (aAsg (aCB cMin2 (aCons (aC (.int 2)) (aCons (aCB cLen (aCons (aVar 1) aNil)) aNil))) (agName 6))
  (aSeq (aAsg (aLst aNil) (agName 7))
  (aSeq (aFor (aiRng1 (aCons (aOp oAdd (aVar 5) (aOp oMod (aCall sp_law_next (aCons (aVar 0) aNil)) (aOp oAdd (aOp oSub (aVar 6) (aVar 5)) (aC (.int 1))))) aNil)) (agName 8) (aDropS (aMt mAppend (aVar 7) (aCons (aMt mPopAt (aVar 1) (aCons (aOp oMod (aCall sp_law_next (aCons (aVar 0) aNil)) (aCB cLen (aCons (aVar 1) aNil))) aNil)) aNil))))
  (aSeq (aAsg (aOp oAdd (aCB cSorted (aCons (aVar 7) aNil)) (aLst (aCons (aC .non) (aCons (aC .non) aNil)))) (agName 7))
  (aRet (aTup (aCons (aOp oIx (aVar 7) (aC (.int 0))) (aCons (aOp oIx (aVar 7) (aC (.int 1))) aNil)))))))))))
def a_law_made_one : ATS :=
  (aSeq (aAsg (aCB cLen (aCons (aVar 3) aNil)) (agName 5))
  (aSeq (aIfS (aTest (aOp oEq (aVar 1) (aLst aNil))) (aRet (aTup (aCons (aC .non) (aCons (aC .non) aNil)))) aNext)
  (aSeq (aAsg (aAndV (aOp oGt (aVar 5) (aC (.int 0))) (aAndV (aOp oNotN (aOp oIx (aOp oIx (aVar 3) (aC (.int (-1)))) (aC (.int 0))) (aC .non)) (aAndV (aOp oLt (aCB cLen (aCons (aVar 1) aNil)) (aOp oSub (aVar 4) (aVar 5))) (aOrV (aOp oEq (aVar 2) (aC (.int 1))) (aOp oGt (aVar 5) (aC (.int 1))))))) (agName 6))
  (aSeq (aIfS (aAnd (aTest (aVar 6)) (aTest (aOp oEq (aOp oMod (aCall sp_law_next (aCons (aVar 0) aNil)) (aC (.int 3))) (aC (.int 0))))) (aRet (aTup (aCons (aC .non) (aCons (aC .non) aNil)))) aNext)
  (aSeq (aAsg (aMt mPopAt (aVar 1) (aCons (aC (.int 0)) aNil)) (agName 7))
  (aSeq (aIfS (aAnd (aTest (aOp oNe (aVar 1) (aLst aNil))) (aAnd (aOr (aTest (aOp oEq (aVar 2) (aC (.int 1)))) (aTest (aOp oGt (aVar 5) (aC (.int 0))))) (aTest (aOp oEq (aOp oMod (aCall sp_law_next (aCons (aVar 0) aNil)) (aC (.int 2))) (aC (.int 0)))))) (aRet (aTup (aCons (aVar 7) (aCons (aMt mPopAt (aVar 1) (aCons (aOp oMod (aCall sp_law_next (aCons (aVar 0) aNil)) (aCB cLen (aCons (aVar 1) aNil))) aNil)) aNil)))) aNext)
  (aRet (aTup (aCons (aVar 7) (aCons (aC .non) aNil))))))))))
def a_law_made_stand : ATS :=
  (aSeq (aAsg (aOp oMod (aCall sp_law_next (aCons (aVar 0) aNil)) (aC (.int 2))) (agName 3))
  (aSeq (aAsg (aOp oMod (aCall sp_law_next (aCons (aVar 0) aNil)) (aC (.int 4))) (agName 4))
  (aSeq (aAsg (aOp oMod (aCall sp_law_next (aCons (aVar 0) aNil)) (aOp oAdd (aVar 2) (aC (.int 1)))) (agName 5))
  (aSeq (aAsg (aCall sp_law_made_things (aCons (aVar 0) (aCons (aOp oIx (aLst (aCons (aVar 2) (aCons (aVar 5) (aCons (aVar 5) (aCons (aOp oFdiv (aOp oAdd (aVar 2) (aC (.int 1))) (aC (.int 2))) aNil))))) (aVar 4)) aNil))) (agTup 2 (agCons (agName 6) (agCons (agName 7) agNil))))
  (aSeq (aAsg (aLst aNil) (agName 8))
  (aSeq (aFor (aiRng1 (aCons (aVar 2) aNil)) (agName 9) (aIfS (aTest (aOp oEq (aVar 1) (aC (.str "one")))) (aDropS (aMt mAppend (aVar 8) (aCons (aCall sp_law_made_one (aCons (aVar 0) (aCons (aVar 6) (aCons (aVar 3) (aCons (aVar 8) (aCons (aVar 2) aNil)))))) aNil))) (aDropS (aMt mAppend (aVar 8) (aCons (aCall sp_law_made_two (aCons (aVar 0) (aCons (aVar 6) (aCons (aVar 3) (aCons (aVar 9) (aCons (aVar 2) aNil)))))) aNil)))))
  (aRet (aTup (aCons (aVar 1) (aCons (aVar 3) (aCons (aVar 7) (aCons (aCB cTuple (aCons (aVar 8) aNil)) aNil))))))))))))
def a_law_laid : ATS :=
  (aSeq (aAsg (aLc (aiRng3 (aCons (aC (.int 0)) (aCons (aCB cLen (aCons (aVar 3) aNil)) (aCons (aC (.int 2)) aNil)))) (stN 4) aYes (aTup (aCons (aOp oIx (aVar 3) (aVar 4)) (aCons (aOp oIx (aVar 3) (aOp oAdd (aVar 4) (aC (.int 1)))) aNil)))) (agName 5))
  (aRet (aTup (aCons (aVar 0) (aCons (aVar 1) (aCons (aVar 2) (aCons (aCB cTuple (aCons (aVar 5) aNil)) aNil)))))))
def a_law_strewn : ATS :=
  (aSeq (aAsg (aOp oMod (aCall sp_law_next (aCons (aVar 0) aNil)) (aC (.int 2))) (agName 3))
  (aSeq (aAsg (aCall sp_law_made_things (aCons (aVar 0) (aCons (aOp oMod (aCall sp_law_next (aCons (aVar 0) aNil)) (aOp oAdd (aVar 2) (aC (.int 2)))) aNil))) (agTup 2 (agCons (agName 4) (agCons (agName 5) agNil))))
  (aSeq (aAsg (aOp oMulA (aLst (aCons (aC .non) aNil)) (aOp oMulA (aC (.int 2)) (aVar 2))) (agName 6))
  (aSeq (aFor (aiSeq (aSl (aVar 4) aNoP (aPart (aOp oMulA (aC (.int 2)) (aVar 2))))) (agName 7) (aSeq (aAsg (aLc (aiRng1 (aCons (aOp oMulA (aC (.int 2)) (aVar 2)) aNil)) (stN 8) (aTest (aOp oIsN (aOp oIx (aVar 6) (aVar 8)) (aC .non))) (aVar 8)) (agName 9))
  (aAsg (aVar 7) (agSub (aVar 6) (aOp oIx (aVar 9) (aOp oMod (aCall sp_law_next (aCons (aVar 0) aNil)) (aCB cLen (aCons (aVar 9) aNil))))))))
  (aRet (aCall sp_law_laid (aCons (aVar 1) (aCons (aVar 3) (aCons (aVar 5) (aCons (aVar 6) aNil))))))))))
def a_law_bent : ATS :=
  (aSeq (aAsg (aVar 1) (agTup 4 (agCons (agName 2) (agCons (agName 3) (agCons (agName 4) (agCons (agName 5) agNil))))))
  (aSeq (aAsg (aOp oMod (aCall sp_law_next (aCons (aVar 0) aNil)) (aC (.int 8))) (agName 6))
  (aSeq (aAsg (aLst aNil) (agName 7))
  (aSeq (aFor (aiSeq (aVar 5)) (agName 8) (aAsg (aOp oAdd (aVar 7) (aCB cList (aCons (aVar 8) aNil))) (agName 7)))
  (aSeq (aAsg (aOp oMod (aCall sp_law_next (aCons (aVar 0) aNil)) (aCB cLen (aCons (aVar 7) aNil))) (agName 9))
  (aSeq (aAsg (aOp oMod (aCall sp_law_next (aCons (aVar 0) aNil)) (aCB cLen (aCons (aVar 7) aNil))) (agName 10))
  (aSeq (aIfS (aTest (aOp oEq (aVar 6) (aC (.int 0)))) (aRet (aTup (aCons (aVar 2) (aCons (aOp oSub (aC (.int 1)) (aVar 3)) (aCons (aVar 4) (aCons (aVar 5) aNil)))))) aNext)
  (aSeq (aIfS (aTest (aOp oEq (aVar 6) (aC (.int 1)))) (aRet (aTup (aCons (aOp oIx (aLst (aCons (aC (.str "one")) (aCons (aC (.str "two")) aNil))) (aCB cInt (aCons (aOp oEq (aVar 2) (aC (.str "one"))) aNil))) (aCons (aVar 3) (aCons (aVar 4) (aCons (aVar 5) aNil)))))) aNext)
  (aSeq (aIfS (aTest (aOp oEq (aVar 6) (aC (.int 2)))) (aAsg (aC .non) (agSub (aVar 7) (aVar 9))) aNext)
  (aSeq (aIfS (aAnd (aTest (aOp oGt (aVar 6) (aC (.int 2)))) (aTest (aOp oLt (aVar 6) (aC (.int 6))))) (aSeq (aAsg (aOp oIx (aLst (aCons (aOp oSub (aOp oAdd (aOp oMulA (aOp oFdiv (aVar 9) (aC (.int 2))) (aC (.int 2))) (aC (.int 1))) (aOp oMod (aVar 9) (aC (.int 2)))) (aCons (aVar 10) (aCons (aOp oMod (aOp oAdd (aVar 9) (aC (.int 2))) (aCB cLen (aCons (aVar 7) aNil))) aNil)))) (aOp oSub (aVar 6) (aC (.int 3)))) (agName 10))
  (aAsg (aTup (aCons (aOp oIx (aVar 7) (aVar 10)) (aCons (aOp oIx (aVar 7) (aVar 9)) aNil))) (agTup 2 (agCons (agSub (aVar 7) (aVar 9)) (agCons (agSub (aVar 7) (aVar 10)) agNil))))) aNext)
  (aSeq (aIfS (aTest (aOp oGt (aVar 6) (aC (.int 5)))) (aAsg (aTup (aCons (aCall sp_law_number (aCons (aVar 0) (aCons (aCall sp_law_next (aCons (aVar 0) aNil)) aNil))) (aCons (aVar 4) aNil))) (agSub (aVar 7) (aVar 9))) aNext)
  (aRet (aCall sp_law_laid (aCons (aVar 2) (aCons (aVar 3) (aCons (aOp oAdd (aVar 4) (aCB cInt (aCons (aOp oGt (aVar 6) (aC (.int 5))) aNil))) (aCons (aVar 7) aNil)))))))))))))))))
def a_law_entries : ATS :=
  (aSeq (aAsg (aLst aNil) (agName 1))
  (aSeq (aFor (aiRng1 (aCons (aCB cLen (aCons (aVar 0) aNil)) aNil)) (agName 2) (aDropS (aMt mAppend (aVar 1) (aCons (aTup (aCons (aCall sp_law_least_beyond (aCons (aVar 0) (aCons (aVar 2) aNil))) (aCons (aCB cLen (aCons (aCall sp_law_in_cells (aCons (aSl (aVar 0) (aPart (aVar 2)) aNoP) aNil)) aNil)) aNil))) aNil))))
  (aRet (aCB cTuple (aCons (aVar 1) aNil)))))
def a_law_asked : ATS :=
  (aSeq (aAsg (aOp oMod (aCall sp_law_next (aCons (aVar 0) aNil)) (aC (.int 8))) (agName 3))
  (aSeq (aAsg (aCall sp_law_number (aCons (aVar 0) (aCons (aVar 2) aNil))) (agName 4))
  (aSeq (aAsg (aOp oIx (aLst (aCons (aTup (aCons (aC (.str "rest")) aNil)) (aCons (aTup (aCons (aC (.str "take")) aNil)) (aCons (aTup (aCons (aC (.str "both")) (aCons (aVar 4) aNil))) (aCons (aTup (aCons (aC (.str "put")) (aCons (aVar 4) aNil))) aNil))))) (aCB cMin2 (aCons (aVar 3) (aCons (aC (.int 3)) aNil)))) (agName 5))
  (aSeq (aIfS (aTest (aCall sp_law_too_soon (aCons (aVar 1) (aCons (aVar 5) aNil)))) (aRet (aTup (aCons (aC (.str "rest")) aNil))) aNext)
  (aRet (aVar 5))))))
def a_law_come_to : ATS :=
  (aSeq (aAsg (aCall sp_law_next (aCons (aVar 0) aNil)) (agName 4))
  (aSeq (aAsg (aLst (aCons (aCall sp_law_empty (aCons (aVar 1) (aCons (aVar 2) aNil))) aNil)) (agName 5))
  (aSeq (aFor (aiRng1 (aCons (aVar 3) aNil)) (agName 6) (aDropS (aMt mAppend (aVar 5) (aCons (aOp oIx (aCall sp_law_beat (aCons (aOp oIx (aVar 5) (aC (.int (-1)))) (aCons (aCall sp_law_asked (aCons (aVar 0) (aCons (aOp oIx (aVar 5) (aC (.int (-1)))) (aCons (aVar 4) aNil)))) aNil))) (aC (.int 2))) aNil))))
  (aRet (aVar 5)))))
def a_law_like (spr : ASp) : ATS :=
  (aSeq (aIfS (aTest (aCB (cIs "tuple" isTupB) (aCons (aVar 1) (aCons (aC (.ty "tuple")) aNil)))) (aSeq (aIfS (aOr (aNot (aTest (aCB (cIs "tuple" isTupB) (aCons (aVar 0) (aCons (aC (.ty "tuple")) aNil))))) (aTest (aOp oNe (aCB cLen (aCons (aVar 0) aNil)) (aCB cLen (aCons (aVar 1) aNil))))) (aRet (aC (.bl false))) aNext)
  (aRet (aOp oEq (aLc (aiZip (aCons (aVar 0) (aCons (aVar 1) aNil))) (st2 2 3) (aNot (aTest (aCall spr (aCons (aVar 2) (aCons (aVar 3) aNil))))) (aC (.int 0))) (aLst aNil)))) aNext)
  (aSeq (aIfS (aOr (aTest (aOp oIsN (aVar 1) (aC .non))) (aTest (aCB (cIs "str" isStrB) (aCons (aVar 1) (aCons (aC (.ty "str")) aNil))))) (aRet (aOp oEq (aVar 0) (aVar 1))) aNext)
  (aRet (aAndV (aCB (cIs "int" isIntB) (aCons (aVar 0) (aCons (aC (.ty "int")) aNil))) (aAndV (aNotV (aCB (cIs "bool" isBoolB) (aCons (aVar 0) (aCons (aC (.ty "bool")) aNil)))) (aOp oEq (aVar 0) (aVar 1)))))))
def a_law_all_stands : ATS :=
  (aSeq (aAsg (aOp oIx (aLst (aCons (aC (.str "one")) (aCons (aC (.str "two")) aNil))) (aOp oMod (aCall sp_law_next (aCons (aVar 0) aNil)) (aC (.int 2)))) (agName 1))
  (aSeq (aAsg (aOp oAdd (aC (.int 1)) (aOp oMod (aCall sp_law_next (aCons (aVar 0) aNil)) (aOp oIx (aLst (aCons (aC (.int 3)) (aCons (aC (.int 5)) (aCons (aC (.int 8)) (aCons (aC (.int 40)) aNil))))) (aOp oMod (aCall sp_law_next (aCons (aVar 0) aNil)) (aC (.int 4)))))) (agName 2))
  (aSeq (aAsg (aOp oAdd (aLc (aiRng1 (aCons (aC (.int 3)) aNil)) (stN 3) aYes (aCall sp_law_made_stand (aCons (aVar 0) (aCons (aVar 1) (aCons (aVar 2) aNil))))) (aLst (aCons (aCall sp_law_empty (aCons (aVar 1) (aCons (aVar 2) aNil))) aNil))) (agName 4))
  (aSeq (aAsg (aOp oAdd (aOp oAdd (aVar 4) (aLc (aiSeq (aVar 4)) (stN 5) aYes (aCall sp_law_bent (aCons (aVar 0) (aCons (aVar 5) aNil))))) (aLst (aCons (aCall sp_law_strewn (aCons (aVar 0) (aCons (aVar 1) (aCons (aVar 2) aNil)))) aNil))) (agName 4))
  (aSeq (aDropS (aMt mAppend (aVar 4) (aCons (aCall sp_law_bent (aCons (aVar 0) (aCons (aOp oIx (aVar 4) (aC (.int 4))) aNil))) aNil)))
  (aRet (aOp oAdd (aVar 4) (aStepL (aCall sp_law_come_to (aCons (aVar 0) (aCons (aVar 1) (aCons (aVar 2) (aCons (aC (.int 12)) aNil)))))))))))))
def a_law_seen : ATS :=
  (aSeq (aAsg (aVar 0) (agTup 4 (agCons (agName 2) (agCons (agName 3) (agCons (agName 4) (agCons (agName 5) agNil))))))
  (aSeq (aFor (aiEnum (aCons (aVar 1) aNil)) (agTup 2 (agCons (agName 6) (agCons (agName 7) agNil))) (aSeq (aAsg (aOrV (aOp oEq (aVar 6) (aC (.int 0))) (aOp oNe (aOp oMod (aVar 6) (aC (.int 2))) (aVar 3))) (agName 8))
  (aSeq (aIfS (aTest (aOp oEq (aVar 2) (aC (.str "one")))) (aAsg (aOp oNotN (aOp oIx (aOp oIx (aVar 5) (aVar 6)) (aC (.int 0))) (aC .non)) (agName 8)) aNext)
  (aSeq (aIfS (aTest (aOp oGt (aOp oIx (aVar 7) (aC (.int 1))) (aOp oSub (aCB cLen (aCons (aVar 5) aNil)) (aVar 6)))) (aRet (aC (.bl false))) aNext)
  (aIfS (aAnd (aTest (aVar 8)) (aAnd (aTest (aOp oNotN (aOp oIx (aVar 7) (aC (.int 0))) (aC .non))) (aOr (aTest (aOp oIsN (aOp oIx (aOp oIx (aVar 5) (aVar 6)) (aC (.int 0))) (aC .non))) (aNot (aTest (aOp oLt (aOp oIx (aOp oIx (aVar 5) (aVar 6)) (aC (.int 0))) (aOp oIx (aVar 7) (aC (.int 0))))))))) (aRet (aC (.bl false))) aNext)))))
  (aRet (aC (.bl true)))))
def a_law_truth : ATS :=
  (aRet (aAndV (aCB (cIs "bool" isBoolB) (aCons (aVar 0) (aCons (aC (.ty "bool")) aNil))) (aOp oEq (aVar 0) (aVar 1))))
end LS
set_option Elab.async false
set_option linter.all false
set_option maxRecDepth 100000
set_option maxHeartbeats 4000000
namespace LS
open PySem PySem.Spec PyProof.Rows L2 LA
/-! ### the evaluator -/
theorem nat0 : ((0 : Nat) : Int) = 0 := rfl
theorem nat1 : ((1 : Nat) : Int) = 1 := rfl
theorem nat2 : ((2 : Nat) : Int) = 2 := rfl
theorem nat3 : ((3 : Nat) : Int) = 3 := rfl
theorem oEq_ii {i j : Int} {G : AH} {Q : AQ} : oEq (.int i) (.int j) G Q = Q (.bl (decide (i = j))) G := rfl
theorem oEq_bb {i j : Bool} {G : AH} {Q : AQ} : oEq (.bl i) (.bl j) G Q = Q (.bl (decide (i = j))) G := rfl
theorem oNe_ii {i j : Int} {G : AH} {Q : AQ} : oNe (.int i) (.int j) G Q = Q (.bl (!decide (i = j))) G := rfl
theorem oNe_bb {i j : Bool} {G : AH} {Q : AQ} : oNe (.bl i) (.bl j) G Q = Q (.bl (!decide (i = j))) G := rfl
theorem oEq_one {k : Bool} {G : AH} {Q : AQ} : oEq (kindV k) (.str "one") G Q = Q (.bl k) G := by
  cases k <;> rfl
theorem oEq_two {k : Bool} {G : AH} {Q : AQ} : oEq (kindV k) (.str "two") G Q = Q (.bl (!k)) G := by
  cases k <;> rfl
theorem oIx_tup {xs : List AV} {i : Int} {G : AH} {Q : AQ} : oIx (.tup xs) (.int i) G Q = ∃ v, atI xs i = some v ∧ Q v G := rfl
theorem oIx_ref {p : Addr} {i : Int} {G : AH} {Q : AQ} : oIx (.ref p) (.int i) G Q = ∃ xs v, G p = some xs ∧ atI xs i = some v ∧ Q v G := rfl
theorem oIx_cell {c : Cell} {i : Int} {G : AH} {Q : AQ} : oIx (cellV c) (.int i) G Q = ∃ v, atI [optV c.1, optV c.2] i = some v ∧ Q v G := rfl
theorem oIx_cells {cs : List Cell} {i : Int} {G : AH} {Q : AQ} : oIx (cellsV cs) (.int i) G Q = ∃ v, atI (cs.map cellV) i = some v ∧ Q v G := rfl
theorem oIx_th {t : Th} {i : Int} {G : AH} {Q : AQ} : oIx (thV t) (.int i) G Q = ∃ v, atI [.int t.1, .int t.2] i = some v ∧ Q v G := rfl
theorem oIx_stand {s : Stand} {i : Int} {G : AH} {Q : AQ} : oIx (standV s) (.int i) G Q = ∃ v, atI [kindV s.one, .int s.turn, .int s.came, cellsV s.cells] i = some v ∧ Q v G := rfl
theorem oIx_ent {e : Entry} {i : Int} {G : AH} {Q : AQ} : oIx (entV e) (.int i) G Q = ∃ v, atI [optV e.1, .int (e.2 : Int)] i = some v ∧ Q v G := rfl
theorem oLt_ii {i j : Int} {G : AH} {Q : AQ} : oLt (.int i) (.int j) G Q = Q (.bl (decide (i < j))) G := rfl
theorem oLt_th {t u : Th} {G : AH} {Q : AQ} : oLt (thV t) (thV u) G Q = Q (.bl (tlt t u)) G := rfl
theorem oLe_ii {i j : Int} {G : AH} {Q : AQ} : oLe (.int i) (.int j) G Q = Q (.bl (decide (i ≤ j))) G := rfl
theorem oGt_ii {i j : Int} {G : AH} {Q : AQ} : oGt (.int i) (.int j) G Q = Q (.bl (decide (j < i))) G := rfl
theorem oGe_ii {i j : Int} {G : AH} {Q : AQ} : oGe (.int i) (.int j) G Q = Q (.bl (decide (j ≤ i))) G := rfl
theorem oAdd_ii {i j : Int} {G : AH} {Q : AQ} : oAdd (.int i) (.int j) G Q = Q (.int (i + j)) G := rfl
theorem oSub_ii {i j : Int} {G : AH} {Q : AQ} : oSub (.int i) (.int j) G Q = Q (.int (i - j)) G := rfl
theorem oMod_ii {i j : Int} {G : AH} {Q : AQ} : oMod (.int i) (.int j) G Q = (0 < j ∧ Q (.int (i % j)) G) := rfl
theorem oFdiv_ii {i j : Int} {G : AH} {Q : AQ} : oFdiv (.int i) (.int j) G Q = (CDiv i j ∧ Q (.int (i / j)) G) := rfl
theorem oPow_ii {i j : Int} {G : AH} {Q : AQ} : oPow (.int i) (.int j) G Q = (CPow i j ∧ Q (.int (i ^ j.toNat)) G) := rfl
theorem oMul_ii {i j : Int} {G : AH} {Q : AQ} : oMulA (.int i) (.int j) G Q = (CMul i j ∧ Q (.int (i * j)) G) := rfl
theorem isN_non {G : AH} {Q : AQ} : oIsN .non .non G Q = Q (.bl true) G := by simp [oIsN, isNon]
theorem isN_opt {o : Option Th} {G : AH} {Q : AQ} : oIsN (optV o) .non G Q = Q (.bl o.isNone) G := by
  cases o <;> simp [oIsN, isNon, optV, thV]
theorem notN_opt {o : Option Th} {G : AH} {Q : AQ} : oNotN (optV o) .non G Q = Q (.bl o.isSome) G := by
  cases o <;> simp [oNotN, isNon, optV, thV]
theorem isN_th {t : Th} {G : AH} {Q : AQ} : oIsN (thV t) .non G Q = Q (.bl false) G := by simp [oIsN, isNon, thV]
theorem notN_th {t : Th} {G : AH} {Q : AQ} : oNotN (thV t) .non G Q = Q (.bl true) G := by simp [oNotN, isNon, thV]
theorem cLen_tup {xs : List AV} {G : AH} {Q : AQ} : cLen [.tup xs] G Q = Q (.int (xs.length : Int)) G := rfl
theorem cLen_ref {p : Addr} {G : AH} {Q : AQ} : cLen [.ref p] G Q = ∃ ys, G p = some ys ∧ Q (.int (ys.length : Int)) G := rfl
theorem cLen_cells {cs : List Cell} {G : AH} {Q : AQ} : cLen [cellsV cs] G Q = Q (.int (cs.length : Int)) G := by
  show Q (.int ((cs.map cellV).length : Int)) G = _
  rw [List.length_map]
theorem cLen_ths {cs : List Th} {G : AH} {Q : AQ} : cLen [thsV cs] G Q = Q (.int (cs.length : Int)) G := by
  show Q (.int ((cs.map thV).length : Int)) G = _
  rw [List.length_map]
theorem cTuple_ref {p : Addr} {G : AH} {Q : AQ} : cTuple [.ref p] G Q = ∃ ys, G p = some ys ∧ Q (.tup ys) G := rfl
theorem cInt_bl {b : Bool} {G : AH} {Q : AQ} : cInt [.bl b] G Q = Q (.int (if b then 1 else 0)) G := rfl
theorem blx {b : Bool} {P : Bool → Prop} : (∃ c, AV.bl b = AV.bl c ∧ P c) = P b := by
  apply propext
  constructor
  · rintro ⟨c, e, h⟩
    injection e with e
    subst e; exact h
  · intro h
    exact ⟨b, rfl, h⟩
theorem intx {b : Int} {P : Int → Prop} : (∃ c, AV.int b = AV.int c ∧ P c) = P b := by
  apply propext
  constructor
  · rintro ⟨c, e, h⟩
    injection e with e
    subst e; exact h
  · intro h
    exact ⟨b, rfl, h⟩
theorem tupx {b : List AV} {P : List AV → Prop} : (∃ c, AV.tup b = AV.tup c ∧ P c) = P b := by
  apply propext
  constructor
  · rintro ⟨c, e, h⟩
    injection e with e
    subst e; exact h
  · intro h
    exact ⟨b, rfl, h⟩
theorem somex {α : Type} {b : α} {P : α → Prop} : (∃ c, some b = some c ∧ P c) = P b := by
  apply propext
  constructor
  · rintro ⟨c, e, h⟩
    cases e; exact h
  · intro h
    exact ⟨b, rfl, h⟩
theorem somexx {α : Type} {b : α} {P : α → Prop} : (∃ c, some (some b) = some (some c) ∧ P c) = P b := by
  apply propext
  constructor
  · rintro ⟨c, e, h⟩
    cases e; exact h
  · intro h
    exact ⟨b, rfl, h⟩
theorem agC {x : AV} {r : List AV} {t : ATG} {us : ATGs} {S : ASt} {G : AH} {N : ASt → AH → Prop} : agCons t us (x :: r) S G N = t x S G fun S' G' => us r S' G' N := by
  apply propext
  constructor
  · rintro ⟨x', r', e, h⟩
    cases e
    exact h
  · intro h
    exact ⟨x, r, rfl, h⟩
theorem agE {S : ASt} {G : AH} {N : ASt → AH → Prop} : agNil [] S G N = N S G := by
  apply propext
  exact ⟨fun h => h.2, fun h => ⟨rfl, h⟩⟩
theorem agT_tup {n : Nat} {t : ATGs} {xs : List AV} {S : ASt} {G : AH} {N : ASt → AH → Prop} : agTup n t (.tup xs) S G N = (xs.length = n ∧ t xs S G N) := rfl
theorem agT_cell {n : Nat} {t : ATGs} {c : Cell} {S : ASt} {G : AH} {N : ASt → AH → Prop} : agTup n t (cellV c) S G N = (2 = n ∧ t [optV c.1, optV c.2] S G N) := rfl
theorem agT_ent {n : Nat} {t : ATGs} {c : Entry} {S : ASt} {G : AH} {N : ASt → AH → Prop} : agTup n t (entV c) S G N = (2 = n ∧ t [optV c.1, .int (c.2 : Int)] S G N) := rfl
theorem agT_stand {n : Nat} {t : ATGs} {c : Stand} {S : ASt} {G : AH} {N : ASt → AH → Prop} : agTup n t (standV c) S G N = (4 = n ∧ t [kindV c.one, .int c.turn, .int c.came, cellsV c.cells] S G N) := rfl
theorem agT_ref {n : Nat} {t : ATGs} {p : Addr} {S : ASt} {G : AH} {N : ASt → AH → Prop} : agTup n t (.ref p) S G N = ∃ xs, G p = some xs ∧ xs.length = n ∧ t xs S G N := rfl
theorem isI_int {i : Int} {G : AH} {Q : AQ} : cIs "int" isIntB [.int i, .ty "int"] G Q = Q (.bl true) G := by
  apply propext
  constructor
  · rintro ⟨x, b, e, h, q⟩
    cases e; cases h; exact q
  · intro h
    exact ⟨_, _, rfl, rfl, h⟩
theorem isB_int {i : Int} {G : AH} {Q : AQ} : cIs "bool" isBoolB [.int i, .ty "bool"] G Q = Q (.bl false) G := by
  apply propext
  constructor
  · rintro ⟨x, b, e, h, q⟩
    cases e; cases h; exact q
  · intro h
    exact ⟨_, _, rfl, rfl, h⟩
theorem isB_bl {i : Bool} {G : AH} {Q : AQ} : cIs "bool" isBoolB [.bl i, .ty "bool"] G Q = Q (.bl true) G := by
  apply propext
  constructor
  · rintro ⟨x, b, e, h, q⟩
    cases e; cases h; exact q
  · intro h
    exact ⟨_, _, rfl, rfl, h⟩
theorem isT_tup {xs : List AV} {G : AH} {Q : AQ} : cIs "tuple" isTupB [.tup xs, .ty "tuple"] G Q = Q (.bl true) G := by
  apply propext
  constructor
  · rintro ⟨x, b, e, h, q⟩
    cases e; cases h; exact q
  · intro h
    exact ⟨_, _, rfl, rfl, h⟩
theorem isT_non {G : AH} {Q : AQ} : cIs "tuple" isTupB [.non, .ty "tuple"] G Q = Q (.bl false) G := by
  apply propext
  constructor
  · rintro ⟨x, b, e, h, q⟩
    cases e; cases h; exact q
  · intro h
    exact ⟨_, _, rfl, rfl, h⟩
theorem isT_int {i : Int} {G : AH} {Q : AQ} : cIs "tuple" isTupB [.int i, .ty "tuple"] G Q = Q (.bl false) G := by
  apply propext
  constructor
  · rintro ⟨x, b, e, h, q⟩
    cases e; cases h; exact q
  · intro h
    exact ⟨_, _, rfl, rfl, h⟩
theorem isS_int {i : Int} {G : AH} {Q : AQ} : cIs "str" isStrB [.int i, .ty "str"] G Q = Q (.bl false) G := by
  apply propext
  constructor
  · rintro ⟨x, b, e, h, q⟩
    cases e; cases h; exact q
  · intro h
    exact ⟨_, _, rfl, rfl, h⟩
theorem ite_tt {p q : Prop} : (if true = true then p else q) = p := if_pos rfl
theorem ite_ff {p q : Prop} : (if false = true then p else q) = q := if_neg Bool.false_ne_true
theorem ite_not {b : Bool} {p q : Prop} : (if (!b) = true then p else q) = (if b = true then q else p) := by
  cases b <;> rfl
theorem ite_dec {P : Prop} [Decidable P] {p q : Prop} : (if decide P = true then p else q) = (if P then p else q) := by
  by_cases h : P <;> simp [h]
end LS
set_option Elab.async false
set_option linter.all false
set_option maxRecDepth 100000
set_option maxHeartbeats 4000000
namespace LS
open PySem PySem.Spec PyProof.Rows L2 LA
local macro_rules | `(tactic| walk_at "la") => `(tactic| try simp only [aSeq, aIfS, aTest, aOp, aVar, aC, aRet, aNext, aDropS, aAsg, aAnd, aOr, aNot, aAndV, aOrV, aNotV, aChain, aCons, aNil, aCall, aCB, aTup, aPart, aNoP, agName, agC, agE, agT_tup, agT_cell, agT_ent, agT_stand, aEnds, astart,
  List.map_cons, List.map_nil, List.length_cons, List.length_nil, List.cons_append, List.nil_append, List.getElem?_cons_zero, List.getElem?_cons_succ, List.set_cons_zero, List.set_cons_succ, List.replicate_succ, List.replicate_zero, Nat.reduceAdd, Nat.reduceSub, Nat.reduceLeDiff, somex, somexx, blx, intx, tupx,
  at0, at1, at2, at3, oEq_ii, oEq_bb, oNe_ii, oNe_bb, oEq_one, oEq_two, oIx_tup, oIx_cell, oIx_cells, oIx_th, oIx_stand, oIx_ent, oLt_ii, oLt_th, oLe_ii, oGt_ii, oGe_ii, oAdd_ii, oSub_ii, isN_non, isN_opt, notN_opt, isN_th, notN_th, cLen_tup, cLen_cells, cLen_ths, cInt_bl,
  isI_int, isB_int, isB_bl, isT_tup, isT_non, isT_int, isS_int, ite_tt, ite_ff, ite_not, ite_dec, Bool.not_true, Bool.not_false, nat0, nat1, nat2, nat3, true_and, ↓reduceIte, Option.isNone_none, Option.isNone_some, Option.isSome_none, Option.isSome_some])

theorem len_is_number : ∀ xs G Q, sp_is_number xs G Q → xs.length = 2 := fun _ _ _ ⟨_, _, e, _⟩ => by rw [e]; rfl
theorem r_is_number : ∀ xs G Q, sp_is_number xs G Q → a_is_number (aEnds Q) (astart 2 xs) G := by
  rintro xs G Q ⟨i, m, rfl, q⟩
  have q := drop_same q
  unfold a_is_number
  walk_at "la"
  split <;> simp_all
theorem i_is_number {i m : Int} {G : AH} {Q : AQ} (h : Q (.bl (decide (0 ≤ i) && decide (i ≤ m))) G) : sp_is_number [.int i, .int m] G Q := ⟨i, m, rfl, h⟩
theorem len_is_thing : ∀ xs G Q, sp_is_thing xs G Q → xs.length = 1 := fun _ _ _ ⟨_, e, _⟩ => by rw [e]; rfl
theorem r_is_thing : ∀ xs G Q, sp_is_thing xs G Q → a_is_thing (aEnds Q) (astart 1 xs) G := by
  rintro xs G Q ⟨t, rfl, q⟩
  have q := drop_same q
  unfold a_is_thing thV
  walk_at "la"
  apply i_is_number
  walk_at "la"
  split
  · rename_i h
    apply i_is_number
    simpa [goodT, h] using q
  · rename_i h
    have e : goodT t = false := by simp [goodT, h]
    rw [← e]; exact q
theorem i_comes_before {t u : Th} {G : AH} {Q : AQ} (h : Q (.bl (tlt t u)) G) : sp_comes_before [thV t, thV u] G Q := ⟨t, u, rfl, h⟩
theorem len_comes_before : ∀ xs G Q, sp_comes_before xs G Q → xs.length = 2 := fun _ _ _ ⟨_, _, e, _⟩ => by rw [e]; rfl
theorem r_comes_before : ∀ xs G Q, sp_comes_before xs G Q → a_comes_before (aEnds Q) (astart 2 xs) G := by
  rintro xs G Q ⟨t, u, rfl, q⟩
  have q := drop_same q
  unfold a_comes_before
  walk_at "la"
  split <;> simp_all [tlt]
/-! ### loops -/
/-- for x in t: t a tuple that is already there -/
theorem for_tup {α : Type} (f : α → AV) (ys : List α) (I : List α → List α → ASt → AH → Prop) {aa : AT} {g : ATG} {sb : ATS} {D : AEnds} {S : ASt} {G : AH}
    (he : ∀ Q : AQ, Q (.tup (ys.map f)) G → aa S G Q) (h0 : I [] ys S G)
    (st : ∀ d y r S G, d ++ y :: r = ys → I d (y :: r) S G → g (f y) S G fun S2 G2 => sb { D with nx := I (d ++ [y]) r, ct := I (d ++ [y]) r, bk := D.nx } S2 G2)
    (fin : ∀ S G, I ys [] S G → D.nx S G) : aFor (aiSeq aa) g sb D S G := by
  apply he
  refine ⟨fun i S G => I (ys.take i) (ys.drop i) S G, ?_, fun _ _ _ _ _ => trivial, fun i x S G hx h => ?_, fun S G h => ?_⟩
  · simpa using h0
  · rw [List.getElem?_map] at hx
    cases e : ys[i]? with
    | none => rw [e] at hx; cases hx
    | some y =>
      rw [e] at hx
      cases hx
      have hi := (List.getElem?_eq_some_iff.mp e).1
      have hd : ys.drop i = y :: ys.drop (i + 1) := by
        rw [List.drop_eq_getElem_cons hi, (List.getElem?_eq_some_iff.mp e).2]
      have ht : ys.take (i + 1) = ys.take i ++ [y] := by
        rw [List.take_succ, e]; rfl
      have h : I (ys.take i) (ys.drop i) S G := h
      rw [hd] at h
      have := st (ys.take i) y (ys.drop (i + 1)) S G (by rw [← hd, List.take_append_drop]) h
      rw [← ht] at this
      exact this
  · rw [List.length_map, List.take_length, List.drop_length] at h
    exact fin S G h
/-- for x in xs: a list that is kept -/
theorem for_lst {α : Type} (f : α → AV) (ys : List α) (p : Addr) (I : List α → List α → ASt → AH → Prop) {aa : AT} {g : ATG} {sb : ATS} {D : AEnds} {S : ASt} {G : AH}
    (he : ∀ Q : AQ, Q (.ref p) G → aa S G Q) (hp : ∀ d r S G, I d r S G → G p = some (ys.map f)) (h0 : I [] ys S G)
    (st : ∀ d y r S G, d ++ y :: r = ys → I d (y :: r) S G → g (f y) S G fun S2 G2 => sb { D with nx := I (d ++ [y]) r, ct := I (d ++ [y]) r, bk := D.nx } S2 G2)
    (fin : ∀ S G, I ys [] S G → D.nx S G) : aFor (aiSeq aa) g sb D S G := by
  apply he
  refine ⟨ys.map f, hp _ _ _ _ h0, fun i S G => I (ys.take i) (ys.drop i) S G, ?_, fun _ _ _ _ h => hp _ _ _ _ h, fun i x S G hx h => ?_, fun S G h => ?_⟩
  · simpa using h0
  · rw [List.getElem?_map] at hx
    cases e : ys[i]? with
    | none => rw [e] at hx; cases hx
    | some y =>
      rw [e] at hx
      cases hx
      have hi := (List.getElem?_eq_some_iff.mp e).1
      have hd : ys.drop i = y :: ys.drop (i + 1) := by
        rw [List.drop_eq_getElem_cons hi, (List.getElem?_eq_some_iff.mp e).2]
      have ht : ys.take (i + 1) = ys.take i ++ [y] := by
        rw [List.take_succ, e]; rfl
      have h : I (ys.take i) (ys.drop i) S G := h
      rw [hd] at h
      have := st (ys.take i) y (ys.drop (i + 1)) S G (by rw [← hd, List.take_append_drop]) h
      rw [← ht] at this
      exact this
  · rw [List.length_map, List.take_length, List.drop_length] at h
    exact fin S G h
/-- for i in range(n) -/
theorem for_rng (n : Nat) (I : Nat → ASt → AH → Prop) {la : ATA} {g : ATG} {sb : ATS} {D : AEnds} {S : ASt} {G : AH}
    (he : ∀ R : List AV → AH → Prop, R [.int (n : Int)] G → la S G R) (hn : n ≤ 100000) (h0 : I 0 S G)
    (st : ∀ i S G, i < n → I i S G → g (.int (i : Int)) S G fun S2 G2 => sb { D with nx := I (i + 1), ct := I (i + 1), bk := D.nx } S2 G2)
    (fin : ∀ S G, I n S G → D.nx S G) : aFor (aiRng1 la) g sb D S G := by
  apply he
  refine ⟨n, rfl, hn, I, h0, fun _ _ _ _ _ => trivial, fun i x S G hx h => ?_, fun S G h => ?_⟩
  · obtain ⟨hi, rfl⟩ := rgA_of hx
    rw [Int.zero_add]
    exact st i S G hi h
  · rw [rgA_length] at h
    exact fin S G h
/-- for i, x in enumerate(t) -/
theorem for_enum {α : Type} (f : α → AV) (ys : List α) (I : List α → List α → ASt → AH → Prop) {la : ATA} {g : ATG} {sb : ATS} {D : AEnds} {S : ASt} {G : AH}
    (he : ∀ R : List AV → AH → Prop, R [.tup (ys.map f)] G → la S G R) (h0 : I [] ys S G)
    (st : ∀ d y r S G, d ++ y :: r = ys → I d (y :: r) S G → g (.tup [.int (d.length : Int), f y]) S G fun S2 G2 => sb { D with nx := I (d ++ [y]) r, ct := I (d ++ [y]) r, bk := D.nx } S2 G2)
    (fin : ∀ S G, I ys [] S G → D.nx S G) : aFor (aiEnum la) g sb D S G := by
  apply he
  refine ⟨ys.map f, rfl, fun i S G => I (ys.take i) (ys.drop i) S G, ?_, fun _ _ _ _ _ => trivial, fun i x S G hx h => ?_, fun S G h => ?_⟩
  · simpa using h0
  · obtain ⟨z, hz, rfl⟩ := enumA_of hx
    rw [List.getElem?_map] at hz
    cases e : ys[i]? with
    | none => rw [e] at hz; cases hz
    | some y =>
      rw [e] at hz
      cases hz
      have hi := (List.getElem?_eq_some_iff.mp e).1
      have hd : ys.drop i = y :: ys.drop (i + 1) := by
        rw [List.drop_eq_getElem_cons hi, (List.getElem?_eq_some_iff.mp e).2]
      have ht : ys.take (i + 1) = ys.take i ++ [y] := by
        rw [List.take_succ, e]; rfl
      have h : I (ys.take i) (ys.drop i) S G := h
      rw [hd] at h
      have := st (ys.take i) y (ys.drop (i + 1)) S G (by rw [← hd, List.take_append_drop]) h
      rw [← ht, List.length_take, Nat.min_eq_left (Nat.le_of_lt hi)] at this
      exact this
  · rw [enumA_length, List.length_map, List.take_length, List.drop_length] at h
    exact fin S G h
/-- [e(x) for x in t if c(x)]: nothing but the new list changes -/
theorem lc_tup {aa : AT} {j : Nat} {ta : ATT} {ae : AT} {S : ASt} {G : AH} {Q : AQ} (xs : List AV) (k : AV → Bool) (o : AV → AV)
    (he : ∀ Q : AQ, Q (.tup xs) G → aa S G Q) (ht : ∀ x ∈ xs, ∀ (G' : AH) R, R (k x) G' → ta (S.set j (some x)) G' R) (ho : ∀ x ∈ xs, k x = true → ∀ (G' : AH) R, R (o x) G' → ae (S.set j (some x)) G' R)
    (hl : xs.length ≤ 90000) (q : ∀ p, G p = none → Q (.ref p) (aupd G p ((xs.filter k).map o))) : aLc (aiSeq aa) (stN j) ta ae S G Q := by
  apply he
  intro p hp
  refine ⟨fun i G' => G' = aupd G p (((xs.take i).filter k).map o), rfl, fun _ _ _ _ => trivial, fun i x G' hx e => ?_, fun G' e => ?_⟩
  · subst e
    have hm := List.mem_of_getElem? hx
    have ht' : xs.take (i + 1) = xs.take i ++ [x] := by rw [List.take_succ, hx]; rfl
    apply ht x hm
    dsimp only
    rw [ht', List.filter_append, List.map_append]
    cases hk : k x with
    | true =>
      apply ho x hm hk
      refine ⟨_, aupd_same, ?_, ?_⟩
      · have := List.length_filter_le k (xs.take i)
        rw [List.length_map]
        have h2 := List.length_take_le' i xs
        omega
      · rw [aupd_aupd]
        simp [List.filter_cons, hk]
    | false =>
      simp [List.filter_cons, hk]
  · subst e
    rw [List.take_length]
    exact q p hp
/-- .. of a list -/
theorem lc_lst {aa : AT} {j : Nat} {ta : ATT} {ae : AT} {S : ASt} {G : AH} {Q : AQ} (xs : List AV) (k : AV → Bool) (o : AV → AV) (l : Addr) (hp : G l = some xs)
    (he : ∀ Q : AQ, Q (.ref l) G → aa S G Q) (ht : ∀ x ∈ xs, ∀ (G' : AH) R, R (k x) G' → ta (S.set j (some x)) G' R) (ho : ∀ x ∈ xs, k x = true → ∀ (G' : AH) R, R (o x) G' → ae (S.set j (some x)) G' R)
    (hl : xs.length ≤ 90000) (q : ∀ p, G p = none → Q (.ref p) (aupd G p ((xs.filter k).map o))) : aLc (aiSeq aa) (stN j) ta ae S G Q := by
  apply he
  refine ⟨xs, hp, fun p hp' => ?_⟩
  refine ⟨fun i G' => G' = aupd G p (((xs.take i).filter k).map o), rfl, fun _ G' _ e => ?_, fun i x G' hx e => ?_, fun G' e => ?_⟩
  · have e : G' = aupd G p _ := e
    show G' l = some xs
    rw [e, aupd_ne (ane_of_none hp hp')]; exact hp
  · subst e
    have hm := List.mem_of_getElem? hx
    have ht' : xs.take (i + 1) = xs.take i ++ [x] := by rw [List.take_succ, hx]; rfl
    apply ht x hm
    dsimp only
    rw [ht', List.filter_append, List.map_append]
    cases hk : k x with
    | true =>
      apply ho x hm hk
      refine ⟨_, aupd_same, ?_, ?_⟩
      · have := List.length_filter_le k (xs.take i)
        rw [List.length_map]
        have h2 := List.length_take_le' i xs
        omega
      · rw [aupd_aupd]
        simp [List.filter_cons, hk]
    | false =>
      simp [List.filter_cons, hk]
  · subst e
    rw [List.take_length]
    exact q p hp'
/-- range comprehension -/
theorem lc_rng {la : ATA} {j : Nat} {ta : ATT} {ae : AT} {S : ASt} {G : AH} {Q : AQ} (n : Nat) (hn : n ≤ 90000) (k : Nat → Bool) (o : Nat → AV)
    (he : ∀ R : List AV → AH → Prop, R [.int (n : Int)] G → la S G R) (ht : ∀ i, i < n → ∀ (G' : AH) R, Sub G G' → R (k i) G' → ta (S.set j (some (.int (i : Int)))) G' R) (ho : ∀ i, i < n → k i = true → ∀ (G' : AH) R, Sub G G' → R (o i) G' → ae (S.set j (some (.int (i : Int)))) G' R)
    (q : ∀ p, G p = none → Q (.ref p) (aupd G p (((List.range n).filter k).map o))) : aLc (aiRng1 la) (stN j) ta ae S G Q := by
  apply he
  refine ⟨n, rfl, by omega, fun p hp' => ?_⟩
  refine ⟨fun i G' => G' = aupd G p (((List.range i).filter k).map o), rfl, fun _ G' _ e => trivial, fun i x G' hx e => ?_, fun G' e => ?_⟩
  · subst e
    obtain ⟨hi, rfl⟩ := rgA_of hx
    rw [Int.zero_add]
    apply ht i hi _ _ (Sub.new hp')
    dsimp only
    rw [List.range_succ, List.filter_append, List.map_append]
    cases hk : k i with
    | true =>
      apply ho i hi hk _ _ (Sub.new hp')
      refine ⟨_, aupd_same, ?_, ?_⟩
      · have := List.length_filter_le k (List.range i)
        rw [List.length_map]
        rw [List.length_range] at this
        omega
      · rw [aupd_aupd]
        simp [List.filter_cons, hk]
    | false =>
      simp [List.filter_cons, hk]
  · subst e
    rw [rgA_length]
    exact q p hp'

/-! ### the program's own defs -/
theorem minO_snoc (l : List Th) (t : Th) : minO (l ++ [t]) = some (match minO l with | none => t | some m => if tlt t m then t else m) := by
  cases l with
  | nil => rfl
  | cons a l =>
    show some (minT a (l ++ [t])) = some (if tlt t (minT a l) then t else minT a l)
    unfold minT
    rw [List.foldl_append]
    rfl
theorem len_first_of : ∀ xs G Q, sp_first_of xs G Q → xs.length = 1 := fun _ _ _ ⟨_, e, _⟩ => by rw [e]; rfl
theorem r_first_of : ∀ xs G Q, sp_first_of xs G Q → a_first_of (aEnds Q) (astart 3 xs) G := by
  rintro xs G Q ⟨ts, rfl, q⟩
  have q := drop_same q
  unfold a_first_of
  walk_at "la"
  refine for_tup thV ts (fun d r S G' => G' = G ∧ ∃ l, S = [some (thsV ts), some (optV (minO d)), l]) (fun R q => ?_) ⟨rfl, none, rfl⟩ (fun d y r S G' e h => ?_) (fun S G' h => ?_)
  · walk_at "la"
    exact q
  · obtain ⟨rfl, l, rfl⟩ := h
    walk_at "la"
    cases hm : minO d with
    | none =>
      walk_at "la"
      exact ⟨_, by rw [minO_snoc, hm]; rfl⟩
    | some m =>
      walk_at "la"
      apply i_comes_before
      walk_at "la"
      split
      · rename_i c
        exact ⟨some (thV y), by rw [minO_snoc, hm]; simp [c, optV]⟩
      · rename_i c
        exact ⟨some (thV y), by rw [minO_snoc, hm]; simp [c, optV]⟩
  · obtain ⟨rfl, l, rfl⟩ := h
    walk_at "la"
    exact q
end LS
set_option Elab.async false
set_option linter.all false
set_option maxRecDepth 100000
set_option maxHeartbeats 4000000
namespace LS
open PySem PySem.Spec PyProof.Rows L2 LA
local macro_rules | `(tactic| walk_at "la") => `(tactic| simp only [aSeq, aIfS, aTest, aOp, aVar, aC, aRet, aNext, aDropS, aAsg, aAnd, aOr, aNot, aAndV, aOrV, aNotV, aChain, aCons, aNil, aCall, aCB, aTup, aPart, aNoP, agName, agC, agE, agT_tup, agT_cell, agT_ent, agT_stand, aEnds, astart,
  List.map_cons, List.map_nil, List.length_cons, List.length_nil, List.cons_append, List.nil_append, List.getElem?_cons_zero, List.getElem?_cons_succ, List.set_cons_zero, List.set_cons_succ, List.replicate_succ, List.replicate_zero, Nat.reduceAdd, Nat.reduceSub, Nat.reduceLeDiff, somex, somexx, blx, intx, tupx,
  at0, at1, at2, at3, oEq_ii, oEq_bb, oNe_ii, oNe_bb, oEq_one, oEq_two, oIx_tup, oIx_cell, oIx_cells, oIx_th, oIx_stand, oIx_ent, oLt_ii, oLt_th, oLe_ii, oGt_ii, oGe_ii, oAdd_ii, oSub_ii, isN_non, isN_opt, notN_opt, isN_th, notN_th, cLen_tup, cLen_cells, cLen_ths, cInt_bl,
  isI_int, isB_int, isB_bl, isT_tup, isT_non, isT_int, isS_int, ite_tt, ite_ff, ite_not, ite_dec, Bool.not_true, Bool.not_false, nat0, nat1, nat2, nat3, true_and, ↓reduceIte, Option.isNone_none, Option.isNone_some, Option.isSome_none, Option.isSome_some])
/-! ### places, cuts -/
theorem at_pre {α : Type} (f : α → AV) (pre : List α) (c : α) (rest : List α) : atI ((pre ++ c :: rest).map f) (pre.length : Int) = some (f c) :=
  atI_nat (by rw [List.map_append, List.getElem?_append_right (by rw [List.length_map]; exact Nat.le_refl _), List.length_map, Nat.sub_self]; rfl)
theorem at_pre1 {α : Type} (f : α → AV) (pre : List α) (c d : α) (rest : List α) : atI ((pre ++ c :: d :: rest).map f) ((pre.length : Int) + 1) = some (f d) := by
  have h := at_pre f (pre ++ [c]) d rest
  rw [List.append_assoc, List.length_append] at h
  exact h
theorem at_one {α : Type} (f : α → AV) (c d : α) (rest : List α) : atI ((c :: d :: rest).map f) 1 = some (f d) := at1
theorem at_zero {α : Type} (f : α → AV) (c : α) (rest : List α) : atI ((c :: rest).map f) 0 = some (f c) := at0
theorem acut_pre {α : Type} (f : α → AV) (pre suf : List α) : acut ((pre ++ suf).map f) (some (pre.length : Int)) none = suf.map f := by
  unfold acut
  rw [HT.sIx_none, HT.sIx_nat, List.map_append, List.length_append, List.length_map, List.length_map, Nat.min_eq_left (by omega)]
  have e : (pre.map f ++ suf.map f).drop pre.length = suf.map f := by
    have := List.drop_left (l₁ := pre.map f) (l₂ := suf.map f)
    rwa [List.length_map] at this
  rw [e, List.take_of_length_le (by rw [List.length_map]; omega)]
theorem acut_pre1 {α : Type} (f : α → AV) (pre : List α) (c : α) (suf : List α) : acut ((pre ++ c :: suf).map f) (some ((pre.length : Int) + 1)) none = suf.map f := by
  have h := acut_pre f (pre ++ [c]) suf
  rw [List.append_assoc, List.length_append] at h
  exact h
theorem acut_0 {α : Type} (f : α → AV) (c : α) (suf : List α) : acut ((c :: suf).map f) (some 1) none = suf.map f := acut_pre1 f [] c suf
theorem acut_head {α : Type} (xs : List α) (n : Nat) : acut xs none (some (n : Int)) = xs.take n := by
  unfold acut
  rw [HT.sIx_none, HT.sIx_nat, List.drop_zero, Nat.sub_zero]
  by_cases h : n ≤ xs.length
  · rw [Nat.min_eq_left h]
  · rw [Nat.min_eq_right (by omega), List.take_of_length_le (Nat.le_refl _), List.take_of_length_le (by omega)]
theorem oSl_cells {cs : List Cell} {lo hi : Option Int} {G : AH} {Q : AQ} : oSl (cellsV cs) lo hi G Q = Q (.tup (acut (cs.map cellV) lo hi)) G := rfl
theorem oSl_pre {pre suf : List Cell} {G : AH} {Q : AQ} : oSl (cellsV (pre ++ suf)) (some (pre.length : Int)) none G Q = Q (cellsV suf) G := by
  rw [oSl_cells, acut_pre]; rfl
theorem oSl_pre1 {pre suf : List Cell} {c : Cell} {G : AH} {Q : AQ} : oSl (cellsV (pre ++ c :: suf)) (some ((pre.length : Int) + 1)) none G Q = Q (cellsV suf) G := by
  rw [oSl_cells, acut_pre1]; rfl
theorem oSl_0 {suf : List Cell} {c : Cell} {G : AH} {Q : AQ} : oSl (cellsV (c :: suf)) (some 1) none G Q = Q (cellsV suf) G := by
  rw [oSl_cells, acut_0]; rfl
/-! ### == of data -/
theorem eqv_nil (ds : List PyData) : PyData.eqvAll ds [] = ds.isEmpty := by
  cases ds <;> simp [PyData.eqvAll]
theorem lay_ths : ∀ ts : List Th, PyData.canLayAll0 (ts.map thD) = true
  | [] => by simp [PyData.canLayAll0]
  | t :: ts => by
    rw [List.map_cons]
    unfold PyData.canLayAll0
    rw [lay_ths ts, lay_th t]; rfl
theorem shaped_ths (ts : List Th) : SeqAt.shaped (.tuple (ts.map thD)) = true ∧ SeqAt.shaped (.list (ts.map thD)) = true := by
  have h := depth_th ts
  constructor
  · unfold SeqAt.shaped
    rw [show PyData.canLay0 (.tuple (ts.map thD)) = PyData.canLayAll0 (ts.map thD) from by simp [PyData.canLay0], lay_ths, Bool.true_and]
    exact decide_eq_true (by rw [show PyData.depth (.tuple (ts.map thD)) = PyData.depthAll (ts.map thD) + 1 from by simp [PyData.depth]]; omega)
  · unfold SeqAt.shaped
    rw [show PyData.canLay0 (.list (ts.map thD)) = PyData.canLayAll0 (ts.map thD) from by simp [PyData.canLay0], lay_ths, Bool.true_and]
    exact decide_eq_true (by rw [show PyData.depth (.list (ts.map thD)) = PyData.depthAll (ts.map thD) + 1 from by simp [PyData.depth]]; omega)
theorem isEmpty_map {α β : Type} (f : α → β) (xs : List α) : (xs.map f).isEmpty = xs.isEmpty := by cases xs <;> rfl
theorem D_ths (ts : List Th) : (thsV ts).D = some (.tuple (ts.map thD)) := by
  unfold thsV AV.D
  rw [thV_Ds ts]
theorem eq_ths0 {ts : List Th} {G : AH} {Q : AQ} (h : Q (.bl ts.isEmpty) G) : oEq (thsV ts) (.tup []) G Q := by
  show ∃ d e, AD G (thsV ts) d ∧ AD G (.tup []) e ∧ SeqAt.shaped d = true ∧ SeqAt.shaped e = true ∧ Q (.bl (PyData.eqv d e)) G
  refine ⟨.tuple (ts.map thD), .tuple [], .inl (D_ths ts), .inl rfl, (shaped_ths ts).1, (shaped_ths []).1, ?_⟩
  rw [show PyData.eqv (.tuple (ts.map thD)) (.tuple []) = PyData.eqvAll (ts.map thD) [] from by simp [PyData.eqv], eqv_nil, isEmpty_map]
  exact h
theorem ne_ths0 {ts : List Th} {G : AH} {Q : AQ} (h : Q (.bl (!ts.isEmpty)) G) : oNe (thsV ts) (.tup []) G Q := by
  show ∃ d e, AD G (thsV ts) d ∧ AD G (.tup []) e ∧ SeqAt.shaped d = true ∧ SeqAt.shaped e = true ∧ Q (.bl (!PyData.eqv d e)) G
  refine ⟨.tuple (ts.map thD), .tuple [], .inl (D_ths ts), .inl rfl, (shaped_ths ts).1, (shaped_ths []).1, ?_⟩
  rw [show PyData.eqv (.tuple (ts.map thD)) (.tuple []) = PyData.eqvAll (ts.map thD) [] from by simp [PyData.eqv], eqv_nil, isEmpty_map]
  exact h
/-- a list of things against [] -/
theorem eq_lst0 {ts : List Th} {p q : Addr} {G : AH} {Q : AQ} (hp : G p = some (ts.map thV)) (hq : G q = some []) (h : Q (.bl ts.isEmpty) G) : oEq (.ref p) (.ref q) G Q := by
  show ∃ d e, AD G (.ref p) d ∧ AD G (.ref q) e ∧ SeqAt.shaped d = true ∧ SeqAt.shaped e = true ∧ Q (.bl (PyData.eqv d e)) G
  refine ⟨.list (ts.map thD), .list [], .inr ⟨p, _, _, rfl, hp, thV_Ds ts, rfl⟩, .inr ⟨q, _, _, rfl, hq, rfl, rfl⟩, (shaped_ths ts).2, (shaped_ths []).2, ?_⟩
  rw [show PyData.eqv (.list (ts.map thD)) (.list []) = PyData.eqvAll (ts.map thD) [] from by simp [PyData.eqv], eqv_nil, isEmpty_map]
  exact h
theorem ne_lst0 {ts : List Th} {p q : Addr} {G : AH} {Q : AQ} (hp : G p = some (ts.map thV)) (hq : G q = some []) (h : Q (.bl (!ts.isEmpty)) G) : oNe (.ref p) (.ref q) G Q := by
  show ∃ d e, AD G (.ref p) d ∧ AD G (.ref q) e ∧ SeqAt.shaped d = true ∧ SeqAt.shaped e = true ∧ Q (.bl (!PyData.eqv d e)) G
  refine ⟨.list (ts.map thD), .list [], .inr ⟨p, _, _, rfl, hp, thV_Ds ts, rfl⟩, .inr ⟨q, _, _, rfl, hq, rfl, rfl⟩, (shaped_ths ts).2, (shaped_ths []).2, ?_⟩
  rw [show PyData.eqv (.list (ts.map thD)) (.list []) = PyData.eqvAll (ts.map thD) [] from by simp [PyData.eqv], eqv_nil, isEmpty_map]
  exact h
/-! ### entries as data -/
def optD : Option Th → PyData
  | none => .none
  | some t => thD t
def entD (e : Entry) : PyData := .tuple [optD e.1, .int (e.2 : Int)]
theorem optV_D (o : Option Th) : (optV o).D = some (optD o) := by cases o <;> rfl
theorem entV_D (e : Entry) : (entV e).D = some (entD e) := by
  unfold entV entD AV.D AV.Ds
  rw [optV_D]; rfl
theorem entV_Ds : ∀ es : List Entry, AV.Ds (es.map entV) = some (es.map entD)
  | [] => rfl
  | e :: es => by
    rw [List.map_cons, List.map_cons]
    unfold AV.Ds
    rw [entV_Ds es, entV_D e]
theorem optD_eqv (a b : Option Th) : PyData.eqv (optD a) (optD b) = decide (a = b) := by
  cases a with
  | none => cases b <;> simp [optD, PyData.eqv, thD]
  | some t => cases b with
    | none => simp [optD, PyData.eqv, thD]
    | some u =>
      simp [optD, PyData.eqv, PyData.eqvAll, thD, Prod.ext_iff]
      rfl
theorem entD_eqv (a b : Entry) : PyData.eqv (entD a) (entD b) = decide (a = b) := by
  unfold entD
  rw [show PyData.eqv (.tuple [optD a.1, .int (a.2 : Int)]) (.tuple [optD b.1, .int (b.2 : Int)]) = (PyData.eqv (optD a.1) (optD b.1) && ((a.2 : Int) == (b.2 : Int) && true)) from by simp [PyData.eqv, PyData.eqvAll], optD_eqv]
  by_cases h1 : a.1 = b.1
  · by_cases h2 : a.2 = b.2
    · simp [h1, h2, Prod.ext_iff]
    · have h3 : ¬ (a.2 : Int) = (b.2 : Int) := by omega
      simp [h1, h2, h3, Prod.ext_iff]
  · simp [h1, Prod.ext_iff]
theorem entsD_eqv : ∀ a b : List Entry, PyData.eqvAll (a.map entD) (b.map entD) = decide (a = b)
  | [], [] => by simp [PyData.eqvAll]
  | [], _ :: _ => by simp [PyData.eqvAll]
  | _ :: _, [] => by simp [PyData.eqvAll]
  | x :: xs, y :: ys => by
    rw [List.map_cons, List.map_cons, PyData.eqvAll, entsD_eqv xs ys, entD_eqv]
    by_cases h : x = y <;> simp [h]
theorem lay_opt (o : Option Th) : PyData.canLay0 (optD o) = true ∧ PyData.depth (optD o) ≤ 1 := by
  cases o with
  | none => exact ⟨rfl, Nat.zero_le _⟩
  | some t => exact ⟨rfl, Nat.le_refl _⟩
theorem lay_ents : ∀ es : List Entry, PyData.canLayAll0 (es.map entD) = true ∧ PyData.depthAll (es.map entD) ≤ 2
  | [] => ⟨by simp [PyData.canLayAll0], Nat.zero_le _⟩
  | e :: es => by
    obtain ⟨h1, h2⟩ := lay_ents es
    obtain ⟨h3, h4⟩ := lay_opt e.1
    rw [List.map_cons]
    constructor
    · unfold PyData.canLayAll0
      rw [h1]
      simp [entD, PyData.canLay0, PyData.canLayAll0, h3]
    · show max (PyData.depth (entD e)) (PyData.depthAll (es.map entD)) ≤ 2
      have : PyData.depth (entD e) = max (PyData.depth (optD e.1)) (max 0 0) + 1 := by simp [entD, PyData.depth, PyData.depthAll]
      omega
theorem shaped_ents (es : List Entry) : SeqAt.shaped (.tuple (es.map entD)) = true := by
  obtain ⟨h1, h2⟩ := lay_ents es
  unfold SeqAt.shaped
  rw [show PyData.canLay0 (.tuple (es.map entD)) = PyData.canLayAll0 (es.map entD) from by simp [PyData.canLay0], h1, Bool.true_and]
  exact decide_eq_true (by rw [show PyData.depth (.tuple (es.map entD)) = PyData.depthAll (es.map entD) + 1 from by simp [PyData.depth]]; omega)
theorem eq_ents {a b : List Entry} {G : AH} {Q : AQ} (h : Q (.bl (decide (a = b))) G) : oEq (entriesV a) (entriesV b) G Q := by
  show ∃ d e, AD G (entriesV a) d ∧ AD G (entriesV b) e ∧ SeqAt.shaped d = true ∧ SeqAt.shaped e = true ∧ Q (.bl (PyData.eqv d e)) G
  have D : ∀ es : List Entry, (entriesV es).D = some (.tuple (es.map entD)) := fun es => by
    unfold entriesV AV.D
    rw [entV_Ds es]
  refine ⟨_, _, .inl (D a), .inl (D b), shaped_ents a, shaped_ents b, ?_⟩
  rw [show PyData.eqv (.tuple (a.map entD)) (.tuple (b.map entD)) = PyData.eqvAll (a.map entD) (b.map entD) from by simp [PyData.eqv], entsD_eqv]
  exact h
/-! ### rules in their working form -/
theorem aold {G : AH} {a r : Addr} {o xs : List AV} (h : G a = some o) (h' : G r = none) : aupd G r xs a = some o := by
  rw [aupd_ne (ane_of_none h h')]; exact h
theorem aoth {G : AH} {a r : Addr} {o xs : List AV} (h : G a = some o) (h' : a ≠ r) : aupd G r xs a = some o := by
  rw [aupd_ne h']; exact h
theorem mt_ref {p : Addr} {G : AH} : (∃ q xs, AV.ref p = AV.ref q ∧ G q = some xs) = (∃ xs, G p = some xs) := by
  apply propext
  constructor
  · rintro ⟨q, xs, e, h⟩
    cases e
    exact ⟨xs, h⟩
  · rintro ⟨xs, h⟩
    exact ⟨p, xs, rfl, h⟩
theorem m_append {p : Addr} {xs : List AV} {y : AV} {G : AH} {Q : AQ} (hp : G p = some xs) (hl : xs.length < 100000) (q : Q .non (aupd G p (xs ++ [y]))) : mAppend (.ref p) [y] G Q := ⟨p, xs, y, rfl, rfl, hp, hl, q⟩
theorem m_extend {p q : Addr} {xs zs : List AV} {G : AH} {Q : AQ} (hp : G p = some xs) (hq : G q = some zs) (hl : xs.length + zs.length ≤ 100000) (h : Q .non (aupd G p (xs ++ zs))) : mExtend (.ref p) [.ref q] G Q := ⟨p, q, xs, zs, rfl, rfl, hp, hq, hl, h⟩
theorem m_pop {p : Addr} {xs : List AV} {i : Nat} {y : AV} {G : AH} {Q : AQ} (hp : G p = some xs) (hl : xs.length ≤ 100000) (hi : xs[i]? = some y) (q : Q y (aupd G p (xs.eraseIdx i))) : mPopAt (.ref p) [.int (i : Int)] G Q := ⟨p, xs, i, y, rfl, rfl, hp, hl, hi, q⟩
theorem c_tuple {p : Addr} {xs : List AV} {G : AH} {Q : AQ} (hp : G p = some xs) (q : Q (.tup xs) G) : cTuple [.ref p] G Q := ⟨xs, hp, q⟩
theorem c_len {p : Addr} {xs : List AV} {G : AH} {Q : AQ} (hp : G p = some xs) (q : Q (.int (xs.length : Int)) G) : cLen [.ref p] G Q := ⟨xs, hp, q⟩
theorem ix_ref {p : Addr} {xs : List AV} {i : Int} {v : AV} {G : AH} {Q : AQ} (hp : G p = some xs) (hi : atI xs i = some v) (q : Q v G) : oIx (.ref p) (.int i) G Q := ⟨xs, v, hp, hi, q⟩
end LS
set_option Elab.async false
set_option linter.all false
set_option maxRecDepth 100000
set_option maxHeartbeats 4000000
namespace LS
open PySem PySem.Spec PyProof.Rows L2 LA
local macro_rules | `(tactic| walk_at "la") => `(tactic| try simp only [aSeq, aIfS, aTest, aOp, aVar, aC, aRet, aNext, aDropS, aAsg, aAnd, aOr, aNot, aAndV, aOrV, aNotV, aChain, aCons, aNil, aCall, aCB, aTup, aLst, aMt, mt_ref, aSl, oSl_pre, oSl_pre1, oSl_0, aPart, aNoP, agName, agC, agE, agT_tup, agT_cell, agT_ent, agT_stand, aEnds, astart,
  List.map_cons, List.map_nil, List.length_cons, List.length_nil, List.cons_append, List.nil_append, List.getElem?_cons_zero, List.getElem?_cons_succ, List.set_cons_zero, List.set_cons_succ, List.replicate_succ, List.replicate_zero, Nat.reduceAdd, Nat.reduceSub, Nat.reduceLeDiff, Nat.zero_le, somex, somexx, blx, intx, tupx,
  at0, at1, at2, at3, oEq_ii, oEq_bb, oNe_ii, oNe_bb, oEq_one, oEq_two, oIx_tup, oIx_cell, oIx_cells, oIx_th, oIx_stand, oIx_ent, oLt_ii, oLt_th, oLe_ii, oGt_ii, oGe_ii, oAdd_ii, oSub_ii, oMod_ii, Int.reduceLT, Int.reduceLE, isN_non, isN_opt, notN_opt, isN_th, notN_th, cLen_tup, cLen_cells, cLen_ths, cInt_bl,
  isI_int, isB_int, isB_bl, isT_tup, isT_non, isT_int, isS_int, ite_tt, ite_ff, ite_not, ite_dec, Bool.not_true, Bool.not_false, nat0, nat1, nat2, nat3, true_and, ↓reduceIte, Option.isNone_none, Option.isNone_some, Option.isSome_none, Option.isSome_some, List.isEmpty_nil])
theorem filt_opts (os : List (Option Th)) : (os.map optV).filter (fun x => !isNon x) = (os.filterMap id).map thV := by
  induction os with
  | nil => rfl
  | cons o os ih =>
    cases o with
    | none => simpa [optV, isNon] using ih
    | some t => simpa [optV, isNon, thV] using ih
/-- [x for x in xs if x is not None] -/
theorem lc_opts {aa : AT} {j : Nat} {S : ASt} {G : AH} {Q : AQ} (os : List (Option Th)) (hj : j < S.length) (he : ∀ Q : AQ, Q (.tup (os.map optV)) G → aa S G Q) (hl : os.length ≤ 90000)
    (q : ∀ p, G p = none → Q (.ref p) (aupd G p ((os.filterMap id).map thV))) : aLc (aiSeq aa) (stN j) (aTest (aOp oNotN (aVar j) (aC .non))) (aVar j) S G Q := by
  have gs : ∀ x : AV, (S.set j (some x))[j]? = some (some x) := fun x => List.getElem?_set_self hj
  refine lc_tup (os.map optV) (fun x => !isNon x) id he (fun x hx G' R h => ?_) (fun x hx hk G' R h => ?_) (by rw [List.length_map]; exact hl) (fun p hp => ?_)
  · simp only [aTest, aOp, aVar, aC, gs, somexx]
    exact ⟨rfl, _, rfl, h⟩
  · simp only [aVar, gs, somexx]
    exact h
  · rw [filt_opts, List.map_id]
    exact q p hp
theorem lc_optsL {aa : AT} {j : Nat} {S : ASt} {G : AH} {Q : AQ} (os : List (Option Th)) (l : Addr) (hp : G l = some (os.map optV)) (hj : j < S.length) (he : ∀ Q : AQ, Q (.ref l) G → aa S G Q) (hl : os.length ≤ 90000)
    (q : ∀ p, G p = none → Q (.ref p) (aupd G p ((os.filterMap id).map thV))) : aLc (aiSeq aa) (stN j) (aTest (aOp oNotN (aVar j) (aC .non))) (aVar j) S G Q := by
  have gs : ∀ x : AV, (S.set j (some x))[j]? = some (some x) := fun x => List.getElem?_set_self hj
  refine lc_lst (os.map optV) (fun x => !isNon x) id l hp he (fun x hx G' R h => ?_) (fun x hx hk G' R h => ?_) (by rw [List.length_map]; exact hl) (fun p hp => ?_)
  · simp only [aTest, aOp, aVar, aC, gs, somexx]
    exact ⟨rfl, _, rfl, h⟩
  · simp only [aVar, gs, somexx]
    exact h
  · rw [filt_opts, List.map_id]
    exact q p hp
theorem cellV_opts (c : Cell) : cellV c = .tup ([c.1, c.2].map optV) := rfl
theorem cell_things (c : Cell) : [c.1, c.2].filterMap id = things [c] := by
  obtain ⟨a, b⟩ := c
  cases a <;> cases b <;> rfl
theorem things_snoc (d : List Cell) (c : Cell) : things (d ++ [c]) = things d ++ things [c] := things_append d [c]
/-- the loop that things_of and _law_in_cells share -/
theorem loop_things {cs : List Cell} {G : AH} {p : Addr} (hl : cs.length ≤ 1000) (hp : G p = none) {D : AEnds}
    (q : ∀ G' l, G' p = some ((things cs).map thV) → Sub G G' → D.nx [some (cellsV cs), some (.ref p), l, none] G') :
    aFor (aiSeq (aVar 0)) (agName 2) (aDropS (aMt mExtend (aVar 1) (aCons (aLc (aiSeq (aVar 2)) (stN 3) (aTest (aOp oNotN (aVar 3) (aC .non))) (aVar 3)) aNil))) D [some (cellsV cs), some (.ref p), none, none] (aupd G p []) := by
  refine for_tup cellV cs (fun d r S G' => (∃ l, S = [some (cellsV cs), some (.ref p), l, none]) ∧ G' p = some ((things d).map thV) ∧ Sub G G') (fun R q => ?_) ⟨⟨none, rfl⟩, aupd_same, Sub.new hp⟩ (fun d y r S G' e h => ?_) (fun S G' h => ?_)
  · walk_at "la"
    exact q
  · obtain ⟨⟨l, rfl⟩, h1, h2⟩ := h
    walk_at "la"
    refine ⟨⟨_, h1⟩, ?_⟩
    refine lc_opts [y.1, y.2] (by simp) (fun R q => ?_) (by simp) (fun r hr => ?_)
    · walk_at "la"
      exact q
    · refine m_extend (aold h1 hr) aupd_same ?_ ⟨⟨_, rfl⟩, ?_, ?_⟩
      · have hd := things_len d
        have he : d.length ≤ cs.length := by rw [← e, List.length_append]; omega
        rw [List.length_map, List.length_map]
        have h3 := List.length_filterMap_le id [y.1, y.2]
        simp at h3 ⊢
        omega
      · rw [aupd_same, cell_things, ← List.map_append, ← things_snoc]
      · exact (h2.trans (Sub.new hr)).own hp
  · obtain ⟨⟨l, rfl⟩, h1, h2⟩ := h
    exact q G' l h1 h2
theorem len_things_of : ∀ xs G Q, sp_things_of xs G Q → xs.length = 1 := fun _ _ _ ⟨_, _, e, _⟩ => by rw [e]; rfl
theorem r_things_of : ∀ xs G Q, sp_things_of xs G Q → a_things_of (aEnds Q) (astart 4 xs) G := by
  rintro xs G Q ⟨cs, hl, rfl, q⟩
  unfold a_things_of
  walk_at "la"
  intro p hp
  refine loop_things hl hp fun G' l h1 h2 => ?_
  walk_at "la"
  exact c_tuple h1 ⟨G, h2, q⟩
theorem i_things_of {cs : List Cell} {G : AH} {Q : AQ} (hl : cs.length ≤ 1000) (q : Q (thsV (things cs)) G) : sp_things_of [cellsV cs] G Q := ⟨cs, hl, rfl, q⟩
theorem len_law_in_cells : ∀ xs G Q, sp_law_in_cells xs G Q → xs.length = 1 := fun _ _ _ ⟨_, _, e, _⟩ => by rw [e]; rfl
theorem r_law_in_cells : ∀ xs G Q, sp_law_in_cells xs G Q → a_law_in_cells (aEnds Q) (astart 4 xs) G := by
  rintro xs G Q ⟨cs, hl, rfl, q⟩
  unfold a_law_in_cells
  walk_at "la"
  intro p hp
  refine loop_things hl hp fun G' l h1 h2 => ?_
  walk_at "la"
  refine ⟨aupd G p ((things cs).map thV), fun a xs e => ?_, q p hp⟩
  by_cases c : a = p
  · subst c
    rw [aupd_same] at e
    cases e
    exact h1
  · rw [aupd_ne c] at e
    exact h2 a xs e
theorem i_law_in_cells {cs : List Cell} {G : AH} {Q : AQ} (hl : cs.length ≤ 1000) (q : ∀ p, G p = none → Q (.ref p) (aupd G p ((things cs).map thV))) : sp_law_in_cells [cellsV cs] G Q := ⟨cs, hl, rfl, q⟩
theorem i_first_of {ts : List Th} {G : AH} {Q : AQ} (q : Q (optV (minO ts)) G) : sp_first_of [thsV ts] G Q := ⟨ts, rfl, q⟩
theorem len_comes_ahead : ∀ xs G Q, sp_comes_ahead xs G Q → xs.length = 2 := fun _ _ _ ⟨_, _, e, _⟩ => by rw [e]; rfl
theorem r_comes_ahead : ∀ xs G Q, sp_comes_ahead xs G Q → a_comes_ahead (aEnds Q) (astart 3 xs) G := by
  rintro xs G Q ⟨k, ts, rfl, q⟩
  have q := drop_same q
  unfold a_comes_ahead
  walk_at "la"
  apply i_first_of
  unfold aheadB at q
  cases hm : minO ts with
  | none =>
    rw [hm] at q
    walk_at "la"
    exact q
  | some m =>
    rw [hm] at q
    walk_at "la"
    cases k with
    | none => walk_at "la"; exact q
    | some k =>
      walk_at "la"
      exact i_comes_before q
theorem i_comes_ahead {k : Option Th} {ts : List Th} {G : AH} {Q : AQ} (q : Q (.bl (aheadB k ts)) G) : sp_comes_ahead [optV k, thsV ts] G Q := ⟨k, ts, rfl, q⟩
theorem len_has_room : ∀ xs G Q, sp_has_room xs G Q → xs.length = 2 := fun _ _ _ ⟨_, _, _, e, _⟩ => by rw [e]; rfl
theorem r_has_room : ∀ xs G Q, sp_has_room xs G Q → a_has_room (aEnds Q) (astart 2 xs) G := by
  rintro xs G Q ⟨pre, suf, hl, rfl, q⟩
  have q := drop_same q
  unfold a_has_room
  walk_at "la"
  refine i_things_of (by omega) ?_
  walk_at "la"
  rw [List.length_append, Int.natCast_add, show (pre.length : Int) + (suf.length : Int) - (pre.length : Int) = (suf.length : Int) from by omega]
  exact q
theorem i_has_room {pre suf : List Cell} {G : AH} {Q : AQ} (hl : pre.length + suf.length ≤ 1000) (q : Q (.bl (roomB suf)) G) : sp_has_room [cellsV (pre ++ suf), .int (pre.length : Int)] G Q := ⟨pre, suf, hl, rfl, q⟩
theorem len_hand_fits : ∀ xs G Q, sp_hand_fits xs G Q → xs.length = 1 := fun _ _ _ ⟨_, e, _⟩ => by rw [e]; rfl
theorem r_hand_fits : ∀ xs G Q, sp_hand_fits xs G Q → a_hand_fits (aEnds Q) (astart 3 xs) G := by
  rintro xs G Q ⟨⟨k, h⟩, rfl, q⟩
  have q := drop_same q
  unfold a_hand_fits
  walk_at "la"
  cases h with
  | none => walk_at "la"; exact q
  | some h => cases k with
    | none => walk_at "la"; exact q
    | some k =>
      walk_at "la"
      exact i_comes_before q
theorem i_hand_fits {c : Cell} {G : AH} {Q : AQ} (q : Q (.bl (handB c)) G) : sp_hand_fits [cellV c] G Q := ⟨c, rfl, q⟩
theorem len_leads : ∀ xs G Q, sp_leads xs G Q → xs.length = 2 := fun _ _ _ ⟨_, _, _, _, e, _⟩ => by rw [e]; rfl
theorem r_leads : ∀ xs G Q, sp_leads xs G Q → a_leads (aEnds Q) (astart 4 xs) G := by
  rintro xs G Q ⟨pre, ⟨k, h⟩, rest, hl, rfl, q⟩
  have q := drop_same q
  unfold a_leads
  walk_at "la"
  refine ⟨_, at_pre _ _ _ _, ?_⟩
  walk_at "la"
  cases h with
  | some h => walk_at "la"; exact q
  | none =>
    walk_at "la"
    refine i_things_of (by omega) ?_
    exact i_comes_ahead q
theorem i_leads {pre rest : List Cell} {c : Cell} {G : AH} {Q : AQ} (hl : pre.length + rest.length ≤ 900) (q : Q (.bl (leadsB c rest)) G) : sp_leads [cellsV (pre ++ c :: rest), .int (pre.length : Int)] G Q := ⟨pre, c, rest, hl, rfl, q⟩
theorem len_fits_two : ∀ xs G Q, sp_fits_two xs G Q → xs.length = 3 := fun _ _ _ ⟨_, _, _, _, _, e, _⟩ => by rw [e]; rfl
theorem r_fits_two : ∀ xs G Q, sp_fits_two xs G Q → a_fits_two (aEnds Q) (astart 3 xs) G := by
  rintro xs G Q ⟨pre, c, rest, turn, hl, rfl, q⟩
  have q := drop_same q
  unfold a_fits_two
  unfold twoB firstB at q
  walk_at "la"
  by_cases h0 : pre.length = 0
  · have h1 : (pre.length : Int) = 0 := by omega
    rw [if_pos h1]
    refine i_leads hl ?_
    simpa [h0] using q
  · have h1 : ¬ (pre.length : Int) = 0 := by omega
    rw [if_neg h1]
    by_cases h2 : (pre.length : Int) % 2 = turn
    · rw [if_pos h2]
      refine ⟨_, at_pre _ _ _ _, i_hand_fits ?_⟩
      simpa [h0, h2] using q
    · rw [if_neg h2]
      refine i_leads hl ?_
      simpa [h0, h2] using q
theorem i_fits_two {pre rest : List Cell} {c : Cell} {turn : Int} {G : AH} {Q : AQ} (hl : pre.length + rest.length ≤ 900) (q : Q (.bl (twoB turn pre.length c rest)) G) : sp_fits_two [cellsV (pre ++ c :: rest), .int turn, .int (pre.length : Int)] G Q := ⟨pre, c, rest, turn, hl, rfl, q⟩
theorem len_hole_fits : ∀ xs G Q, sp_hole_fits xs G Q → xs.length = 2 := fun _ _ _ ⟨_, _, _, _, e, _⟩ => by rw [e]; rfl
theorem nlen0 {α : Type} {xs : List α} (h : xs.isEmpty = false) : xs ≠ [] := by
  intro e
  subst e
  cases h
theorem keepAt_get {rest : List Cell} (h : things rest ≠ []) : ∃ d r, rest = d :: r ∧ keepAt rest = d.1.isSome := by
  cases rest with
  | nil => exact absurd rfl h
  | cons d r => exact ⟨d, r, rfl, rfl⟩
theorem r_hole_fits : ∀ xs G Q, sp_hole_fits xs G Q → a_hole_fits (aEnds Q) (astart 3 xs) G := by
  rintro xs G Q ⟨pre, ⟨k, h⟩, rest, hl, rfl, q⟩
  have q := drop_same q
  unfold a_hole_fits
  unfold holeB at q
  walk_at "la"
  refine i_things_of (by omega) ?_
  walk_at "la"
  refine ⟨_, at_pre _ _ _ _, ?_⟩
  walk_at "la"
  have tail : (if (things rest).isEmpty = true then aDrop Q (.bl true) G else aDrop Q (.bl (keepAt rest)) G) →
      oEq (thsV (things rest)) (.tup []) G (fun x G1 => ∃ c, x = .bl c ∧ if c = true then aDrop Q (.bl true) G1 else ∃ v, atI (List.map cellV (pre ++ (k, h) :: rest)) ((pre.length : Int) + 1) = some v ∧ oIx v (.int 0) G1 fun x G2 => oNotN x .non G2 (aDrop Q)) := by
    intro hq
    refine eq_ths0 ?_
    walk_at "la"
    cases he : (things rest).isEmpty with
    | true => rw [he] at hq; walk_at "la"; exact hq
    | false =>
      rw [he] at hq
      obtain ⟨d, r, e1, e2⟩ := keepAt_get (nlen0 he)
      rw [e2] at hq
      subst e1
      walk_at "la"
      refine ⟨_, at_pre1 _ _ _ _ _, ?_⟩
      walk_at "la"
      exact hq
  cases h with
  | some h => walk_at "la"; exact q
  | none =>
    walk_at "la"
    by_cases h0 : pre.length = 0
    · have h1 : (pre.length : Int) = 0 := by omega
      rw [if_pos h1]
      refine ne_ths0 ?_
      walk_at "la"
      cases he : (things rest).isEmpty with
      | false => walk_at "la"; simpa [h0, he] using q
      | true =>
        walk_at "la"
        refine tail ?_
        simpa [h0, he] using q
    · have h1 : ¬ (pre.length : Int) = 0 := by omega
      rw [if_neg h1]
      refine tail ?_
      cases he : (things rest).isEmpty with
      | true => simpa [h0, he] using q
      | false => simpa [h0, he] using q
theorem i_hole_fits {pre rest : List Cell} {c : Cell} {G : AH} {Q : AQ} (hl : pre.length + rest.length ≤ 900) (q : Q (.bl (holeB pre.length c rest)) G) : sp_hole_fits [cellsV (pre ++ c :: rest), .int (pre.length : Int)] G Q := ⟨pre, c, rest, hl, rfl, q⟩
theorem len_fits_one : ∀ xs G Q, sp_fits_one xs G Q → xs.length = 3 := fun _ _ _ ⟨_, _, _, _, _, e, _⟩ => by rw [e]; rfl
theorem r_fits_one : ∀ xs G Q, sp_fits_one xs G Q → a_fits_one (aEnds Q) (astart 6 xs) G := by
  rintro xs G Q ⟨pre, ⟨k, h⟩, rest, turn, hl, rfl, q⟩
  have q := drop_same q
  unfold a_fits_one
  unfold oneB at q
  walk_at "la"
  refine ⟨_, at_pre _ _ _ _, ?_⟩
  walk_at "la"
  refine i_things_of (by omega) ?_
  walk_at "la"
  cases k with
  | none =>
    walk_at "la"
    refine i_hole_fits hl ?_
    simpa using q
  | some k =>
    walk_at "la"
    refine ⟨_, at_pre _ _ _ _, ?_⟩
    refine i_hand_fits ?_
    walk_at "la"
    cases hb : handB (some k, h) with
    | false => walk_at "la"; simpa [hb] using q
    | true =>
      walk_at "la"
      refine i_comes_ahead ?_
      walk_at "la"
      cases ha : aheadB (some k) (things rest) with
      | false => walk_at "la"; simpa [hb, ha] using q
      | true =>
        walk_at "la"
        by_cases ht : turn = 0
        · by_cases h0 : pre.length = 0
          · have h1 : (pre.length : Int) = 0 := by omega
            rw [if_pos ht, if_pos h1]
            cases h with
            | some h => walk_at "la"; simpa [hb, ha, ht, h0] using q
            | none =>
              walk_at "la"
              refine eq_ths0 ?_
              walk_at "la"
              cases he : (things rest).isEmpty with
              | true => walk_at "la"; simpa [hb, ha, ht, h0, he] using q
              | false =>
                obtain ⟨d, r, e1, e2⟩ := keepAt_get (nlen0 he)
                rw [e2] at q
                subst e1
                have hp : pre = [] := List.eq_nil_of_length_eq_zero h0
                subst hp
                walk_at "la"
                simpa [hb, ha, ht, he] using q
          · have h1 : ¬ (pre.length : Int) = 0 := by omega
            rw [if_pos ht, if_neg h1]
            simpa [hb, ha, ht, h0] using q
        · rw [if_neg ht]
          simpa [hb, ha, ht] using q
theorem i_fits_one {pre rest : List Cell} {c : Cell} {turn : Int} {G : AH} {Q : AQ} (hl : pre.length + rest.length ≤ 900) (q : Q (.bl (oneB turn pre.length c rest)) G) : sp_fits_one [cellsV (pre ++ c :: rest), .int turn, .int (pre.length : Int)] G Q := ⟨pre, c, rest, turn, hl, rfl, q⟩
theorem split_at {α : Type} {cs : List α} {i : Nat} (h : i < cs.length) : ∃ pre c rest, cs = pre ++ c :: rest ∧ pre.length = i ∧ cs.drop i = c :: rest ∧ cs.drop (i + 1) = rest := by
  refine ⟨cs.take i, cs[i], cs.drop (i + 1), ?_, ?_, List.drop_eq_getElem_cons h, rfl⟩
  · rw [← List.drop_eq_getElem_cons h, List.take_append_drop]
  · rw [List.length_take]; omega
theorem len_in_order : ∀ xs G Q, sp_in_order xs G Q → xs.length = 1 := fun _ _ _ ⟨_, _, e, _⟩ => by rw [e]; rfl
theorem r_in_order : ∀ xs G Q, sp_in_order xs G Q → a_in_order (aEnds Q) (astart 6 xs) G := by
  rintro xs G Q ⟨s, hl, rfl, q⟩
  have q := drop_same q
  unfold a_in_order
  walk_at "la"
  refine for_rng s.cells.length (fun i S G' => G' = G ∧ (∃ l, S = [some (standV s), some (kindV s.one), some (.int s.turn), some (.int s.came), some (cellsV s.cells), l]) ∧ orderB s = orderFrom s.one s.turn i (s.cells.drop i)) (fun R q => ?_) (by omega) ⟨rfl, ⟨none, rfl⟩, rfl⟩ (fun i S G' hi h => ?_) (fun S G' h => ?_)
  · walk_at "la"
    exact q
  · obtain ⟨rfl, ⟨l, rfl⟩, ho⟩ := h
    obtain ⟨pre, c, rest, e, hp, hd, hd1⟩ := split_at hi
    have hlen : pre.length + rest.length + 1 = s.cells.length := by rw [e]; simp; omega
    rw [hd] at ho
    unfold orderFrom cellB at ho
    walk_at "la"
    rw [e, ← hp]
    refine i_has_room (by simp; omega) ?_
    walk_at "la"
    cases hr : roomB (c :: rest) with
    | false => walk_at "la"; rw [ho] at q; simpa [hr] using q
    | true =>
      rw [hr] at ho
      walk_at "la"
      cases hk : s.one with
      | true =>
        walk_at "la"
        refine i_fits_one (by omega) ?_
        walk_at "la"
        rw [hk, ← hp] at ho
        cases hc : oneB s.turn pre.length c rest with
        | false => walk_at "la"; rw [ho] at q; simpa [hc] using q
        | true =>
          walk_at "la"
          refine ⟨⟨_, rfl⟩, ?_⟩
          rw [ho, ← e, hp, hd1]
          rw [hp] at hc
          simp [hc]
      | false =>
        walk_at "la"
        refine i_fits_two (by omega) ?_
        walk_at "la"
        rw [hk, ← hp] at ho
        cases hc : twoB s.turn pre.length c rest with
        | false => walk_at "la"; rw [ho] at q; simpa [hc] using q
        | true =>
          walk_at "la"
          refine ⟨⟨_, rfl⟩, ?_⟩
          rw [ho, ← e, hp, hd1]
          rw [hp] at hc
          simp [hc]
  · obtain ⟨rfl, ⟨l, rfl⟩, ho⟩ := h
    rw [ho, List.drop_length] at q
    walk_at "la"
    exact q
theorem i_in_order {s : Stand} {G : AH} {Q : AQ} (hl : s.cells.length ≤ 900) (q : Q (.bl (orderB s)) G) : sp_in_order [standV s] G Q := ⟨s, hl, rfl, q⟩
/-! ### the least, put together -/
def mn (x y : Th) : Th := if tlt y x then y else x
theorem tlt_iff (p q : Th) : tlt p q = true ↔ p.1 < q.1 ∨ (p.1 = q.1 ∧ p.2 < q.2) := by
  unfold tlt
  split <;> simp <;> omega
theorem mn_assoc (x t u : Th) : mn (mn x t) u = mn x (mn t u) := by
  have h := tlt_iff
  unfold mn
  by_cases h1 : tlt t x = true <;> by_cases h2 : tlt u t = true <;> by_cases h3 : tlt u x = true <;> simp [h1, h2, h3] <;> (rw [h] at h1 h2 h3; exfalso; omega)
theorem fold_mn (x : Th) : ∀ (t : Th) (r : List Th), r.foldl mn (mn x t) = mn x (r.foldl mn t)
  | _, [] => rfl
  | t, u :: r => by
    rw [List.foldl_cons, List.foldl_cons, mn_assoc, fold_mn x (mn t u) r]
theorem minT_mn (t : Th) (r : List Th) : minT t r = r.foldl mn t := rfl
theorem minO_append (a b : List Th) : minO (a ++ b) = match minO b with | none => minO a | some m => minO (a ++ [m]) := by
  cases b with
  | nil => rw [List.append_nil]; rfl
  | cons t r =>
    show _ = minO (a ++ [minT t r])
    cases a with
    | nil => rfl
    | cons x a =>
      show some (minT x (a ++ t :: r)) = some (minT x (a ++ [minT t r]))
      rw [minT_mn, minT_mn, minT_mn, List.foldl_append, List.foldl_append, List.foldl_cons, List.foldl_cons, List.foldl_nil, fold_mn]
/-! ### entries -/
theorem o_add_ref {p q : Addr} {xs ys : List AV} {G : AH} {Q : AQ} (hp : G p = some xs) (hq : G q = some ys) (hl : xs.length + ys.length ≤ 100000) (h : ∀ r, G r = none → Q (.ref r) (aupd G r (xs ++ ys))) : oAdd (.ref p) (.ref q) G Q := ⟨xs, ys, hp, hq, hl, h⟩
theorem o_add_tup {xs ys : List AV} {G : AH} {Q : AQ} (hl : xs.length + ys.length ≤ 100000) (h : Q (.tup (xs ++ ys)) G) : oAdd (.tup xs) (.tup ys) G Q := ⟨hl, h⟩
theorem entries_len (cs : List Cell) : (entries cs).length = cs.length := by
  induction cs with
  | nil => rfl
  | cons c cs ih => simp [entries, ih]
theorem len_entries_of : ∀ xs G Q, sp_entries_of xs G Q → xs.length = 1 := fun _ _ _ ⟨_, _, e, _⟩ => by rw [e]; rfl
theorem r_entries_of : ∀ xs G Q, sp_entries_of xs G Q → a_entries_of (aEnds Q) (astart 8 xs) G := by
  rintro xs G Q ⟨cs, hl, rfl, q⟩
  unfold a_entries_of
  walk_at "la"
  intro p hp
  refine for_tup cellV cs.reverse (fun d r S G' => ∃ p l1 l2 l3, S = [some (cellsV cs), some (.ref p), some (optV (minO (things d.reverse))), some (.int ((things d.reverse).length : Int)), l1, l2, none, l3] ∧ G' p = some ((entries d.reverse).map entV) ∧ Sub G G')
    (fun R q => ?_) ⟨p, none, none, none, rfl, aupd_same, Sub.new hp⟩ (fun d y r S G' e h => ?_) (fun S G' h => ?_)
  · unfold aRevT
    walk_at "la"
    exact ⟨cs.map cellV, rfl, by rw [← List.map_reverse]; exact q⟩
  · obtain ⟨p, l1, l2, l3, rfl, h1, h2⟩ := h
    have hd : d.length ≤ cs.length := by
      have := congrArg List.length e
      rw [List.length_append, List.length_reverse] at this
      omega
    have hth := things_len d.reverse
    rw [List.length_reverse] at hth
    have et : things (d ++ [y]).reverse = things [y] ++ things d.reverse := by
      rw [List.reverse_append]
      exact things_append [y] d.reverse
    have em : minO (things (d ++ [y]).reverse) = match minO (things d.reverse) with | none => minO (things [y]) | some m => minO (things [y] ++ [m]) := by
      rw [et, minO_append]
    have ee : entries (d ++ [y]).reverse = (minO (things d.reverse), (things [y]).length + (things d.reverse).length) :: entries d.reverse := by
      rw [List.reverse_append]
      show (minO (things d.reverse), (things (y :: d.reverse)).length) :: entries d.reverse = _
      rw [show things (y :: d.reverse) = things [y] ++ things d.reverse from things_append [y] d.reverse, List.length_append]
    walk_at "la"
    refine lc_opts [y.1, y.2] (by simp) (fun R q => ?_) (by simp) (fun r hr => ?_)
    · walk_at "la"
      exact q
    · refine c_tuple aupd_same ?_
      rw [cell_things]
      unfold aAugAdd
      walk_at "la"
      have en : ((things d.reverse).length : Int) + (((things [y]).map thV).length : Int) = ((things (d ++ [y]).reverse).length : Int) := by
        rw [et, List.length_map, List.length_append]
        omega
      have ev : ∀ k : Int, k = ((things d.reverse).length : Int) + (((things [y]).map thV).length : Int) → (AV.tup [optV (minO (things d.reverse)), AV.int k] :: (entries d.reverse).map entV) = (entries (d ++ [y]).reverse).map entV := fun k hk => by
        rw [ee, List.map_cons, hk, List.length_map]
        unfold entV
        rw [show ((things d.reverse).length : Int) + ((things [y]).length : Int) = (((things [y]).length + (things d.reverse).length : Nat) : Int) from by omega]
      refine ⟨_, rfl, fun r2 hr2 => ?_⟩
      refine o_add_ref aupd_same (aold (aold h1 hr) hr2) ?_ fun r3 hr3 => ?_
      · have : (entries d.reverse).length = d.length := by rw [entries_len, List.length_reverse]
        simp [this]; omega
      · have hS := fun ws => ((h2.trans (Sub.new hr)).trans (Sub.new hr2)).trans (Sub.new (xs := ws) hr3)
        walk_at "la"
        cases hm : minO (things d.reverse) with
        | none =>
          rw [hm] at em hS ev
          walk_at "la"
          refine i_first_of (ts := things [y]) ?_
          refine ⟨r3, some (optV y.1), some (optV y.2), some (thsV (things [y])), ?_, ?_, hS _⟩
          · rw [em, en]; rfl
          · rw [aupd_same, ← ev _ rfl]
        | some m =>
          rw [hm] at em hS ev
          walk_at "la"
          refine o_add_tup ?_ ?_
          · have := things_len [y]
            rw [List.length_map]
            simp at this ⊢
            omega
          · have e3 : (AV.tup ((things [y]).map thV ++ [optV (some m)])) = thsV (things [y] ++ [m]) := by
              unfold thsV
              rw [List.map_append]; rfl
            rw [e3]
            refine i_first_of ?_
            refine ⟨r3, some (optV y.1), some (optV y.2), some (thsV (things [y] ++ [m])), ?_, ?_, hS _⟩
            · rw [em, en]
            · rw [aupd_same, ← ev _ rfl]
  · obtain ⟨p, l1, l2, l3, rfl, h1, h2⟩ := h
    rw [List.reverse_reverse] at h1
    walk_at "la"
    exact c_tuple h1 ⟨G, h2, q⟩
theorem i_entries_of {cs : List Cell} {G : AH} {Q : AQ} (hl : cs.length ≤ 900) (q : Q (entriesV (entries cs)) G) : sp_entries_of [cellsV cs] G Q := ⟨cs, hl, rfl, q⟩
theorem isT_ent {e : Entry} {G : AH} {Q : AQ} : cIs "tuple" isTupB [entV e, .ty "tuple"] G Q = Q (.bl true) G := isT_tup
theorem isT_ents {e : List Entry} {G : AH} {Q : AQ} : cIs "tuple" isTupB [entriesV e, .ty "tuple"] G Q = Q (.bl true) G := isT_tup
theorem cLen_ent {e : Entry} {G : AH} {Q : AQ} : cLen [entV e] G Q = Q (.int 2) G := rfl
theorem isT_th {e : Th} {G : AH} {Q : AQ} : cIs "tuple" isTupB [thV e, .ty "tuple"] G Q = Q (.bl true) G := isT_tup
theorem i_is_thing {t : Th} {G : AH} {Q : AQ} (q : Q (.bl (goodT t)) G) : sp_is_thing [thV t] G Q := ⟨t, rfl, q⟩
theorem len_is_entry : ∀ xs G Q, sp_is_entry xs G Q → xs.length = 1 := fun _ _ _ ⟨_, e, _⟩ => by rw [e]; rfl
theorem r_is_entry : ∀ xs G Q, sp_is_entry xs G Q → a_is_entry (aEnds Q) (astart 1 xs) G := by
  rintro xs G Q ⟨⟨o, n⟩, rfl, q⟩
  have q := drop_same q
  unfold a_is_entry
  walk_at "la"
  simp only [isT_ent, cLen_ent]
  walk_at "la"
  cases o with
  | none => walk_at "la"; exact q
  | some t =>
    walk_at "la"
    exact i_is_thing q
theorem i_is_entry {e : Entry} {G : AH} {Q : AQ} (q : Q (.bl (goodE e)) G) : sp_is_entry [entV e] G Q := ⟨e, rfl, q⟩
theorem len_right_order : ∀ xs G Q, sp_right_order xs G Q → xs.length = 2 := fun _ _ _ ⟨_, _, _, _, _, e, _⟩ => by rw [e]; rfl
theorem r_right_order : ∀ xs G Q, sp_right_order xs G Q → a_right_order (aEnds Q) (astart 3 xs) G := by
  rintro xs G Q ⟨s, es, hl, hle, hg, rfl, q⟩
  unfold a_right_order
  walk_at "la"
  simp only [isT_ents]
  walk_at "la"
  refine lc_tup (es.map entV) (fun _ => false) id (fun R q => ?_) (fun x hx G' R h => ?_) (fun x hx hk => by cases hk) (by rw [List.length_map]; omega) (fun p hp => ?_)
  · walk_at "la"; exact q
  · obtain ⟨e, he, rfl⟩ := List.mem_map.mp hx
    walk_at "la"
    refine i_is_entry ?_
    rw [hg e he]
    walk_at "la"
    exact h
  · intro p2 hp2
    refine ne_lst0 (ts := []) (aold ?_ hp2) aupd_same ?_
    · rw [aupd_same]; simp
    · walk_at "la"
      refine i_entries_of hl ?_
      refine eq_ents ?_
      walk_at "la"
      have hS := (Sub.new hp).trans (Sub.new (xs := []) hp2)
      by_cases hd : es = entries s.cells
      · rw [if_pos hd]
        rw [decide_eq_true hd, Bool.true_and] at q
        exact i_in_order hl ⟨G, hS, q⟩
      · rw [if_neg hd]
        rw [decide_eq_false hd, Bool.false_and] at q
        exact ⟨G, hS, q⟩
theorem i_right_order {s : Stand} {es : List Entry} {G : AH} {Q : AQ} (hl : s.cells.length ≤ 900) (he : es.length ≤ 900) (hg : ∀ e ∈ es, goodE e = true) (q : Q (.bl (decide (es = entries s.cells) && orderB s)) G) : sp_right_order [standV s, entriesV es] G Q := ⟨s, es, hl, he, hg, rfl, q⟩
end LS
set_option Elab.async false
set_option linter.all false
set_option maxRecDepth 100000
set_option maxHeartbeats 4000000
namespace LS
open PySem PySem.Spec PyProof.Rows L2 LA
local macro_rules | `(tactic| walk_at "la") => `(tactic| try simp only [aSeq, aIfS, aTest, aOp, aVar, aC, aRet, aNext, aDropS, aAsg, aAnd, aOr, aNot, aAndV, aOrV, aNotV, aChain, aCons, aNil, aCall, aCB, aTup, aLst, aMt, mt_ref, aSl, oSl_pre, oSl_pre1, oSl_0, aPart, aNoP, agName, agC, agE, agT_tup, agT_cell, agT_ent, agT_stand, aEnds, astart,
  List.map_cons, List.map_nil, List.length_cons, List.length_nil, List.cons_append, List.nil_append, List.getElem?_cons_zero, List.getElem?_cons_succ, List.set_cons_zero, List.set_cons_succ, List.replicate_succ, List.replicate_zero, Nat.reduceAdd, Nat.reduceSub, Nat.reduceLeDiff, Nat.zero_le, somex, somexx, blx, intx, tupx,
  at0, at1, at2, at3, oEq_ii, oEq_bb, oNe_ii, oNe_bb, oEq_one, oEq_two, oIx_tup, oIx_cell, oIx_cells, oIx_th, oIx_stand, oIx_ent, oLt_ii, oLt_th, oLe_ii, oGt_ii, oGe_ii, oAdd_ii, oSub_ii, oMod_ii, Int.reduceLT, Int.reduceLE, isN_non, isN_opt, notN_opt, isN_th, notN_th, cLen_tup, cLen_cells, cLen_ths, cInt_bl,
  isI_int, isB_int, isB_bl, isT_tup, isT_non, isT_int, isS_int, ite_tt, ite_ff, ite_not, ite_dec, Bool.not_true, Bool.not_false, nat0, nat1, nat2, nat3, true_and, ↓reduceIte, Option.isNone_none, Option.isNone_some, Option.isSome_none, Option.isSome_some, List.isEmpty_nil])
/-! ### the law's readers -/
theorem len_law_least_beyond : ∀ xs G Q, sp_law_least_beyond xs G Q → xs.length = 2 := fun _ _ _ ⟨_, _, _, _, e, _⟩ => by rw [e]; rfl
theorem r_law_least_beyond : ∀ xs G Q, sp_law_least_beyond xs G Q → a_law_least_beyond (aEnds Q) (astart 2 xs) G := by
  rintro xs G Q ⟨pre, c, rest, hl, rfl, q⟩
  unfold a_law_least_beyond aMinD
  walk_at "la"
  refine i_law_in_cells (by omega) fun p hp => ?_
  exact ⟨p, things rest, rfl, aupd_same, G, Sub.new hp, q⟩
theorem i_law_least_beyond {pre rest : List Cell} {c : Cell} {G : AH} {Q : AQ} (hl : pre.length + rest.length ≤ 900) (q : Q (optV (minO (things rest))) G) : sp_law_least_beyond [cellsV (pre ++ c :: rest), .int (pre.length : Int)] G Q := ⟨pre, c, rest, hl, rfl, q⟩
theorem len_law_leads : ∀ xs G Q, sp_law_leads xs G Q → xs.length = 2 := fun _ _ _ ⟨_, _, _, _, e, _⟩ => by rw [e]; rfl
theorem r_law_leads : ∀ xs G Q, sp_law_leads xs G Q → a_law_leads (aEnds Q) (astart 3 xs) G := by
  rintro xs G Q ⟨pre, ⟨k, h⟩, rest, hl, rfl, q⟩
  have q := drop_same q
  unfold a_law_leads
  walk_at "la"
  refine i_law_least_beyond hl ?_
  refine ⟨_, at_pre _ _ _ _, ?_⟩
  unfold aheadB at q
  walk_at "la"
  cases hm : minO (things rest) with
  | none =>
    rw [hm] at q
    cases k with
    | none => walk_at "la"; exact q
    | some k => walk_at "la"; exact q
  | some m =>
    rw [hm] at q
    cases k with
    | none => walk_at "la"; exact q
    | some k =>
      walk_at "la"
      refine ⟨_, at_pre _ _ _ _, ?_⟩
      walk_at "la"
      exact q
theorem i_law_leads {pre rest : List Cell} {c : Cell} {G : AH} {Q : AQ} (hl : pre.length + rest.length ≤ 900) (q : Q (.bl (aheadB c.1 (things rest))) G) : sp_law_leads [cellsV (pre ++ c :: rest), .int (pre.length : Int)] G Q := ⟨pre, c, rest, hl, rfl, q⟩
theorem len_law_one_cell : ∀ xs G Q, sp_law_one_cell xs G Q → xs.length = 2 := fun _ _ _ ⟨_, _, _, _, _, _, e, _⟩ => by rw [e]; rfl
theorem r_law_one_cell : ∀ xs G Q, sp_law_one_cell xs G Q → a_law_one_cell (aEnds Q) (astart 9 xs) G := by
  rintro xs G Q ⟨s, pre, ⟨k, h⟩, rest, hl, e, rfl, q⟩
  unfold a_law_one_cell
  walk_at "la"
  rw [e]
  refine ⟨_, at_pre _ _ _ _, ?_⟩
  walk_at "la"
  refine i_law_in_cells (by omega) fun p hp => ?_
  have tail : ∀ G1, G1 p = some ((things rest).map thV) → Sub G G1 →
      Q (.bl (if (decide (s.turn = 0) && decide (pre.length = 0)) = true then h.isNone && ((things rest).isEmpty || keepAt rest) else true)) G →
      (if s.turn = 0 then
        if (pre.length : Int) = 0 then
          if h.isNone = true then
            ∀ p_1, G1 p_1 = none → oEq (.ref p) (.ref p_1) (aupd G1 p_1 []) fun x G1 => ∃ c, x = .bl c ∧ if c = true then aDrop Q (.bl true) G1 else ∃ v, atI (List.map cellV (pre ++ (k, h) :: rest)) 1 = some v ∧ oIx v (.int 0) G1 fun x G1 => oNotN x .non G1 (aDrop Q)
          else aDrop Q (.bl false) G1
        else aDrop Q (.bl true) G1
      else aDrop Q (.bl true) G1) := by
    intro G1 h1 h2 hq
    by_cases ht : s.turn = 0
    · by_cases h0 : pre.length = 0
      · have h0' : (pre.length : Int) = 0 := by omega
        rw [if_pos ht, if_pos h0']
        rw [decide_eq_true ht, decide_eq_true h0] at hq
        cases h with
        | some h => walk_at "la"; exact ⟨G, h2, hq⟩
        | none =>
          walk_at "la"
          intro p2 hp2
          refine eq_lst0 (aold h1 hp2) aupd_same ?_
          have hS := fun ws => h2.trans (Sub.new (xs := ws) hp2)
          cases he : (things rest).isEmpty with
          | true => rw [he] at hq; walk_at "la"; exact ⟨G, hS _, hq⟩
          | false =>
            rw [he] at hq
            obtain ⟨d, r, e1, e2⟩ := keepAt_get (nlen0 he)
            rw [e2] at hq
            subst e1
            have hpre : pre = [] := List.eq_nil_of_length_eq_zero h0
            subst hpre
            walk_at "la"
            exact ⟨G, hS _, hq⟩
      · have h0' : ¬ (pre.length : Int) = 0 := by omega
        rw [if_pos ht, if_neg h0']
        rw [decide_eq_false h0, Bool.and_false] at hq
        exact ⟨G, h2, hq⟩
    · rw [if_neg ht]
      rw [decide_eq_false ht, Bool.false_and] at hq
      exact ⟨G, h2, hq⟩
  unfold lawOneB at q
  cases k with
  | some k =>
    walk_at "la"
    refine i_law_leads hl ?_
    walk_at "la"
    cases ha : aheadB (some k) (things rest) with
    | false =>
      walk_at "la"
      refine ⟨G, Sub.new hp, ?_⟩
      simpa [ha] using q
    | true =>
      walk_at "la"
      refine tail _ aupd_same (Sub.new hp) ?_
      simpa [ha] using q
  | none =>
    walk_at "la"
    have last : ∀ G1, G1 p = some ((things rest).map thV) → Sub G G1 → (Q (.bl (if (!(things rest).isEmpty && !keepAt rest) = true then false else (if (decide (s.turn = 0) && decide (pre.length = 0)) = true then h.isNone && ((things rest).isEmpty || keepAt rest) else true))) G) →
        ∀ p_1, G1 p_1 = none → oNe (.ref p) (.ref p_1) (aupd G1 p_1 []) fun x G1 => ∃ b, x = .bl b ∧ if b = true then ∃ v, atI (List.map cellV (pre ++ (none, h) :: rest)) ((pre.length : Int) + 1) = some v ∧ oIx v (.int 0) G1 fun x G1 => oIsN x .non G1 fun x G1 => ∃ b, x = .bl b ∧ if b = true then aDrop Q (.bl false) G1 else
          (if s.turn = 0 then
        if (pre.length : Int) = 0 then
          if h.isNone = true then
            ∀ p_1, G1 p_1 = none → oEq (.ref p) (.ref p_1) (aupd G1 p_1 []) fun x G1 => ∃ c, x = .bl c ∧ if c = true then aDrop Q (.bl true) G1 else ∃ v, atI (List.map cellV (pre ++ (none, h) :: rest)) 1 = some v ∧ oIx v (.int 0) G1 fun x G1 => oNotN x .non G1 (aDrop Q)
          else aDrop Q (.bl false) G1
        else aDrop Q (.bl true) G1
      else aDrop Q (.bl true) G1) else (if s.turn = 0 then
        if (pre.length : Int) = 0 then
          if h.isNone = true then
            ∀ p_1, G1 p_1 = none → oEq (.ref p) (.ref p_1) (aupd G1 p_1 []) fun x G1 => ∃ c, x = .bl c ∧ if c = true then aDrop Q (.bl true) G1 else ∃ v, atI (List.map cellV (pre ++ (none, h) :: rest)) 1 = some v ∧ oIx v (.int 0) G1 fun x G1 => oNotN x .non G1 (aDrop Q)
          else aDrop Q (.bl false) G1
        else aDrop Q (.bl true) G1
      else aDrop Q (.bl true) G1) := by
      intro G1 h1 h2 hq p2 hp2
      refine ne_lst0 (aold h1 hp2) aupd_same ?_
      have hS := fun ws => h2.trans (Sub.new (xs := ws) hp2)
      cases he : (things rest).isEmpty with
      | true =>
        walk_at "la"
        refine tail _ (aold h1 hp2) (hS _) ?_
        simpa [he] using hq
      | false =>
        obtain ⟨d, r, e1, e2⟩ := keepAt_get (nlen0 he)
        subst e1
        walk_at "la"
        refine ⟨_, at_pre1 _ _ _ _ _, ?_⟩
        walk_at "la"
        cases hd : d.1 with
        | none =>
          walk_at "la"
          refine ⟨G, hS _, ?_⟩
          simpa [he, e2, hd] using hq
        | some t =>
          walk_at "la"
          refine tail _ (aold h1 hp2) (hS _) ?_
          simpa [he, e2, hd] using hq
    by_cases h0 : pre.length = 0
    · have h0' : (pre.length : Int) = 0 := by omega
      rw [if_pos h0']
      intro p2 hp2
      refine ne_lst0 (aold aupd_same hp2) aupd_same ?_
      have hS := fun ws => (Sub.new hp).trans (Sub.new (xs := ws) hp2)
      cases he : (things rest).isEmpty with
      | false =>
        walk_at "la"
        refine ⟨G, hS _, ?_⟩
        simpa [he, h0] using q
      | true =>
        walk_at "la"
        refine last _ (aold aupd_same hp2) (hS _) ?_
        simpa [he, h0] using q
    · have h0' : ¬ (pre.length : Int) = 0 := by omega
      rw [if_neg h0']
      refine last _ aupd_same (Sub.new hp) ?_
      simpa [h0] using q
theorem oLt_opt {t u : Th} {G : AH} {Q : AQ} : oLt (optV (some t)) (optV (some u)) G Q = Q (.bl (tlt t u)) G := rfl
end LS
set_option Elab.async false
set_option linter.all false
set_option maxRecDepth 100000
set_option maxHeartbeats 4000000
namespace LS
open PySem PySem.Spec PyProof.Rows L2 LA
local macro_rules | `(tactic| walk_at "la") => `(tactic| try simp only [aSeq, aIfS, aTest, aOp, aVar, aC, aRet, aNext, aDropS, aAsg, aAnd, aOr, aNot, aAndV, aOrV, aNotV, aChain, aCons, aNil, aCall, aCB, aTup, aLst, aMt, mt_ref, aSl, oSl_pre, oSl_pre1, oSl_0, aPart, aNoP, agName, agC, agE, agT_tup, agT_cell, agT_ent, agT_stand, aEnds, astart,
  List.map_cons, List.map_nil, List.length_cons, List.length_nil, List.cons_append, List.nil_append, List.getElem?_cons_zero, List.getElem?_cons_succ, List.set_cons_zero, List.set_cons_succ, List.replicate_succ, List.replicate_zero, Nat.reduceAdd, Nat.reduceSub, Nat.reduceLeDiff, Nat.zero_le, somex, somexx, blx, intx, tupx,
  at0, at1, at2, at3, oEq_ii, oEq_bb, oNe_ii, oNe_bb, oEq_one, oEq_two, oIx_tup, oIx_cell, oIx_cells, oIx_th, oIx_stand, oIx_ent, oLt_ii, oLt_th, oLt_opt, oLe_ii, oGt_ii, oGe_ii, oAdd_ii, oSub_ii, oMod_ii, Int.reduceLT, Int.reduceLE, isN_non, isN_opt, notN_opt, isN_th, notN_th, cLen_tup, cLen_cells, cLen_ths, cInt_bl,
  isI_int, isB_int, isB_bl, isT_tup, isT_non, isT_int, isS_int, ite_tt, ite_ff, ite_not, ite_dec, Bool.not_true, Bool.not_false, nat0, nat1, nat2, nat3, true_and, ↓reduceIte, Option.isNone_none, Option.isNone_some, Option.isSome_none, Option.isSome_some, List.isEmpty_nil])
theorem i_law_one_cell {s : Stand} {pre rest : List Cell} {c : Cell} {G : AH} {Q : AQ} (hl : pre.length + rest.length ≤ 900) (e : s.cells = pre ++ c :: rest) (q : Q (.bl (lawOneB s.turn pre.length c rest)) G) : sp_law_one_cell [standV s, .int (pre.length : Int)] G Q := ⟨s, pre, c, rest, hl, e, rfl, q⟩
theorem hand_step {k h : Option Th} {G0 : AH} {Q : AQ} {R : AH → Prop} (h1 : lawHandB (k, h) = true → R G0) (h2 : lawHandB (k, h) = false → aDrop Q (.bl false) G0) :
    if h.isSome = true then if k.isNone = true then aDrop Q (.bl false) G0 else oLt (optV h) (optV k) G0 fun x G1 => ∃ b, x = .bl b ∧ if b = true then aDrop Q (.bl false) G1 else R G1 else R G0 := by
  cases h with
  | none => walk_at "la"; exact h1 rfl
  | some h => cases k with
    | none => walk_at "la"; exact h2 rfl
    | some k =>
      walk_at "la"
      cases ht : tlt h k with
      | true =>
        show aDrop Q (.bl false) G0
        exact h2 (by show (!tlt h k) = false; rw [ht]; rfl)
      | false =>
        show R G0
        exact h1 (by show (!tlt h k) = true; rw [ht]; rfl)
theorem len_law_in_order : ∀ xs G Q, sp_law_in_order xs G Q → xs.length = 1 := fun _ _ _ ⟨_, _, e, _⟩ => by rw [e]; rfl
theorem r_law_in_order : ∀ xs G Q, sp_law_in_order xs G Q → a_law_in_order (aEnds Q) (astart 7 xs) G := by
  rintro xs G Q ⟨s, hl, rfl, q⟩
  unfold a_law_in_order
  walk_at "la"
  refine for_enum cellV s.cells (fun d r S G' => Sub G G' ∧ (∃ l l2, S = [some (standV s), some (kindV s.one), some (.int s.turn), some (.int s.came), some (cellsV s.cells), l, l2]) ∧ lawB s = lawFrom s.one s.turn d.length r) (fun R q => ?_) ⟨Sub.refl G, ⟨none, none, rfl⟩, rfl⟩ (fun d y r S G' e h => ?_) (fun S G' h => ?_)
  · walk_at "la"
    exact q
  · obtain ⟨hS, ⟨l, l2, rfl⟩, ho⟩ := h
    have hlen : d.length + r.length + 1 = s.cells.length := by rw [← e]; simp; omega
    have hI : (s.cells.length : Int) - (d.length : Int) = (((y :: r).length : Nat) : Int) := by simp; omega
    obtain ⟨k, h⟩ := y
    walk_at "la"
    rw [← e]
    walk_at "la"
    refine i_law_in_cells (by simp; omega) fun p hp => ?_
    refine c_len aupd_same ?_
    walk_at "la"
    rw [e, hI, List.length_map]
    have hS2 := fun ws => hS.trans (Sub.new (xs := ws) hp)
    unfold lawFrom lawCellB at ho
    cases hr : roomB ((k, h) :: r) with
    | false =>
      have hr' := of_decide_eq_false hr
      rw [if_pos (by omega)]
      refine ⟨G, hS2 _, ?_⟩
      rw [ho] at q
      simpa [hr] using q
    | true =>
      have hr' := of_decide_eq_true hr
      rw [if_neg (by omega)]
      rw [hr] at ho
      walk_at "la"
      refine hand_step (fun hh => ?_) (fun hh => ?_)
      · rw [hh] at ho
        have hd1 : (d ++ [(k, h)]).length = d.length + 1 := by simp
        cases hk : s.one with
        | true =>
          walk_at "la"
          refine i_law_one_cell (by omega) e.symm ?_
          walk_at "la"
          cases hb : lawOneB s.turn d.length (k, h) r with
          | false =>
            walk_at "la"
            refine ⟨G, hS2 _, ?_⟩
            rw [ho] at q
            simpa [hk, hb] using q
          | true =>
            walk_at "la"
            refine ⟨hS2 _, ⟨_, _, rfl⟩, ?_⟩
            rw [ho, hd1]
            simp [hk, hb]
        | false =>
          walk_at "la"
          have X : firstB s.turn d.length = true → if h.isSome = true then aDrop Q (.bl false) (aupd G' p ((things ((k, h) :: r)).map thV)) else sp_law_leads [cellsV s.cells, .int (d.length : Int)] (aupd G' p ((things ((k, h) :: r)).map thV)) fun x G1 => ∃ b, x = .bl b ∧ if b = true then Sub G G1 ∧ (∃ l l2, [some (standV s), some (kindV false), some (.int s.turn), some (.int s.came), some (cellsV s.cells), some (.int (d.length : Int)), some (cellV (k, h))] = [some (standV s), some (kindV false), some (.int s.turn), some (.int s.came), some (cellsV s.cells), l, l2]) ∧ lawB s = lawFrom false s.turn (d ++ [(k, h)]).length r else aDrop Q (.bl false) G1 := by
            intro hf
            cases hh2 : h with
            | some h' =>
              walk_at "la"
              refine ⟨G, hS2 _, ?_⟩
              rw [ho] at q
              simpa [hk, hf, hh2] using q
            | none =>
              walk_at "la"
              rw [← e]
              rw [hh2]
              refine i_law_leads (by omega) ?_
              walk_at "la"
              cases hb : aheadB k (things r) with
              | false =>
                walk_at "la"
                refine ⟨G, hS2 _, ?_⟩
                rw [ho] at q
                simpa [hk, hf, hh2, hb] using q
              | true =>
                walk_at "la"
                refine ⟨hS2 _, ⟨_, _, rfl⟩, ?_⟩
                rw [← hh2, ho, hd1]
                simp [hk, hf, hh2, hb]
          have Y : firstB s.turn d.length = false → Sub G (aupd G' p ((things ((k, h) :: r)).map thV)) ∧ (∃ l l2, [some (standV s), some (kindV false), some (.int s.turn), some (.int s.came), some (cellsV s.cells), some (.int (d.length : Int)), some (cellV (k, h))] = [some (standV s), some (kindV false), some (.int s.turn), some (.int s.came), some (cellsV s.cells), l, l2]) ∧ lawB s = lawFrom false s.turn (d ++ [(k, h)]).length r := by
            intro hf
            refine ⟨hS2 _, ⟨_, _, rfl⟩, ?_⟩
            rw [ho, hd1]
            simp [hk, hf]
          unfold firstB at X Y
          by_cases h2 : (d.length : Int) % 2 = s.turn
          · rw [if_pos h2]
            by_cases h0 : d.length = 0
            · have h0' : (d.length : Int) = 0 := by omega
              rw [if_pos h0']
              exact X (by simp [h0])
            · have h0' : ¬ (d.length : Int) = 0 := by omega
              rw [if_neg h0']
              exact Y (by simp [h0, h2])
          · rw [if_neg h2]
            exact X (by simp [h2])
      · rw [hh] at ho
        refine ⟨G, hS2 _, ?_⟩
        rw [ho] at q
        simpa using q
  · obtain ⟨hS, ⟨l, l2, rfl⟩, ho⟩ := h
    rw [ho] at q
    walk_at "la"
    exact ⟨G, hS, q⟩
end LS
set_option Elab.async false
set_option linter.all false
set_option maxRecDepth 100000
set_option maxHeartbeats 4000000
namespace LS
open PySem PySem.Spec PyProof.Rows L2 LA
local macro_rules | `(tactic| walk_at "la") => `(tactic| try simp only [aSeq, aIfS, aTest, aOp, aVar, aC, aRet, aNext, aDropS, aAsg, aAnd, aOr, aNot, aAndV, aOrV, aNotV, aChain, aCons, aNil, aCall, aCB, aTup, aLst, aMt, mt_ref, aSl, oSl_pre, oSl_pre1, oSl_0, aPart, aNoP, agName, agC, agE, agT_tup, agT_cell, agT_ent, agT_stand, aEnds, astart,
  List.map_cons, List.map_nil, List.length_cons, List.length_nil, List.cons_append, List.nil_append, List.getElem?_cons_zero, List.getElem?_cons_succ, List.set_cons_zero, List.set_cons_succ, List.replicate_succ, List.replicate_zero, Nat.reduceAdd, Nat.reduceSub, Nat.reduceLeDiff, Nat.zero_le, somex, somexx, blx, intx, tupx,
  at0, at1, at2, at3, oEq_ii, oEq_bb, oNe_ii, oNe_bb, oEq_one, oEq_two, oIx_tup, oIx_cell, oIx_cells, oIx_th, oIx_stand, oIx_ent, oLt_ii, oLt_th, oLt_opt, oLe_ii, oGt_ii, oGe_ii, oAdd_ii, oSub_ii, oMod_ii, Int.reduceLT, Int.reduceLE, isN_non, isN_opt, notN_opt, isN_th, notN_th, cLen_tup, cLen_cells, cLen_ths, cInt_bl,
  isI_int, isB_int, isB_bl, isT_tup, isT_non, isT_int, isS_int, ite_tt, ite_ff, ite_not, ite_dec, Bool.not_true, Bool.not_false, nat0, nat1, nat2, nat3, true_and, ↓reduceIte, Option.isNone_none, Option.isNone_some, Option.isSome_none, Option.isSome_some, List.isEmpty_nil])
theorem i_law_in_order {s : Stand} {G : AH} {Q : AQ} (hl : s.cells.length ≤ 900) (q : Q (.bl (lawB s)) G) : sp_law_in_order [standV s] G Q := ⟨s, hl, rfl, q⟩
theorem entries_drop : ∀ (i : Nat) (cs : List Cell), (entries cs).drop i = entries (cs.drop i)
  | 0, _ => rfl
  | i + 1, [] => rfl
  | i + 1, c :: cs => by
    show (entries cs).drop i = entries (cs.drop i)
    exact entries_drop i cs
theorem len_law_entries : ∀ xs G Q, sp_law_entries xs G Q → xs.length = 1 := fun _ _ _ ⟨_, _, e, _⟩ => by rw [e]; rfl
theorem r_law_entries : ∀ xs G Q, sp_law_entries xs G Q → a_law_entries (aEnds Q) (astart 3 xs) G := by
  rintro xs G Q ⟨cs, hl, rfl, q⟩
  unfold a_law_entries
  walk_at "la"
  intro p hp
  refine for_rng cs.length (fun i S G' => (∃ l, S = [some (cellsV cs), some (.ref p), l]) ∧ G' p = some (((entries cs).take i).map entV) ∧ Sub G G') (fun R q => ?_) (by omega) ⟨⟨none, rfl⟩, aupd_same, Sub.new hp⟩ (fun i S G' hi h => ?_) (fun S G' h => ?_)
  · walk_at "la"
    exact q
  · obtain ⟨⟨l, rfl⟩, h1, h2⟩ := h
    obtain ⟨pre, c, rest, e, hpl, hd, hd1⟩ := split_at hi
    have hlen : pre.length + rest.length + 1 = cs.length := by rw [e]; simp; omega
    have he : (entries cs).drop i = (minO (things rest), (things (c :: rest)).length) :: entries rest := by rw [entries_drop, hd]; rfl
    have hil : i < (entries cs).length := by rw [entries_len]; exact hi
    have ht : (entries cs).take (i + 1) = (entries cs).take i ++ [(minO (things rest), (things (c :: rest)).length)] := by
      rw [List.drop_eq_getElem_cons hil] at he
      rw [List.take_succ, List.getElem?_eq_getElem hil, (List.cons.inj he).1]
      rfl
    walk_at "la"
    refine ⟨⟨_, h1⟩, ?_⟩
    have hc : [some (cellsV cs), some (AV.ref p), some (AV.int (i : Int))] = [some (cellsV (pre ++ c :: rest)), some (AV.ref p), some (AV.int (pre.length : Int))] := by rw [e, hpl]
    have hc2 : sp_law_least_beyond [cellsV cs, AV.int (i : Int)] = sp_law_least_beyond [cellsV (pre ++ c :: rest), AV.int (pre.length : Int)] := by rw [e, hpl]
    rw [hc2]
    refine i_law_least_beyond (by omega) ?_
    have hc3 : ∀ (k : AT) (G : AH) (Q : AQ), oSl (cellsV cs) (some (i : Int)) none G Q = Q (cellsV (c :: rest)) G := fun k G Q => by
      rw [e, ← hpl, oSl_pre]
    rw [hc3 (aVar 0)]
    refine i_law_in_cells (by simp; omega) fun r hr => ?_
    refine c_len aupd_same ?_
    try simp only [true_and]
    refine m_append (aold h1 hr) ?_ ⟨⟨_, rfl⟩, ?_, ?_⟩
    · rw [List.length_map, List.length_take]
      omega
    · rw [aupd_same, ht, List.map_append, List.length_map]
      rfl
    · exact (h2.trans (Sub.new hr)).own hp
  · obtain ⟨⟨l, rfl⟩, h1, h2⟩ := h
    rw [show cs.length = (entries cs).length from (entries_len cs).symm, List.take_length] at h1
    walk_at "la"
    exact c_tuple h1 ⟨G, h2, q⟩
theorem i_law_entries {cs : List Cell} {G : AH} {Q : AQ} (hl : cs.length ≤ 900) (q : Q (entriesV (entries cs)) G) : sp_law_entries [cellsV cs] G Q := ⟨cs, hl, rfl, q⟩
theorem len_law_like (n : Nat) : ∀ xs G Q, sp_law_like n xs G Q → xs.length = 2 := fun _ _ _ ⟨_, e, _⟩ => by rw [e]; rfl
theorem r_law_like (n : Nat) : ∀ xs G Q, sp_law_like (n + 1) xs G Q → a_law_like (sp_law_like n) (aEnds Q) (astart 4 xs) G := by
  rintro xs G Q ⟨x, rfl, hx, q⟩
  unfold a_law_like
  rcases hx with rfl | ⟨i, rfl⟩ | ⟨ys, rfl, hl, hy⟩
  · walk_at "la"
    exact drop_same q
  · have h1 : ∀ {G : AH} {Q : AQ}, oIsN (.int i) .non G Q = Q (.bl false) G := by simp [oIsN, isNon]
    walk_at "la"
    simp only [h1]
    walk_at "la"
    simp only [decide_true]
    exact drop_same q
  · walk_at "la"
    unfold aLc aiZip
    walk_at "la"
    refine fun p hp => ⟨fun i G' => G' = aupd G p [], rfl, fun _ _ _ _ => trivial, fun i z G' hz e => ?_, fun G' e => ?_⟩
    · subst e
      obtain ⟨x, y, h1, h2, rfl⟩ := zipA_of hz
      rw [h1] at h2
      cases h2
      refine ⟨x, x, rfl, ?_⟩
      unfold aTurn
      walk_at "la"
      refine ⟨x, rfl, hy x (List.mem_of_getElem? h1), ?_⟩
      walk_at "la"
    · subst e
      intro p2 hp2
      refine eq_lst0 (ts := []) (aold aupd_same hp2) aupd_same ?_
      exact ⟨G, (Sub.new hp).trans (Sub.new hp2), q⟩
theorem len_law_truth : ∀ xs G Q, sp_law_truth xs G Q → xs.length = 2 := fun _ _ _ ⟨_, _, e, _⟩ => by rw [e]; rfl
theorem r_law_truth : ∀ xs G Q, sp_law_truth xs G Q → a_law_truth (aEnds Q) (astart 2 xs) G := by
  rintro xs G Q ⟨a, b, rfl, q⟩
  have q := drop_same q
  unfold a_law_truth
  walk_at "la"
  exact q
theorem i_law_truth {a b : Bool} {G : AH} {Q : AQ} (q : Q (.bl (decide (a = b))) G) : sp_law_truth [.bl a, .bl b] G Q := ⟨a, b, rfl, q⟩
theorem len_law_seen : ∀ xs G Q, sp_law_seen xs G Q → xs.length = 2 := fun _ _ _ ⟨_, _, _, e, _⟩ => by rw [e]; rfl
theorem r_law_seen : ∀ xs G Q, sp_law_seen xs G Q → a_law_seen (aEnds Q) (astart 9 xs) G := by
  rintro xs G Q ⟨s, hl, ho, rfl, q⟩
  have q := drop_same q
  unfold a_law_seen
  walk_at "la"
  refine for_enum entV (entries s.cells) (fun d r S G' => G' = G ∧ (∃ l1 l2 l3, S = [some (standV s), some (entriesV (entries s.cells)), some (kindV s.one), some (.int s.turn), some (.int s.came), some (cellsV s.cells), l1, l2, l3]) ∧ orderFrom s.one s.turn d.length (s.cells.drop d.length) = true) (fun R q => ?_) ⟨rfl, ⟨none, none, none, rfl⟩, ho⟩ (fun d y r S G' e h => ?_) (fun S G' h => ?_)
  · walk_at "la"
    exact q
  · obtain ⟨rfl, ⟨l1, l2, l3, rfl⟩, h2⟩ := h
    have hi : d.length < s.cells.length := by
      have := congrArg List.length e
      rw [entries_len] at this
      simp at this
      omega
    obtain ⟨pre, ⟨k, h⟩, rest, ec, hpl, hd, hd1⟩ := split_at hi
    have hlen : pre.length + rest.length + 1 = s.cells.length := by rw [ec]; simp; omega
    have he : (entries s.cells).drop d.length = (minO (things rest), (things ((k, h) :: rest)).length) :: entries rest := by rw [entries_drop, hd]; rfl
    have hy : y = (minO (things rest), (things ((k, h) :: rest)).length) := by
      rw [← e, List.drop_left] at he
      exact (List.cons.inj he).1
    subst hy
    rw [hd] at h2
    unfold orderFrom cellB at h2
    rw [Bool.and_eq_true, Bool.and_eq_true] at h2
    obtain ⟨⟨h3, h4⟩, h5⟩ := h2
    have h3 := of_decide_eq_true h3
    have hI : (s.cells.length : Int) - (d.length : Int) = ((((k, h) :: rest).length : Nat) : Int) := by simp; omega
    have hat : atI (s.cells.map cellV) (d.length : Int) = some (cellV (k, h)) := by rw [ec, ← hpl]; exact at_pre _ _ _ _
    have hdl : (d ++ [(minO (things rest), (things ((k, h) :: rest)).length)]).length = d.length + 1 := by simp
    have hneg : ((s.cells.length : Int) - (d.length : Int) < ((things ((k, h) :: rest)).length : Int)) = False := eq_false (by omega)
    walk_at "la"
    simp only [hat, hneg, ↓reduceIte]
    walk_at "la"
    have fin : orderFrom s.one s.turn (d ++ [(minO (things rest), (things ((k, h) :: rest)).length)]).length (s.cells.drop (d ++ [(minO (things rest), (things ((k, h) :: rest)).length)]).length) = true := by
      rw [hdl, hd1]; exact h5
    have ah : (if s.one = true then k.isSome else firstB s.turn d.length) = true → aheadB k (things rest) = true := by
      intro hf
      cases hk : s.one with
      | true =>
        rw [hk] at h4 hf
        cases k with
        | none => cases hf
        | some k =>
          unfold oneB at h4
          cases ha : aheadB (some k) (things rest) with
          | true => rfl
          | false => simp [ha] at h4
      | false =>
        rw [hk] at h4 hf
        have hf : firstB s.turn d.length = true := hf
        unfold twoB leadsB at h4
        rw [hf] at h4
        simp at h4
        exact h4.2
    cases hk : s.one with
    | true =>
      rw [hk] at fin ah
      cases k with
      | none =>
        walk_at "la"
        split <;> exact ⟨⟨_, _, _, rfl⟩, fin⟩
      | some k =>
        have ah := ah rfl
        unfold aheadB at ah
        cases hm : minO (things rest) with
        | none =>
          rw [hm] at fin
          walk_at "la"
          split <;> exact ⟨⟨_, _, _, rfl⟩, fin⟩
        | some m =>
          rw [hm] at ah fin
          have ah : tlt k m = true := ah
          walk_at "la"
          rw [ah]
          walk_at "la"
          split <;> exact ⟨⟨_, _, _, rfl⟩, fin⟩
    | false =>
      rw [hk] at fin ah
      have ah : firstB s.turn d.length = true → aheadB k (things rest) = true := ah
      have tl : ∀ x : AV, firstB s.turn d.length = true → if (minO (things rest)).isSome = true then if k.isNone = true then aDrop Q (.bl false) G' else oLt (optV k) (optV (minO (things rest))) G' fun x_1 G1 => ∃ b, x_1 = .bl b ∧ if b = true then G1 = G' ∧ (∃ l1 l2 l3, [some (standV s), some (entriesV (entries s.cells)), some (kindV false), some (.int s.turn), some (.int s.came), some (cellsV s.cells), some (.int (d.length : Int)), some (entV (minO (things rest), (things ((k, h) :: rest)).length)), some x] = [some (standV s), some (entriesV (entries s.cells)), some (kindV false), some (.int s.turn), some (.int s.came), some (cellsV s.cells), l1, l2, l3]) ∧ orderFrom false s.turn (d ++ [(minO (things rest), (things ((k, h) :: rest)).length)]).length (s.cells.drop (d ++ [(minO (things rest), (things ((k, h) :: rest)).length)]).length) = true else aDrop Q (.bl false) G1
          else (∃ l1 l2 l3, [some (standV s), some (entriesV (entries s.cells)), some (kindV false), some (.int s.turn), some (.int s.came), some (cellsV s.cells), some (.int (d.length : Int)), some (entV (minO (things rest), (things ((k, h) :: rest)).length)), some x] = [some (standV s), some (entriesV (entries s.cells)), some (kindV false), some (.int s.turn), some (.int s.came), some (cellsV s.cells), l1, l2, l3]) ∧ orderFrom false s.turn (d ++ [(minO (things rest), (things ((k, h) :: rest)).length)]).length (s.cells.drop (d ++ [(minO (things rest), (things ((k, h) :: rest)).length)]).length) = true := by
        intro x hf
        have ah := ah hf
        unfold aheadB at ah
        cases hm : minO (things rest) with
        | none =>
          rw [hm] at fin
          exact ⟨⟨_, _, _, rfl⟩, fin⟩
        | some m =>
          rw [hm] at ah fin
          cases k with
          | none => cases ah
          | some k =>
            have ah : tlt k m = true := ah
            walk_at "la"
            rw [ah]
            walk_at "la"
            exact ⟨⟨_, _, _, rfl⟩, fin⟩
      walk_at "la"
      unfold firstB at tl
      by_cases h0 : d.length = 0
      · have h0' : (d.length : Int) = 0 := by omega
        rw [if_pos h0']
        exact tl _ (by simp [h0])
      · have h0' : ¬ (d.length : Int) = 0 := by omega
        rw [if_neg h0']
        by_cases h2 : (d.length : Int) % 2 = s.turn
        · rw [if_pos h2]
          exact ⟨⟨_, _, _, rfl⟩, fin⟩
        · rw [if_neg h2]
          exact tl _ (by simp [h2])
  · obtain ⟨rfl, ⟨l1, l2, l3, rfl⟩, h2⟩ := h
    walk_at "la"
    exact q
end LS
set_option Elab.async false
set_option linter.all false
set_option maxRecDepth 100000
set_option maxHeartbeats 4000000
namespace LS
open PySem PySem.Spec PyProof.Rows L2 LA
local macro_rules | `(tactic| walk_at "la") => `(tactic| try simp only [aSeq, aIfS, aTest, aOp, aVar, aC, aRet, aNext, aDropS, aAsg, aAnd, aOr, aNot, aAndV, aOrV, aNotV, aChain, aCons, aNil, aCall, aCB, aTup, aLst, aMt, mt_ref, aSl, oSl_pre, oSl_pre1, oSl_0, aPart, aNoP, agName, agC, agE, agT_tup, agT_cell, agT_ent, agT_stand, aEnds, astart,
  List.map_cons, List.map_nil, List.length_cons, List.length_nil, List.cons_append, List.nil_append, List.getElem?_cons_zero, List.getElem?_cons_succ, List.set_cons_zero, List.set_cons_succ, List.replicate_succ, List.replicate_zero, Nat.reduceAdd, Nat.reduceSub, Nat.reduceLeDiff, Nat.zero_le, somex, somexx, blx, intx, tupx,
  at0, at1, at2, at3, oEq_ii, oEq_bb, oNe_ii, oNe_bb, oEq_one, oEq_two, oIx_tup, oIx_cell, oIx_cells, oIx_th, oIx_stand, oIx_ent, oLt_ii, oLt_th, oLt_opt, oLe_ii, oGt_ii, oGe_ii, oAdd_ii, oSub_ii, oMod_ii, Int.reduceLT, Int.reduceLE, isN_non, isN_opt, notN_opt, isN_th, notN_th, cLen_tup, cLen_cells, cLen_ths, cInt_bl,
  isI_int, isB_int, isB_bl, isT_tup, isT_non, isT_int, isS_int, ite_tt, ite_ff, ite_not, ite_dec, Bool.not_true, Bool.not_false, nat0, nat1, nat2, nat3, true_and, ↓reduceIte, Option.isNone_none, Option.isNone_some, Option.isSome_none, Option.isSome_some, List.isEmpty_nil])
/-! ### the law's wording says the same -/
theorem tlt_ne {k h : Th} (ne : k ≠ h) : tlt k h = !tlt h k := by
  have h1 := tlt_iff k h
  have h2 := tlt_iff h k
  have h3 : ¬ (k.1 = h.1 ∧ k.2 = h.2) := fun e => ne (Prod.ext e.1 e.2)
  cases a : tlt k h <;> cases b : tlt h k <;> simp [a, b] at h1 h2 ⊢ <;> omega
def apart (c : Cell) : Prop := ∀ k h, c = (some k, some h) → k ≠ h
theorem hand_same {c : Cell} (a : apart c) : lawHandB c = handB c := by
  obtain ⟨k, h⟩ := c
  cases h with
  | none => rfl
  | some h => cases k with
    | none => rfl
    | some k =>
      show (!tlt h k) = tlt k h
      rw [tlt_ne (a k h rfl)]
theorem cell_same {one : Bool} {turn : Int} {p : Nat} {c : Cell} {rest : List Cell} (a : apart c) : lawCellB one turn p c rest = cellB one turn p c rest := by
  unfold lawCellB cellB
  rw [hand_same a]
  cases roomB (c :: rest) with
  | false => rfl
  | true =>
    obtain ⟨k, h⟩ := c
    unfold lawOneB oneB twoB leadsB holeB
    generalize aheadB k (things rest) = ah
    generalize firstB turn p = fb
    generalize (things rest).isEmpty = em
    generalize keepAt rest = ka
    generalize decide (turn = 0) = t0
    generalize decide (p = 0) = p0
    cases k with
    | none => cases h with
      | none =>
        simp only [handB]
        cases one <;> cases ah <;> cases fb <;> cases em <;> cases ka <;> cases t0 <;> cases p0 <;> rfl
      | some h =>
        simp only [handB]
        cases one <;> cases ah <;> cases fb <;> cases em <;> cases ka <;> cases t0 <;> cases p0 <;> rfl
    | some k => cases h with
      | none =>
        simp only [handB]
        cases one <;> cases ah <;> cases fb <;> cases em <;> cases ka <;> cases t0 <;> cases p0 <;> rfl
      | some h =>
        simp only [handB]
        generalize tlt k h = hb
        cases hb <;> cases one <;> cases ah <;> cases fb <;> cases em <;> cases ka <;> cases t0 <;> cases p0 <;> rfl
theorem from_same {one : Bool} {turn : Int} : ∀ (cs : List Cell) (p : Nat), (∀ c ∈ cs, apart c) → lawFrom one turn p cs = orderFrom one turn p cs
  | [], _, _ => rfl
  | c :: cs, p, a => by
    unfold lawFrom orderFrom
    rw [cell_same (a c (List.mem_cons_self ..)), from_same cs (p + 1) fun x hx => a x (List.mem_cons_of_mem _ hx)]
theorem apart_of {cs : List Cell} (h : ∀ t, (things cs).count t ≤ 1) : ∀ c ∈ cs, apart c := by
  induction cs with
  | nil => intro c hc; cases hc
  | cons d cs ih =>
    intro c hc
    rcases List.mem_cons.mp hc with rfl | hc
    · intro k hh e kh
      subst e kh
      have := h k
      simp [things, List.count_append] at this
    · refine ih (fun t => ?_) c hc
      have := h t
      simp [things, List.count_append] at this
      omega
theorem law_same {b : Int} {s : Stand} (h : okS b s) : lawB s = orderB s := from_same s.cells 0 (apart_of h.once)
/-! ### entries of good stands are good -/
theorem minO_mem {l : List Th} {m : Th} (h : minO l = some m) : m ∈ l := by
  cases l with
  | nil => cases h
  | cons t r =>
    have : ∀ (r : List Th) (t : Th), minT t r = t ∨ minT t r ∈ r := by
      intro r
      induction r with
      | nil => intro t; exact .inl rfl
      | cons u r ih =>
        intro t
        rw [minT_mn, List.foldl_cons, ← minT_mn]
        rcases ih (mn t u) with e | e
        · rw [e]
          unfold mn
          split
          · exact .inr (List.mem_cons_self ..)
          · exact .inl rfl
        · exact .inr (List.mem_cons_of_mem _ e)
    cases h
    rcases this r t with e | e
    · rw [e]; exact List.mem_cons_self ..
    · exact List.mem_cons_of_mem _ e
theorem entries_good : ∀ (cs : List Cell), (∀ t ∈ things cs, goodT t = true) → ∀ e ∈ entries cs, goodE e = true
  | [], _, _, he => by cases he
  | c :: cs, h, e, he => by
    rcases List.mem_cons.mp he with rfl | he
    · unfold goodE
      cases hm : minO (things cs) with
      | none => rfl
      | some m =>
        show goodT m = true
        refine h m ?_
        show m ∈ c.1.toList ++ (c.2.toList ++ things cs)
        exact List.mem_append_right _ (List.mem_append_right _ (minO_mem hm))
    · refine entries_good cs (fun t ht => h t ?_) e he
      show t ∈ c.1.toList ++ (c.2.toList ++ things cs)
      exact List.mem_append_right _ (List.mem_append_right _ ht)
theorem okS_good {b : Int} {s : Stand} (h : okS b s) (hb : b ≤ 1000000) : ∀ e ∈ entries s.cells, goodE e = true := by
  refine entries_good s.cells fun t ht => ?_
  obtain ⟨h1, h2⟩ := h.good t ht
  have h3 := h.came
  unfold goodT
  simp only [Bool.and_eq_true, decide_eq_true_eq]
  omega
end LS
set_option Elab.async false
set_option linter.all false
set_option maxRecDepth 100000
set_option maxHeartbeats 4000000
namespace LS
open PySem PySem.Spec PyProof.Rows L2 LA
local macro_rules | `(tactic| walk_at "la") => `(tactic| try simp only [aSeq, aIfS, aTest, aOp, aVar, aC, aRet, aNext, aDropS, aAsg, aAnd, aOr, aNot, aAndV, aOrV, aNotV, aChain, aCons, aNil, aCall, aCB, aTup, aLst, aMt, mt_ref, aSl, oSl_pre, oSl_pre1, oSl_0, aPart, aNoP, agName, agC, agE, agT_tup, agT_cell, agT_ent, agT_stand, aEnds, astart,
  List.map_cons, List.map_nil, List.length_cons, List.length_nil, List.cons_append, List.nil_append, List.getElem?_cons_zero, List.getElem?_cons_succ, List.set_cons_zero, List.set_cons_succ, List.replicate_succ, List.replicate_zero, Nat.reduceAdd, Nat.reduceSub, Nat.reduceLeDiff, Nat.zero_le, somex, somexx, blx, intx, tupx,
  at0, at1, at2, at3, oEq_ii, oEq_bb, oNe_ii, oNe_bb, oEq_one, oEq_two, oIx_tup, oIx_cell, oIx_cells, oIx_th, oIx_stand, oIx_ent, oLt_ii, oLt_th, oLt_opt, oLe_ii, oGt_ii, oGe_ii, oAdd_ii, oSub_ii, oMod_ii, Int.reduceLT, Int.reduceLE, isN_non, isN_opt, notN_opt, isN_th, notN_th, cLen_tup, cLen_cells, cLen_ths, cInt_bl,
  isI_int, isB_int, isB_bl, isT_tup, isT_non, isT_int, isS_int, ite_tt, ite_ff, ite_not, ite_dec, Bool.not_true, Bool.not_false, nat0, nat1, nat2, nat3, true_and, ↓reduceIte, Option.isNone_none, Option.isNone_some, Option.isSome_none, Option.isSome_some, List.isEmpty_nil])
/-! ### the drawn list and lists of the def's own -/
theorem Keep.refl (E : List Addr) (G : AH) : Keep E G G := fun _ _ _ h => h
theorem Keep.trans {E : List Addr} {G G1 G2 : AH} (h : Keep E G G1) (k : Keep E G1 G2) : Keep E G G2 := fun a xs e q => k a xs e (h a xs e q)
theorem Keep.more {E F : List Addr} {G G1 : AH} (h : Keep E G G1) (s : ∀ a ∈ E, a ∈ F) : Keep F G G1 := fun a xs e q => h a xs (fun z => e (s a z)) q
theorem Keep.of_sub {E : List Addr} {G G1 : AH} (h : Sub G G1) : Keep E G G1 := fun a xs _ q => h a xs q
theorem Keep.new {E : List Addr} {G G1 : AH} {p : Addr} {xs : List AV} (h : Keep E G G1) (hp : G1 p = none) : Keep E G (aupd G1 p xs) := fun a ys e q => aold (h a ys e q) hp
/-- a list that the first does not know, or that may change -/
theorem Keep.own {E : List Addr} {G G1 : AH} {p : Addr} {xs : List AV} (h : Keep E G G1) (hp : p ∈ E ∨ G p = none) : Keep E G (aupd G1 p xs) := fun a ys e q => by
  rcases hp with hp | hp
  · exact aoth (h a ys e q) (fun z => e (z ▸ hp))
  · exact aoth (h a ys e q) (ane_of_none q hp)
variable {d c r : Addr} {b : Int} {G G' : AH}
theorem Dr.oth (h : Dr d c r b G) {p : Addr} {xs : List AV} (hd : p ≠ d) (hc : p ≠ c) (hr : p ≠ r) : Dr d c r b (aupd G p xs) := by
  obtain ⟨m, h1, h2, h3⟩ := h.dd
  obtain ⟨us, vs, h4, h5, h6⟩ := h.cr
  exact ⟨h.ne, ⟨m, h1, h2, aoth h3 hd.symm⟩, ⟨us, vs, aoth h4 hc.symm, aoth h5 hr.symm, h6⟩⟩
theorem Dr.isd (h : Dr d c r b G) : (∃ xs, G d = some xs) ∧ (∃ xs, G c = some xs) ∧ ∃ xs, G r = some xs := by
  obtain ⟨m, h1, h2, h3⟩ := h.dd
  obtain ⟨us, vs, h4, h5, h6⟩ := h.cr
  exact ⟨⟨_, h3⟩, ⟨_, h4⟩, ⟨_, h5⟩⟩
theorem Dr.ne_new (h : Dr d c r b G) {p : Addr} (hp : G p = none) : p ≠ d ∧ p ≠ c ∧ p ≠ r := by
  obtain ⟨⟨_, h1⟩, ⟨_, h2⟩, ⟨_, h3⟩⟩ := h.isd
  exact ⟨(ane_of_none h1 hp).symm, (ane_of_none h2 hp).symm, (ane_of_none h3 hp).symm⟩
theorem Dr.new (h : Dr d c r b G) {p : Addr} {xs : List AV} (hp : G p = none) : Dr d c r b (aupd G p xs) := let ⟨h1, h2, h3⟩ := h.ne_new hp; h.oth h1 h2 h3
theorem Dr.mono (h : Dr d c r b G) {b' : Int} (hb : b ≤ b') : Dr d c r b' G := by
  obtain ⟨m, h1, h2, h3⟩ := h.dd
  exact ⟨h.ne, ⟨m, h1, by omega, h3⟩, h.cr⟩
theorem Own.new (h : Dr d c r b G) {p : Addr} {xs : List AV} (hp : G p = none) : Own d c r p xs (aupd G p xs) := ⟨aupd_same, h.ne_new hp⟩
theorem Own.set {p : Addr} {xs ys : List AV} (h : Own d c r p xs G) : Own d c r p ys (aupd G p ys) := ⟨aupd_same, h.ne⟩
theorem Own.dr {p : Addr} {xs ys : List AV} (h : Own d c r p xs G) (hd : Dr d c r b G) : Dr d c r b (aupd G p ys) := hd.oth h.ne.1 h.ne.2.1 h.ne.2.2
theorem Own.old {p q : Addr} {xs ys : List AV} (h : Own d c r p xs G) (hq : G q = none) : Own d c r p xs (aupd G q ys) := ⟨aold h.at_ hq, h.ne⟩
theorem Own.oth {p q : Addr} {xs ys : List AV} (h : Own d c r p xs G) (hq : p ≠ q) : Own d c r p xs (aupd G q ys) := ⟨aoth h.at_ hq, h.ne⟩
theorem Own.keep {p : Addr} {xs : List AV} (h : Own d c r p xs G) (k : Keep [d, r] G G') : Own d c r p xs G' := ⟨k _ _ (by simp [h.ne.1, h.ne.2.2]) h.at_, h.ne⟩
theorem Own.keepL {p l : Addr} {xs : List AV} (h : Own d c r p xs G) (k : Keep [d, r, l] G G') (hl : p ≠ l) : Own d c r p xs G' := ⟨k _ _ (by simp [h.ne.1, h.ne.2.2, hl]) h.at_, h.ne⟩
theorem Own.diff {p q : Addr} {xs : List AV} (h : Own d c r p xs G) (hq : G q = none) : p ≠ q := ane_of_none h.at_ hq
theorem sub_last {G1 : AH} {p : Addr} {xs : List AV} (h : Sub G G1) : Sub (aupd G p xs) (aupd G1 p xs) := fun a ys e => by
  by_cases z : a = p
  · subst z
    rw [aupd_same] at e ⊢
    exact e
  · rw [aupd_ne z] at e ⊢
    exact h a ys e
/-! ### more rules -/
theorem pow15 : (10 : Int) ^ (15 : Int).toNat = 1000000000000000 := by decide
theorem pow6 : (10 : Int) ^ (6 : Int).toNat = 1000000 := by decide
theorem oEq_ss {x y : Str} {Q : AQ} : oEq (.str x) (.str y) G Q = Q (.bl (decide (x = y))) G := rfl
theorem oNe_ss {x y : Str} {Q : AQ} : oNe (.str x) (.str y) G Q = Q (.bl (!decide (x = y))) G := rfl
theorem refx {p : Addr} {P : Addr → Prop} : (∃ q, AV.ref p = AV.ref q ∧ P q) = P p := by
  apply propext
  constructor
  · rintro ⟨q, e, h⟩
    cases e
    exact h
  · intro h
    exact ⟨p, rfl, h⟩
theorem subx {p : Addr} {k : Int} {P : Addr → Int → List AV → Nat → Prop} : (∃ q k' xs j, AV.ref p = AV.ref q ∧ AV.int k = AV.int k' ∧ P q k' xs j) = ∃ xs j, P p k xs j := by
  apply propext
  constructor
  · rintro ⟨q, k', xs, j, e, e2, h⟩
    cases e; cases e2
    exact ⟨xs, j, h⟩
  · rintro ⟨xs, j, h⟩
    exact ⟨p, k, xs, j, rfl, rfl, h⟩
theorem ixN_nat {n j : Nat} (h : j < n) : ixN n (j : Int) = some j := by
  unfold ixN
  rw [if_pos (by omega), if_pos (by omega)]; simp
theorem c_sorted {p : Addr} {ts : List Th} {Q : AQ} (hp : G p = some (ts.map thV)) (q : ∀ (us : List Th) r, us.Perm ts → G r = none → Q (.ref r) (aupd G r (us.map thV))) : cSorted [.ref p] G Q := ⟨p, ts, rfl, hp, q⟩
theorem o_mul_ref {p : Addr} {k : Nat} {xs : List AV} {Q : AQ} (hp : G p = some xs) (hl : xs.length * k ≤ 100000) (hk : k ≤ 100000) (q : ∀ r, G r = none → Q (.ref r) (aupd G r (List.replicate k xs).flatten)) : oMulA (.ref p) (.int (k : Int)) G Q :=
  ⟨xs, hp, by omega, by omega, by rw [Int.toNat_natCast]; exact hl, by rw [Int.toNat_natCast]; exact q⟩
theorem i_law_next {Q : AQ} (hd : Dr d c r b G) (hb : b ≤ 1000000) (q : ∀ i G', 0 ≤ i → i ≤ 3000000000 → Dr d c r (b + 1) G' → Keep [d, r] G G' → Q (.int i) G') : sp_law_next [.ref d] G Q := ⟨d, c, r, b, rfl, hd, hb, q⟩
theorem i_law_number {s : Int} {Q : AQ} (hd : Dr d c r b G) (hb : b ≤ 900000) (q : ∀ i G', 0 ≤ i → i ≤ 1000000000000000 → Dr d c r (b + 2) G' → Keep [d, r] G G' → Q (.int i) G') : sp_law_number [.ref d, .int s] G Q := ⟨d, c, r, b, s, rfl, hd, hb, q⟩
end LS
set_option Elab.async false
set_option linter.all false
set_option maxRecDepth 100000
set_option maxHeartbeats 4000000
namespace LS
open PySem PySem.Spec PyProof.Rows L2 LA
local macro_rules | `(tactic| walk_at "la") => `(tactic| try simp only [aSeq, aIfS, aTest, aOp, aVar, aC, aRet, aNext, aDropS, aAsg, aAnd, aOr, aNot, aAndV, aOrV, aNotV, aChain, aCons, aNil, aCall, aCB, aTup, aLst, aMt, mt_ref, aSl, oSl_pre, oSl_pre1, oSl_0, aPart, aNoP, agName, agC, agE, agT_tup, agT_cell, agT_ent, agT_stand, aEnds, astart,
  List.map_cons, List.map_nil, List.length_cons, List.length_nil, List.cons_append, List.nil_append, List.getElem?_cons_zero, List.getElem?_cons_succ, List.set_cons_zero, List.set_cons_succ, List.replicate_succ, List.replicate_zero, Nat.reduceAdd, Nat.reduceSub, Nat.reduceLeDiff, Nat.zero_le, somex, somexx, blx, intx, tupx,
  at0, at1, at2, at3, oEq_ii, oEq_bb, oNe_ii, oNe_bb, oEq_one, oEq_two, oIx_tup, oIx_cell, oIx_cells, oIx_th, oIx_stand, oIx_ent, oLt_ii, oLt_th, oLt_opt, oLe_ii, oGt_ii, oGe_ii, oAdd_ii, oSub_ii, oMod_ii, oFdiv_ii, oMul_ii, oPow_ii, pow15, pow6, agT_ref, agSub, subx, oEq_ss, oNe_ss, decide_true, Int.reduceLT, Int.reduceLE, isN_non, isN_opt, notN_opt, isN_th, notN_th, cLen_tup, cLen_cells, cLen_ths, cInt_bl,
  isI_int, isB_int, isB_bl, isT_tup, isT_non, isT_int, isS_int, ite_tt, ite_ff, ite_not, ite_dec, Bool.not_true, Bool.not_false, nat0, nat1, nat2, nat3, true_and, ↓reduceIte, Option.isNone_none, Option.isNone_some, Option.isSome_none, Option.isSome_some, List.isEmpty_nil])
theorem len_law_next : ∀ xs G Q, sp_law_next xs G Q → xs.length = 1 := fun _ _ _ ⟨_, _, _, _, e, _⟩ => by rw [e]; rfl
theorem primes_at {k : Int} (h0 : 0 ≤ k) (h1 : k < 7) : ∃ x : Int, atI [AV.int 2147483629, AV.int 2147483587, AV.int 2147483579, AV.int 2147483563, AV.int 2147483549, AV.int 2147483543, AV.int 2147483497] k = some (.int x) ∧ 0 < x ∧ x ≤ 2147483629 := by
  have : k = 0 ∨ k = 1 ∨ k = 2 ∨ k = 3 ∨ k = 4 ∨ k = 5 ∨ k = 6 := by omega
  rcases this with rfl | rfl | rfl | rfl | rfl | rfl | rfl
  · exact ⟨_, atI_nat (j := 0) rfl, by decide, by decide⟩
  · exact ⟨_, atI_nat (j := 1) rfl, by decide, by decide⟩
  · exact ⟨_, atI_nat (j := 2) rfl, by decide, by decide⟩
  · exact ⟨_, atI_nat (j := 3) rfl, by decide, by decide⟩
  · exact ⟨_, atI_nat (j := 4) rfl, by decide, by decide⟩
  · exact ⟨_, atI_nat (j := 5) rfl, by decide, by decide⟩
  · exact ⟨_, atI_nat (j := 6) rfl, by decide, by decide⟩
theorem r_law_next : ∀ xs G Q, sp_law_next xs G Q → a_law_next (aEnds Q) (astart 8 xs) G := by
  rintro xs G Q ⟨d, c, r, b, rfl, hD, hb, q⟩
  obtain ⟨m, m0, mb, hdd⟩ := hD.dd
  obtain ⟨us, vs, hc, hr, hne, hl, hlv, hpos⟩ := hD.cr
  obtain ⟨ndc, ndr, ncr⟩ := hD.ne
  unfold a_law_next
  walk_at "la"
  refine ⟨_, hdd, rfl, ?_⟩
  walk_at "la"
  refine c_len hc ?_
  rw [List.length_map]
  have hlen : 0 < us.length := List.length_pos_iff.mpr hne
  obtain ⟨j, hj⟩ : ∃ j : Nat, m % (us.length : Int) = (j : Int) := ⟨(m % (us.length : Int)).toNat, by rw [Int.toNat_of_nonneg (Int.emod_nonneg _ (by omega))]⟩
  have hjl : j < us.length := by
    have := Int.emod_lt_of_pos m (show (0 : Int) < (us.length : Int) by omega)
    omega
  have hjv : j < vs.length := by omega
  walk_at "la"
  rw [hj]
  refine ⟨by omega, _, 1, hdd, rfl, ?_⟩
  walk_at "la"
  have hv : atI (vs.map AV.int) (j : Int) = some (.int vs[j]) := atI_nat (by rw [List.getElem?_map, List.getElem?_eq_getElem hjv]; rfl)
  have hu : atI (us.map AV.int) (j : Int) = some (.int us[j]) := atI_nat (by rw [List.getElem?_map, List.getElem?_eq_getElem hjl]; rfl)
  have hr1 : aupd G d [.ref c, .int (m + 1), .ref r] r = some (vs.map .int) := aoth hr ndr.symm
  have hc1 : aupd G d [.ref c, .int (m + 1), .ref r] c = some (us.map .int) := aoth hc ndc.symm
  have hvj := hpos vs[j] (List.getElem_mem hjv)
  have hK : Keep [d, r] G (aupd G d [.ref c, .int (m + 1), .ref r]) := (Keep.refl _ _).own (.inl (by simp))
  have hD1 : ∀ G1, Sub (aupd G d [.ref c, .int (m + 1), .ref r]) G1 → Dr d c r (b + 1) G1 := fun G1 hs => ⟨hD.ne, ⟨m + 1, by omega, by omega, hs _ _ aupd_same⟩, ⟨us, vs, hs _ _ hc1, hs _ _ hr1, hne, hl, hlv, hpos⟩⟩
  refine ix_ref hr1 hv ?_
  walk_at "la"
  by_cases hpv : 0 < vs[j]
  · rw [if_pos hpv]
    refine ix_ref hr1 hv ?_
    walk_at "la"
    refine ix_ref hr1 hv ?_
    walk_at "la"
    refine ⟨⟨by decide, by decide⟩, _, j, hr1, ixN_nat (by rw [List.length_map]; exact hjv), ?_⟩
    have h1 := Int.emod_nonneg vs[j] (show (1000 : Int) ≠ 0 by decide)
    have h2 := Int.emod_lt_of_pos vs[j] (show (0 : Int) < 1000 by decide)
    refine drop_same (q _ _ h1 (by omega) ?_ (hK.own (.inl (by simp))))
    refine ⟨hD.ne, ⟨m + 1, by omega, by omega, aoth aupd_same ndr⟩, ⟨us, vs.set j (vs[j] / 1000), aoth hc1 ncr, ?_, hne, hl, by rw [List.length_set]; exact hlv, fun y hy => ?_⟩⟩
    · rw [aupd_same, List.map_set]
    · rcases List.mem_or_eq_of_mem_set hy with h | h
      · exact hpos y h
      · rw [h]
        exact Int.ediv_nonneg hvj (by decide)
  · rw [if_neg hpv]
    intro p hp
    have hS := Sub.new (xs := [AV.int 2147483629, AV.int 2147483587, AV.int 2147483579, AV.int 2147483563, AV.int 2147483549, AV.int 2147483543, AV.int 2147483497]) hp
    refine ix_ref (aold hc1 hp) hu ?_
    walk_at "la"
    have h1 := Int.emod_nonneg us[j] (show (2147483647 : Int) ≠ 0 by decide)
    have h2 := Int.emod_lt_of_pos us[j] (show (0 : Int) < 2147483647 by decide)
    obtain ⟨x, hx, x0, x1⟩ := primes_at (Int.emod_nonneg m (show (7 : Int) ≠ 0 by decide)) (Int.emod_lt_of_pos m (by decide))
    refine ⟨.inl ⟨by decide, by decide⟩, ⟨by decide, by decide, by omega⟩, ?_⟩
    refine ix_ref aupd_same hx ?_
    walk_at "la"
    refine ⟨x0, .inl ⟨by decide, by decide⟩, ⟨by decide, by decide, ?_⟩, ?_⟩
    · have h3 := Int.emod_nonneg ((us[j] % 2147483647 + 48271 * m + 104729) ^ (3 : Int).toNat) (show x ≠ 0 by omega)
      have h4 := Int.emod_lt_of_pos ((us[j] % 2147483647 + 48271 * m + 104729) ^ (3 : Int).toNat) x0
      omega
    · have h3 := Int.emod_nonneg (((us[j] % 2147483647 + 48271 * m + 104729) ^ (3 : Int).toNat % x + 7919 * m) ^ (2 : Int).toNat) (show (2147483477 : Int) ≠ 0 by decide)
      have h4 := Int.emod_lt_of_pos (((us[j] % 2147483647 + 48271 * m + 104729) ^ (3 : Int).toNat % x + 7919 * m) ^ (2 : Int).toNat) (show (0 : Int) < 2147483477 by decide)
      exact drop_same (q _ _ h3 (by omega) (hD1 _ hS) (hK.trans (Keep.of_sub hS)))
theorem len_law_number : ∀ xs G Q, sp_law_number xs G Q → xs.length = 2 := fun _ _ _ ⟨_, _, _, _, _, e, _⟩ => by rw [e]; rfl
theorem r_law_number : ∀ xs G Q, sp_law_number xs G Q → a_law_number (aEnds Q) (astart 3 xs) G := by
  rintro xs G Q ⟨d, c, r, b, s, rfl, hD, hb, q⟩
  unfold a_law_number
  walk_at "la"
  refine i_law_next hD (by omega) fun i G1 i0 i1 hD1 hK1 => ?_
  walk_at "la"
  have e4 := Int.emod_nonneg i (show (4 : Int) ≠ 0 by decide)
  have f4 := Int.emod_lt_of_pos i (show (0 : Int) < 4 by decide)
  have e30 := Int.emod_nonneg i (show (30 : Int) ≠ 0 by decide)
  have f30 := Int.emod_lt_of_pos i (show (0 : Int) < 30 by decide)
  have e3 := Int.emod_nonneg i (show (3 : Int) ≠ 0 by decide)
  have f3 := Int.emod_lt_of_pos i (show (0 : Int) < 3 by decide)
  split
  · exact drop_same (q _ _ e4 (by omega) (hD1.mono (by omega)) hK1)
  · split
    · exact drop_same (q _ _ e30 (by omega) (hD1.mono (by omega)) hK1)
    · split
      · exact ⟨⟨by decide, by decide, by decide⟩, drop_same (q _ _ (by omega) (by omega) (hD1.mono (by omega)) hK1)⟩
      · refine ⟨.inr ⟨by decide, by decide⟩, ?_⟩
        refine i_law_next hD1 (by omega) fun k G2 k0 k1 hD2 hK2 => ?_
        walk_at "la"
        have e5 := Int.emod_nonneg (i * 1000003 + k) (show (1000000000000001 : Int) ≠ 0 by decide)
        have f5 := Int.emod_lt_of_pos (i * 1000003 + k) (show (0 : Int) < 1000000000000001 by decide)
        exact ⟨⟨by decide, by decide, by decide⟩, by decide, drop_same (q _ _ e5 (by show _ % (1000000000000001 : Int) ≤ _; omega) (hD2.mono (by omega)) (hK1.trans hK2))⟩
theorem len_law_three : ∀ xs G Q, sp_law_three xs G Q → xs.length = 2 := fun _ _ _ ⟨_, _, _, e, _⟩ => by rw [e]; rfl
theorem rep_non (k : Nat) : (List.replicate k [AV.non]).flatten = (List.replicate k (none : Option Th)).map optV := by
  induction k with
  | zero => rfl
  | succ k ih => rw [List.replicate_succ, List.flatten_cons, ih, List.replicate_succ]; rfl
theorem fm_some (us : List Th) : (us.map some).filterMap id = us := by
  induction us with
  | nil => rfl
  | cons u us ih => simpa using ih
theorem fm_none (k : Nat) : (List.replicate k (none : Option Th)).filterMap id = [] := by
  induction k with
  | zero => rfl
  | succ k ih => rw [List.replicate_succ]; simpa using ih
theorem map_thV (us : List Th) : us.map thV = (us.map some).map optV := by
  rw [List.map_map]; rfl
theorem r_law_three : ∀ xs G Q, sp_law_three xs G Q → a_law_three (aEnds Q) (astart 4 xs) G := by
  rintro xs G Q ⟨p, os, n, rfl, hp, hl, hn, q⟩
  unfold a_law_three
  walk_at "la"
  refine lc_optsL os p hp (by simp) (fun R q => ?_) (by omega) (fun r1 hr1 => ?_)
  · walk_at "la"
    exact q
  · refine c_sorted aupd_same fun us r2 hperm hr2 => ?_
    walk_at "la"
    intro r3 hr3
    refine c_len (aold aupd_same hr3) ?_
    have hul : us.length ≤ os.length := by rw [hperm.length_eq]; exact List.length_filterMap_le ..
    have hk : (n : Int) - ((us.map thV).length : Int) = ((n - us.length : Nat) : Int) := by rw [List.length_map]; omega
    walk_at "la"
    rw [hk]
    refine o_mul_ref aupd_same (by simp; omega) (by omega) fun r4 hr4 => ?_
    refine o_add_ref (aold (aold aupd_same hr3) hr4) aupd_same ?_ fun r5 hr5 => ?_
    · rw [rep_non]
      simp
      omega
    · have hS := ((Sub.new (xs := (os.filterMap id).map thV) hr1).trans (Sub.new (xs := us.map thV) hr2)).trans ((Sub.new (xs := [AV.non]) hr3).trans (Sub.new (xs := (List.replicate (n - us.length) [AV.non]).flatten) hr4))
      have e : us.map thV ++ (List.replicate (n - us.length) [AV.non]).flatten = (us.map some ++ List.replicate (n - us.length) none).map optV := by
        rw [rep_non, List.map_append, map_thV]
      refine ⟨_, sub_last hS, ?_⟩
      rw [e]
      refine q _ r5 (by simp; omega) ?_ (hS.free hr5)
      rw [List.filterMap_append, fm_some, fm_none, List.append_nil]
      exact hperm
theorem i_law_three {p : Addr} {os : List (Option Th)} {n : Nat} {G : AH} {Q : AQ} (hp : G p = some (os.map optV)) (hl : os.length ≤ n) (hn : n ≤ 1000)
    (q : ∀ (ws : List (Option Th)) r, ws.length = n → (ws.filterMap id).Perm (os.filterMap id) → G r = none → Q (.ref r) (aupd G r (ws.map optV))) : sp_law_three [.ref p, .int (n : Int)] G Q := ⟨p, os, n, rfl, hp, hl, hn, q⟩
end LS
set_option Elab.async false
set_option linter.all false
set_option maxRecDepth 100000
set_option maxHeartbeats 4000000
namespace LS
open PySem PySem.Spec PyProof.Rows L2 LA
local macro_rules | `(tactic| walk_at "la") => `(tactic| try simp only [aSeq, aIfS, aTest, aOp, aVar, aC, aRet, aNext, aDropS, aAsg, aAnd, aOr, aNot, aAndV, aOrV, aNotV, aChain, aCons, aNil, aCall, aCB, aTup, aLst, aMt, mt_ref, aSl, oSl_pre, oSl_pre1, oSl_0, aPart, aNoP, agName, agC, agE, agT_tup, agT_cell, agT_ent, agT_stand, aEnds, astart,
  List.map_cons, List.map_nil, List.length_cons, List.length_nil, List.cons_append, List.nil_append, List.getElem?_cons_zero, List.getElem?_cons_succ, List.set_cons_zero, List.set_cons_succ, List.replicate_succ, List.replicate_zero, Nat.reduceAdd, Nat.reduceSub, Nat.reduceLeDiff, Nat.zero_le, somex, somexx, blx, intx, tupx,
  at0, at1, at2, at3, oEq_ii, oEq_bb, oNe_ii, oNe_bb, oEq_one, oEq_two, oIx_tup, oIx_cell, oIx_cells, oIx_th, oIx_stand, oIx_ent, oLt_ii, oLt_th, oLt_opt, oLe_ii, oGt_ii, oGe_ii, oAdd_ii, oSub_ii, oMod_ii, oFdiv_ii, oMul_ii, oPow_ii, pow15, pow6, agT_ref, agSub, subx, oEq_ss, oNe_ss, decide_true, Int.reduceLT, Int.reduceLE, isN_non, isN_opt, notN_opt, isN_th, notN_th, cLen_tup, cLen_cells, cLen_ths, cInt_bl,
  isI_int, isB_int, isB_bl, isT_tup, isT_non, isT_int, isS_int, ite_tt, ite_ff, ite_not, ite_dec, Bool.not_true, Bool.not_false, nat0, nat1, nat2, nat3, true_and, ↓reduceIte, Option.isNone_none, Option.isNone_some, Option.isSome_none, Option.isSome_some, List.isEmpty_nil])
theorem len_law_too_soon : ∀ xs G Q, sp_law_too_soon xs G Q → xs.length = 2 := fun _ _ _ ⟨_, _, e, _⟩ => by rw [e]; rfl
theorem r_law_too_soon : ∀ xs G Q, sp_law_too_soon xs G Q → a_law_too_soon (aEnds Q) (astart 2 xs) G := by
  rintro xs G Q ⟨s, a, rfl, q⟩
  have q : ∀ b, aDrop Q (.bl b) G := fun b => drop_same (q b)
  unfold a_law_too_soon
  cases a <;> simp only [askV] <;> walk_at "la" <;> repeat' (first | exact q _ | split)
theorem i_law_too_soon {s : Stand} {a : Ask} {G : AH} {Q : AQ} (q : ∀ b, Q (.bl b) G) : sp_law_too_soon [standV s, askV a] G Q := ⟨s, a, rfl, q⟩
theorem len_law_taken : ∀ xs G Q, sp_law_taken xs G Q → xs.length = 1 := fun _ _ _ ⟨_, e, _⟩ => by rw [e]; rfl
theorem cellsV_cons (c : Cell) (cs : List Cell) : cellsV (c :: cs) = .tup (cellV c :: cs.map cellV) := rfl
theorem r_law_taken : ∀ xs G Q, sp_law_taken xs G Q → a_law_taken (aEnds Q) (astart 2 xs) G := by
  rintro xs G Q ⟨⟨one, turn, came, cells⟩, rfl, hne, hl, q⟩
  cases cells with
  | nil => exact absurd rfl hne
  | cons y cs =>
    obtain ⟨k, h⟩ := y
    unfold a_law_taken
    walk_at "la"
    refine i_law_in_cells (by simp at hl ⊢; omega) fun p hp p2 hp2 => ?_
    refine eq_lst0 (aold aupd_same hp2) aupd_same ?_
    have hS := (Sub.new (xs := (things ((k, h) :: cs)).map thV) hp).trans (Sub.new (xs := []) hp2)
    walk_at "la"
    split
    · exact ⟨G, hS, q _ _ rfl fun t => Nat.le_refl _⟩
    · cases k with
      | none =>
        walk_at "la"
        exact ⟨G, hS, q _ _ rfl fun t => Nat.le_refl _⟩
      | some k =>
        walk_at "la"
        refine o_add_tup (xs := [cellV (none, h)]) (ys := cs.map cellV) (by simp at hl ⊢; omega) ?_
        refine ⟨G, hS, ?_⟩
        refine q (optV (some k)) ((none, h) :: cs) rfl fun t => ?_
        simp [things, List.count_append, List.count_cons]
theorem i_law_taken {s : Stand} {G : AH} {Q : AQ} (hne : s.cells ≠ []) (hl : s.cells.length ≤ 900) (q : ∀ ans (cs' : List Cell), cs'.length = s.cells.length → (∀ t, (things cs').count t ≤ (things s.cells).count t) → Q (.tup [ans, cellsV cs']) G) : sp_law_taken [standV s] G Q := ⟨s, rfl, hne, hl, q⟩
theorem len_law_empty : ∀ xs G Q, sp_law_empty xs G Q → xs.length = 2 := fun _ _ _ ⟨_, _, e, _⟩ => by rw [e]; rfl
theorem rep_cell (n : Nat) : (List.replicate n [AV.tup [.non, .non]]).flatten = (List.replicate n ((none, none) : Cell)).map cellV := by
  induction n with
  | zero => rfl
  | succ n ih => rw [List.replicate_succ, List.flatten_cons, ih, List.replicate_succ]; rfl
theorem r_law_empty : ∀ xs G Q, sp_law_empty xs G Q → a_law_empty (aEnds Q) (astart 2 xs) G := by
  rintro xs G Q ⟨k, n, rfl, h1, h2, q⟩
  have q := drop_same q
  unfold a_law_empty
  walk_at "la"
  refine ⟨by simp, by omega, by omega, by simp, ?_⟩
  rw [Int.toNat_natCast, rep_cell]
  exact q
theorem i_law_empty {k : Bool} {n : Nat} {G : AH} {Q : AQ} (h1 : 1 ≤ n) (h2 : n ≤ 40) (q : Q (standV (emptyS k n)) G) : sp_law_empty [kindV k, .int (n : Int)] G Q := ⟨k, n, rfl, h1, h2, q⟩
/-! ### laid -/
theorem flat_cons (c : Cell) (cs : List Cell) : flat (c :: cs) = c.1 :: c.2 :: flat cs := rfl
theorem flat_len (cs : List Cell) : (flat cs).length = 2 * cs.length := by
  induction cs with
  | nil => rfl
  | cons c cs ih => rw [flat_cons]; simp only [List.length_cons, ih]; omega
theorem flat_get : ∀ (cs : List Cell) (i : Nat) (c : Cell), cs[i]? = some c → (flat cs)[2 * i]? = some c.1 ∧ (flat cs)[2 * i + 1]? = some c.2
  | [], i, c, h => by simp at h
  | d :: cs, 0, c, h => by
    simp at h
    subst h
    exact ⟨rfl, rfl⟩
  | d :: cs, i + 1, c, h => by
    have := flat_get cs i c (by simpa using h)
    rw [flat_cons, show 2 * (i + 1) = 2 * i + 1 + 1 from by omega, show 2 * i + 1 + 1 + 1 = 2 * i + 1 + 1 + 1 from rfl, List.getElem?_cons_succ, List.getElem?_cons_succ, List.getElem?_cons_succ, List.getElem?_cons_succ]
    exact this
theorem flat_things (cs : List Cell) : (flat cs).filterMap id = things cs := by
  induction cs with
  | nil => rfl
  | cons c cs ih =>
    obtain ⟨k, h⟩ := c
    rw [flat_cons]
    cases k <;> cases h <;> simp [things, ih]
theorem flat_of : ∀ (n : Nat) (os : List (Option Th)), os.length = 2 * n → ∃ cs : List Cell, os = flat cs ∧ cs.length = n
  | 0, os, h => ⟨[], by cases os with | nil => rfl | cons a b => simp at h, rfl⟩
  | n + 1, os, h => by
    cases os with
    | nil => simp at h
    | cons a os => cases os with
      | nil => simp at h; omega
      | cons b os =>
        obtain ⟨cs, e, hl⟩ := flat_of n os (by simp at h; omega)
        exact ⟨(a, b) :: cs, by rw [e, flat_cons], by simp [hl]⟩
theorem take_snoc {α : Type} {xs : List α} {i : Nat} {x : α} (h : xs[i]? = some x) : xs.take (i + 1) = xs.take i ++ [x] := by rw [List.take_succ, h]; rfl
theorem len_law_laid : ∀ xs G Q, sp_law_laid xs G Q → xs.length = 4 := fun _ _ _ ⟨_, _, _, _, _, e, _⟩ => by rw [e]; rfl
theorem r_law_laid : ∀ xs G Q, sp_law_laid xs G Q → a_law_laid (aEnds Q) (astart 6 xs) G := by
  rintro xs G Q ⟨k, turn, came, p, cs, rfl, hl, hp, q⟩
  unfold a_law_laid aLc aiRng3
  walk_at "la"
  refine c_len hp ?_
  refine ⟨0, 2 * cs.length, ?_, by omega, by omega, ?_⟩
  · rw [List.length_map, flat_len]; rfl
  · intro p2 hp2
    have hn : (rg2 ((0 : Nat) : Int) ((2 * cs.length + 1 - 0) / 2)).length = cs.length := by rw [rg2_length]; omega
    refine ⟨fun i G' => G' = aupd G p2 ((cs.take i).map cellV), rfl, fun _ _ _ _ => trivial, fun i x G' hx e => ?_, fun G' e => ?_⟩
    · subst e
      obtain ⟨hi, rfl⟩ := rg2_of hx
      have hi : i < cs.length := by omega
      have hc : cs[i]? = some cs[i] := List.getElem?_eq_getElem hi
      obtain ⟨g1, g2⟩ := flat_get cs i _ hc
      have e1 : ((0 : Nat) : Int) + (i : Int) * 2 = ((2 * i : Nat) : Int) := by omega
      have e2 : ((2 * i : Nat) : Int) + 1 = ((2 * i + 1 : Nat) : Int) := by omega
      unfold LA.stN aTurn aYes
      rw [e1]
      walk_at "la"
      refine ix_ref (aold hp hp2) (atI_nat (by rw [List.getElem?_map, g1]; rfl)) ?_
      rw [e2]
      refine ix_ref (aold hp hp2) (atI_nat (by rw [List.getElem?_map, g2]; rfl)) ?_
      refine ⟨_, aupd_same, ?_, ?_⟩
      · rw [List.length_map, List.length_take]; omega
      · rw [aupd_aupd, take_snoc hc, List.map_append]
        rfl
    · subst e
      rw [hn, List.take_length]
      walk_at "la"
      refine c_tuple aupd_same ?_
      exact ⟨G, Sub.new hp2, q⟩
theorem i_law_laid {k : Bool} {turn came : Int} {p : Addr} {cs : List Cell} {G : AH} {Q : AQ} (hl : cs.length ≤ 900) (hp : G p = some ((flat cs).map optV)) (q : Q (standV ⟨k, turn, came, cs⟩) G) : sp_law_laid [kindV k, .int turn, .int came, .ref p] G Q := ⟨k, turn, came, p, cs, rfl, hl, hp, q⟩
end LS
set_option Elab.async false
set_option linter.all false
set_option maxRecDepth 100000
set_option maxHeartbeats 4000000
namespace LS
open PySem PySem.Spec PyProof.Rows L2 LA
local macro_rules | `(tactic| walk_at "la") => `(tactic| try simp only [aSeq, aIfS, aTest, aOp, aVar, aC, aRet, aNext, aDropS, aAsg, aAnd, aOr, aNot, aAndV, aOrV, aNotV, aChain, aCons, aNil, aCall, aCB, aTup, aLst, aMt, mt_ref, aSl, oSl_pre, oSl_pre1, oSl_0, aPart, aNoP, agName, agC, agE, agT_tup, agT_cell, agT_ent, agT_stand, aEnds, astart,
  List.map_cons, List.map_nil, List.length_cons, List.length_nil, List.cons_append, List.nil_append, List.getElem?_cons_zero, List.getElem?_cons_succ, List.set_cons_zero, List.set_cons_succ, List.replicate_succ, List.replicate_zero, Nat.reduceAdd, Nat.reduceSub, Nat.reduceLeDiff, Nat.zero_le, somex, somexx, blx, intx, tupx,
  at0, at1, at2, at3, oEq_ii, oEq_bb, oNe_ii, oNe_bb, oEq_one, oEq_two, oIx_tup, oIx_cell, oIx_cells, oIx_th, oIx_stand, oIx_ent, oLt_ii, oLt_th, oLt_opt, oLe_ii, oGt_ii, oGe_ii, oAdd_ii, oSub_ii, oMod_ii, oFdiv_ii, oMul_ii, oPow_ii, pow15, pow6, agT_ref, agSub, subx, oEq_ss, oNe_ss, decide_true, Int.reduceLT, Int.reduceLE, isN_non, isN_opt, notN_opt, isN_th, notN_th, cLen_tup, cLen_cells, cLen_ths, cInt_bl,
  isI_int, isB_int, isB_bl, isT_tup, isT_non, isT_int, isS_int, ite_tt, ite_ff, ite_not, ite_dec, Bool.not_true, Bool.not_false, nat0, nat1, nat2, nat3, true_and, ↓reduceIte, Option.isNone_none, Option.isNone_some, Option.isSome_none, Option.isSome_some, List.isEmpty_nil])
/-! ### one_moved -/
def hk1 : List Cell → List Th
  | [] => []
  | d :: _ => d.1.toList
def keepOf (pn : Bool) (c : Cell) (rest : List Cell) : Option Th := match c.1 with
  | none => match rest with
    | [] => none
    | d :: _ => d.1
  | some k => if pn = true then none else some k
def goM (h : Option Th) (pn : Bool) : List Cell → List Th
  | [] => []
  | c :: rest => (h.toList ++ (keepOf pn c rest).toList) ++ goM c.2 c.1.isNone rest
theorem goM_count (t : Th) : ∀ (suf : List Cell) (h : Option Th) (pn : Bool), (goM h pn suf).count t + (if pn = true then (hk1 suf).count t else 0) ≤ h.toList.count t + (things suf).count t
  | [], h, pn => by cases pn <;> simp [goM, hk1, things]
  | (k, h2) :: rest, h, pn => by
    have ih := goM_count t rest h2 k.isNone
    cases k with
    | none =>
      cases rest with
      | nil =>
        cases pn <;> simp [goM, hk1, things, keepOf, List.count_append] at ih ⊢
      | cons d r =>
        cases pn <;> simp [goM, hk1, things, keepOf, List.count_append] at ih ⊢ <;> omega
    | some k =>
      cases pn
      · simp [goM, hk1, things, keepOf, List.count_append, List.count_cons] at ih ⊢
        omega
      · simp [goM, hk1, things, keepOf, List.count_append, List.count_cons] at ih ⊢
        omega
def hOf (hand : Option Th) (pre : List Cell) : Option Th := match pre.getLast? with
  | none => hand
  | some c => c.2
def pnOf (pre : List Cell) : Bool := match pre.getLast? with
  | none => false
  | some c => c.1.isNone
theorem at_last {α : Type} (f : α → AV) (pre : List α) (c : α) : atI ((pre ++ [c]).map f) (-1) = some (f c) := by
  have e : ixN ((pre ++ [c]).map f).length (-1) = some pre.length := by
    unfold ixN
    rw [if_neg (by decide), if_pos (by simp; omega)]
    simp
    omega
  unfold atI
  rw [e]
  simp
theorem two_of {ws : List (Option Th)} (h : ws.length = 2) : ∃ a b, ws = [a, b] := by
  match ws, h with
  | [a, b], _ => exact ⟨a, b, rfl⟩
theorem three_of {ws : List (Option Th)} (h : ws.length = 3) : ∃ a b c, ws = [a, b, c] := by
  match ws, h with
  | [a, b, c], _ => exact ⟨a, b, c, rfl⟩
theorem o_list (a b : Option Th) : [a, b].filterMap id = a.toList ++ b.toList := by
  cases a <;> cases b <;> rfl
theorem o_list3 (a b c : Option Th) : [a, b, c].filterMap id = a.toList ++ b.toList ++ c.toList := by
  cases a <;> cases b <;> cases c <;> rfl
theorem things_one (a b : Option Th) : things [(a, b)] = a.toList ++ b.toList := by
  simp [things]
theorem len_law_one_moved : ∀ xs G Q, sp_law_one_moved xs G Q → xs.length = 3 := fun _ _ _ ⟨_, _, _, _, e, _⟩ => by rw [e]; rfl
theorem r_law_one_moved : ∀ xs G Q, sp_law_one_moved xs G Q → a_law_one_moved (aEnds Q) (astart 8 xs) G := by
  rintro xs G Q ⟨cs, hand, f, ts, rfl, hne, hl, hf, htl, q⟩
  unfold a_law_one_moved
  walk_at "la"
  intro p hp
  refine for_rng cs.length (fun i S G' => (∃ l1 l2 l3, S = [some (cellsV cs), some (optV hand), some (.ref f), some (.ref p), some (.int (cs.length : Int)), l1, l2, l3]) ∧ Sub G G' ∧
    ∃ fs : List Cell, fs.length = i ∧ G' p = some (fs.map cellV) ∧ ∀ t, (things fs).count t + (goM (hOf hand (cs.take i)) (pnOf (cs.take i)) (cs.drop i)).count t ≤ (goM hand false cs).count t)
    (fun R q => ?_) (by omega) ⟨⟨none, none, none, rfl⟩, Sub.new hp, [], rfl, aupd_same, fun t => ?_⟩ (fun i S G' hi h => ?_) (fun S G' h => ?_)
  · walk_at "la"
    exact q
  · simp [things, hOf, pnOf]
  · obtain ⟨⟨l1, l2, l3, rfl⟩, hS, fs, hfl, hfp, hfc⟩ := h
    obtain ⟨pre, ⟨k, h⟩, rest, ec, hpl, hd, hd1⟩ := split_at hi
    have hlen : pre.length + rest.length + 1 = cs.length := by rw [ec]; simp; omega
    have hpre : cs.take i = pre := by rw [ec, ← hpl, List.take_left]
    have hpre1 : cs.take (i + 1) = pre ++ [(k, h)] := by
      rw [ec, ← hpl]
      have := List.take_left (l₁ := pre ++ [(k, h)]) (l₂ := rest)
      rw [List.length_append] at this
      simpa using this
    rw [hpre, hd] at hfc
    have hat : atI (cs.map cellV) (i : Int) = some (cellV (k, h)) := by rw [ec, ← hpl]; exact at_pre _ _ _ _
    -- the last steps
    have fin : ∀ kp : Option Th, kp = keepOf (pnOf pre) (k, h) rest → ∀ (z1 z2 z3 : AV), (∀ p_1, G' p_1 = none → (sp_law_three [.ref p_1, .int 2] (aupd G' p_1 [optV (hOf hand pre), optV kp]) fun x G1 => cTuple [x] G1 fun x G2 => mAppend (.ref p) [x] G2 fun _ G1 =>
        (∃ l1 l2 l3, [some (cellsV cs), some (optV hand), some (.ref f), some (.ref p), some (.int (cs.length : Int)), some z1, some z2, some z3] = [some (cellsV cs), some (optV hand), some (.ref f), some (.ref p), some (.int (cs.length : Int)), l1, l2, l3]) ∧ Sub G G1 ∧
    ∃ fs : List Cell, fs.length = i + 1 ∧ G1 p = some (fs.map cellV) ∧ ∀ t, (things fs).count t + (goM (hOf hand (cs.take (i + 1))) (pnOf (cs.take (i + 1))) (cs.drop (i + 1))).count t ≤ (goM hand false cs).count t)) := by
      intro kp hkp z1 z2 z3 p1 hp1
      refine i_law_three (os := [hOf hand pre, kp]) (n := 2) aupd_same (by simp) (by omega) fun ws r hwl hwp hr => ?_
      obtain ⟨a, b', rfl⟩ := two_of hwl
      refine c_tuple aupd_same ?_
      refine m_append (aold (aold hfp hp1) hr) (by rw [List.length_map]; omega) ⟨⟨_, _, _, rfl⟩, ?_, fs ++ [(a, b')], by simp [hfl], ?_, fun t => ?_⟩
      · exact ((hS.trans (Sub.new hp1)).trans (Sub.new hr)).own hp
      · rw [aupd_same, List.map_append]; rfl
      · have h1 := hfc t
        have h2 := hwp.count_eq t
        rw [o_list, o_list, List.count_append, List.count_append] at h2
        rw [hpre1, hd1, things_append, List.count_append, things_one, List.count_append]
        rw [show goM (hOf hand pre) (pnOf pre) ((k, h) :: rest) = ((hOf hand pre).toList ++ (keepOf (pnOf pre) (k, h) rest).toList) ++ goM h k.isNone rest from rfl, ← hkp, List.count_append, List.count_append] at h1
        have e1 : hOf hand (pre ++ [(k, h)]) = h := by simp [hOf]
        have e2 : pnOf (pre ++ [(k, h)]) = k.isNone := by simp [pnOf]
        rw [e1, e2]
        have h1 : (things fs).count t + ((hOf hand pre).toList.count t + kp.toList.count t + (goM h k.isNone rest).count t) ≤ (goM hand false cs).count t := h1
        omega
    have hnx : ∀ d r, rest = d :: r → atI (cs.map cellV) ((i : Int) + 1) = some (cellV d) := fun d r e => by rw [ec, e, ← hpl]; exact at_pre1 _ _ _ _ _
    have hin : ∀ d r, rest = d :: r → ((i : Int) + 1 < (cs.length : Int)) = True := fun d r e => eq_true (by rw [e] at hlen; simp at hlen; omega)
    have hin0 : rest = [] → ((i : Int) + 1 < (cs.length : Int)) = False := fun e => eq_false (by rw [e] at hlen; simp at hlen; omega)
    rcases List.eq_nil_or_concat pre with epre | ⟨pre', pc, epre⟩
    · have hi0 : (0 < (i : Int)) = False := eq_false (by rw [epre] at hpl; simp at hpl; omega)
      have e1 : hOf hand pre = hand := by rw [epre]; rfl
      have e2 : pnOf pre = false := by rw [epre]; rfl
      rw [e1, e2] at fin
      walk_at "la"
      simp only [hi0, hat, somex, ↓reduceIte]
      walk_at "la"
      cases k with
      | some k =>
        walk_at "la"
        exact ⟨⟨_, hfp⟩, fin (some k) rfl _ _ _⟩
      | none =>
        walk_at "la"
        cases hr : rest with
        | nil =>
          simp only [hin0 hr, ↓reduceIte]
          rw [hr] at fin
          exact ⟨⟨_, hfp⟩, fin none rfl _ _ _⟩
        | cons d r =>
          simp only [hin d r hr, hnx d r hr, somex, ↓reduceIte]
          walk_at "la"
          rw [hr] at fin
          exact ⟨⟨_, hfp⟩, fin d.1 rfl _ _ _⟩
    · rw [List.concat_eq_append] at epre
      have hi0 : (0 < (i : Int)) = True := eq_true (by rw [epre] at hpl; simp at hpl; omega)
      have e1 : hOf hand pre = pc.2 := by rw [epre]; simp [hOf]
      have e2 : pnOf pre = pc.1.isNone := by rw [epre]; simp [pnOf]
      have hpv : atI (cs.map cellV) ((i : Int) - 1) = some (cellV pc) := by
        have e3 : (i : Int) - 1 = (pre'.length : Int) := by rw [epre] at hpl; simp at hpl; omega
        rw [e3, ec, epre, List.append_assoc]
        exact at_pre _ _ _ _
      rw [e1, e2] at fin
      walk_at "la"
      simp only [hi0, hpv, hat, somex, ↓reduceIte]
      walk_at "la"
      cases k with
      | some k =>
        walk_at "la"
        cases hpc : pc.1 with
        | none =>
          walk_at "la"
          rw [hpc] at fin
          exact ⟨⟨_, hfp⟩, fin none rfl _ _ _⟩
        | some pk =>
          walk_at "la"
          rw [hpc] at fin
          exact ⟨⟨_, hfp⟩, fin (some k) rfl _ _ _⟩
      | none =>
        walk_at "la"
        cases hr : rest with
        | nil =>
          simp only [hin0 hr, ↓reduceIte]
          rw [hr] at fin
          exact ⟨⟨_, hfp⟩, fin none rfl _ _ _⟩
        | cons d r =>
          simp only [hin d r hr, hnx d r hr, somex, ↓reduceIte]
          walk_at "la"
          rw [hr] at fin
          exact ⟨⟨_, hfp⟩, fin d.1 rfl _ _ _⟩
  · obtain ⟨⟨l1, l2, l3, rfl⟩, hS, fs, hfl, hfp, hfc⟩ := h
    have hlast : ∃ pre c, cs = pre ++ [c] := ⟨cs.dropLast, cs.getLast hne, (List.dropLast_concat_getLast hne).symm⟩
    obtain ⟨pre, c, ec⟩ := hlast
    have hat : atI (cs.map cellV) (-1) = some (cellV c) := by rw [ec]; exact at_last _ _ _
    have hcnt : ∀ t, (things fs).count t ≤ hand.toList.count t + (things cs).count t := fun t => by
      have h1 := hfc t
      have h2 := goM_count t cs hand false
      simp at h2
      omega
    have hfp0 : p ≠ f := (ane_of_none hf hp).symm
    walk_at "la"
    simp only [hat, somex]
    walk_at "la"
    cases hc2 : c.2 with
    | none =>
      walk_at "la"
      exact c_tuple hfp (drop_same (q fs _ hfl hcnt (Keep.of_sub hS)))
    | some t =>
      walk_at "la"
      refine ⟨⟨_, hS _ _ hf⟩, m_append (hS _ _ hf) (by omega) ?_⟩
      exact c_tuple (aoth hfp hfp0) (drop_same (q fs _ hfl hcnt ((Keep.of_sub hS).own (.inl (by simp)))))
theorem i_law_one_moved {cs : List Cell} {hand : Option Th} {f : Addr} {ts : List AV} {G : AH} {Q : AQ} (hne : cs ≠ []) (hl : cs.length ≤ 900) (hf : G f = some ts) (ht : ts.length ≤ 900)
    (q : ∀ (cs' : List Cell) G', cs'.length = cs.length → (∀ t, (things cs').count t ≤ hand.toList.count t + (things cs).count t) → Keep [f] G G' → Q (cellsV cs') G') : sp_law_one_moved [cellsV cs, optV hand, .ref f] G Q := ⟨cs, hand, f, ts, rfl, hne, hl, hf, ht, q⟩
end LS
set_option Elab.async false
set_option linter.all false
set_option maxRecDepth 100000
set_option maxHeartbeats 4000000
namespace LS
open PySem PySem.Spec PyProof.Rows L2 LA
local macro_rules | `(tactic| walk_at "la") => `(tactic| try simp only [aSeq, aIfS, aTest, aOp, aVar, aC, aRet, aNext, aDropS, aAsg, aAnd, aOr, aNot, aAndV, aOrV, aNotV, aChain, aCons, aNil, aCall, aCB, aTup, aLst, aMt, mt_ref, aSl, oSl_pre, oSl_pre1, oSl_0, aPart, aNoP, agName, agC, agE, agT_tup, agT_cell, agT_ent, agT_stand, aEnds, astart,
  List.map_cons, List.map_nil, List.length_cons, List.length_nil, List.cons_append, List.nil_append, List.getElem?_cons_zero, List.getElem?_cons_succ, List.set_cons_zero, List.set_cons_succ, List.replicate_succ, List.replicate_zero, Nat.reduceAdd, Nat.reduceSub, Nat.reduceLeDiff, Nat.zero_le, somex, somexx, blx, intx, tupx,
  at0, at1, at2, at3, oEq_ii, oEq_bb, oNe_ii, oNe_bb, oEq_one, oEq_two, oIx_tup, oIx_cell, oIx_cells, oIx_th, oIx_stand, oIx_ent, oLt_ii, oLt_th, oLt_opt, oLe_ii, oGt_ii, oGe_ii, oAdd_ii, oSub_ii, oMod_ii, oFdiv_ii, oMul_ii, oPow_ii, pow15, pow6, agT_ref, agSub, subx, oEq_ss, oNe_ss, decide_true, Int.reduceLT, Int.reduceLE, isN_non, isN_opt, notN_opt, isN_th, notN_th, cLen_tup, cLen_cells, cLen_ths, cInt_bl,
  isI_int, isB_int, isB_bl, isT_tup, isT_non, isT_int, isS_int, ite_tt, ite_ff, ite_not, ite_dec, Bool.not_true, Bool.not_false, nat0, nat1, nat2, nat3, true_and, ↓reduceIte, Option.isNone_none, Option.isNone_some, Option.isSome_none, Option.isSome_some, List.isEmpty_nil])
/-! ### comprehensions with an invariant -/
theorem lc_tupI {α : Type} (f : α → AV) (ys : List α) {aa : AT} {j : Nat} {ta : ATT} {ae : AT} {S : ASt} {G : AH} {Q : AQ} (I : Addr → List α → AH → Prop)
    (he : ∀ Q : AQ, Q (.tup (ys.map f)) G → aa S G Q) (h0 : ∀ p, G p = none → I p [] (aupd G p []))
    (st : ∀ p d y r G', G p = none → d ++ y :: r = ys → I p d G' → aTurn p ta ae (I p (d ++ [y])) (S.set j (some (f y))) G') (fin : ∀ p G', G p = none → I p ys G' → Q (.ref p) G') : aLc (aiSeq aa) (stN j) ta ae S G Q := by
  apply he
  refine fun p hp => ⟨fun i G' => I p (ys.take i) G', by simpa using h0 p hp, fun _ _ _ _ => trivial, fun i x G' hx h => ?_, fun G' h => ?_⟩
  · rw [List.getElem?_map] at hx
    cases e : ys[i]? with
    | none => rw [e] at hx; cases hx
    | some y =>
      rw [e] at hx
      cases hx
      have hi := (List.getElem?_eq_some_iff.mp e).1
      have hd : ys.drop i = y :: ys.drop (i + 1) := by rw [List.drop_eq_getElem_cons hi, (List.getElem?_eq_some_iff.mp e).2]
      have := st p (ys.take i) y (ys.drop (i + 1)) G' hp (by rw [← hd, List.take_append_drop]) h
      rw [← take_snoc e] at this
      exact this
  · have h : I p (ys.take (ys.map f).length) G' := h
    rw [List.length_map, List.take_length] at h
    exact fin p G' hp h
theorem lc_lstI {α : Type} (f : α → AV) (ys : List α) (l : Addr) {aa : AT} {j : Nat} {ta : ATT} {ae : AT} {S : ASt} {G : AH} {Q : AQ} (I : Addr → List α → AH → Prop) (hl : G l = some (ys.map f))
    (he : ∀ Q : AQ, Q (.ref l) G → aa S G Q) (kp : ∀ p d G', G p = none → I p d G' → G' l = some (ys.map f)) (h0 : ∀ p, G p = none → I p [] (aupd G p []))
    (st : ∀ p d y r G', G p = none → d ++ y :: r = ys → I p d G' → aTurn p ta ae (I p (d ++ [y])) (S.set j (some (f y))) G') (fin : ∀ p G', G p = none → I p ys G' → Q (.ref p) G') : aLc (aiSeq aa) (stN j) ta ae S G Q := by
  apply he
  refine ⟨_, hl, fun p hp => ⟨fun i G' => I p (ys.take i) G', by simpa using h0 p hp, fun _ _ _ h => kp p _ _ hp h, fun i x G' hx h => ?_, fun G' h => ?_⟩⟩
  · rw [List.getElem?_map] at hx
    cases e : ys[i]? with
    | none => rw [e] at hx; cases hx
    | some y =>
      rw [e] at hx
      cases hx
      have hi := (List.getElem?_eq_some_iff.mp e).1
      have hd : ys.drop i = y :: ys.drop (i + 1) := by rw [List.drop_eq_getElem_cons hi, (List.getElem?_eq_some_iff.mp e).2]
      have := st p (ys.take i) y (ys.drop (i + 1)) G' hp (by rw [← hd, List.take_append_drop]) h
      rw [← take_snoc e] at this
      exact this
  · have h : I p (ys.take (ys.map f).length) G' := h
    rw [List.length_map, List.take_length] at h
    exact fin p G' hp h
theorem lc_rngI (n : Nat) (hn : n ≤ 100000) {la : ATA} {j : Nat} {ta : ATT} {ae : AT} {S : ASt} {G : AH} {Q : AQ} (I : Addr → Nat → AH → Prop)
    (he : ∀ R : List AV → AH → Prop, R [.int (n : Int)] G → la S G R) (h0 : ∀ p, G p = none → I p 0 (aupd G p []))
    (st : ∀ p i G', G p = none → i < n → I p i G' → aTurn p ta ae (I p (i + 1)) (S.set j (some (.int (i : Int)))) G') (fin : ∀ p G', G p = none → I p n G' → Q (.ref p) G') : aLc (aiRng1 la) (stN j) ta ae S G Q := by
  apply he
  refine ⟨n, rfl, hn, fun p hp => ⟨fun i G' => I p i G', h0 p hp, fun _ _ _ _ => trivial, fun i x G' hx h => ?_, fun G' h => ?_⟩⟩
  · obtain ⟨hi, rfl⟩ := rgA_of hx
    rw [Int.zero_add]
    exact st p i G' hp hi h
  · have h : I p (rgA 0 n).length G' := h
    rw [rgA_length] at h
    exact fin p G' hp h
/-- for i in range(lo, hi, 2) -/
theorem for_rg2 (i0 j0 : Nat) (I : Nat → ASt → AH → Prop) {la : ATA} {g : ATG} {sb : ATS} {D : AEnds} {S : ASt} {G : AH}
    (he : ∀ R : List AV → AH → Prop, R [.int (i0 : Int), .int (j0 : Int), .int 2] G → la S G R) (hi : i0 ≤ 100000) (hj : j0 ≤ 100000) (h0 : I 0 S G)
    (st : ∀ k S G, k < (j0 + 1 - i0) / 2 → I k S G → g (.int ((i0 + 2 * k : Nat) : Int)) S G fun S2 G2 => sb { D with nx := I (k + 1), ct := I (k + 1), bk := D.nx } S2 G2)
    (fin : ∀ S G, I ((j0 + 1 - i0) / 2) S G → D.nx S G) : aFor (aiRng3 la) g sb D S G := by
  apply he
  refine ⟨i0, j0, rfl, hi, hj, I, h0, fun _ _ _ _ _ => trivial, fun i x S G hx h => ?_, fun S G h => ?_⟩
  · obtain ⟨hi, rfl⟩ := rg2_of hx
    have e : (i0 : Int) + (i : Int) * 2 = ((i0 + 2 * i : Nat) : Int) := by omega
    rw [e]
    exact st i S G hi h
  · rw [rg2_length] at h
    exact fin S G h
/-! ### cells that are lists -/
structure Cells (ps : List Addr) (cs : List Cell) (G : AH) : Prop where
  len : ps.length = cs.length
  at_ : ∀ (i : Nat) p c, ps[i]? = some p → cs[i]? = some c → G p = some [optV c.1, optV c.2]
theorem things_cons (c : Cell) (cs : List Cell) : things (c :: cs) = things [c] ++ things cs := things_append [c] cs
theorem things_set (t : Th) : ∀ (cs : List Cell) (i : Nat) (c c' : Cell), cs[i]? = some c → (things (cs.set i c')).count t + (things [c]).count t = (things cs).count t + (things [c']).count t
  | [], _, _, _, h => by simp at h
  | d :: cs, 0, c, c', h => by
    simp at h
    subst h
    rw [List.set_cons_zero, things_cons c' cs, things_cons d cs, List.count_append, List.count_append]
    omega
  | d :: cs, i + 1, c, c', h => by
    have := things_set t cs i c c' (by simpa using h)
    rw [List.set_cons_succ, things_cons d (cs.set i c'), things_cons d cs, List.count_append, List.count_append]
    omega
theorem sub0 {x : Int} {p : Addr} {xs : List AV} {G : AH} {v : AV} {N : AH → Prop} (hp : G p = some xs) {j : Nat} (hj : ixN xs.length x = some j) (h : N (aupd G p (xs.set j v))) : ∃ ys k, G p = some ys ∧ ixN ys.length x = some k ∧ N (aupd G p (ys.set k v)) := ⟨xs, j, hp, hj, h⟩
def a_two_in : ATS :=
  (aIfS (aTest (aOp oIsN (aOp oIx (aVar 6) (aC (.int 1))) (aC .non))) (aSeq (aAsg (aCall sp_law_three (aCons (aLst (aCons (aOp oIx (aOp oIx (aVar 4) (aVar 5)) (aC (.int 0))) (aCons (aOp oIx (aOp oIx (aVar 4) (aVar 5)) (aC (.int 1))) (aCons (aOp oIx (aVar 6) (aC (.int 0))) aNil)))) (aCons (aC (.int 3)) aNil))) (agName 7))
  (aSeq (aAsg (aOp oIx (aVar 7) (aC (.int 0))) (agSub (aOp oIx (aVar 4) (aVar 5)) (aC (.int 0))))
  (aSeq (aAsg (aC .non) (agSub (aOp oIx (aVar 4) (aVar 5)) (aC (.int 1))))
  (aSeq (aAsg (aOp oIx (aVar 7) (aC (.int 1))) (agSub (aVar 6) (aC (.int 0))))
  (aSeq (aAsg (aOp oIx (aVar 7) (aC (.int 2))) (agSub (aVar 6) (aC (.int 1))))
  (aIfS (aTest (aOp oEq (aOp oAdd (aVar 5) (aC (.int 1))) (aCB cLen (aCons (aVar 4) aNil)))) (aDropS (aMt mExtend (aVar 2) (aCons (aLc (aiSeq (aVar 6)) (stN 8) (aTest (aOp oNotN (aVar 8) (aC .non))) (aVar 8)) aNil))) aNext)))))) aNext)
theorem two_in {D : AEnds} {A B l3 : Option AV} {f p pn pf : Addr} {ps : List Addr} {j : Nat} {cn fc : Cell} {fl : List AV} {G2 : AH}
    (hp : G2 p = some (ps.map .ref)) (hpn : ps[j]? = some pn) (hcn : G2 pn = some [optV cn.1, optV cn.2]) (hpf : G2 pf = some [optV fc.1, optV fc.2]) (hf : G2 f = some fl) (hfl : fl.length ≤ 5000)
    (n1 : pn ≠ pf) (n2 : p ≠ pn) (n3 : p ≠ pf) (n4 : f ≠ pn) (n5 : f ≠ pf) (n6 : f ≠ p)
    (k1 : fc.2 ≠ none → D.nx [A, B, some (.ref f), none, some (.ref p), some (.int (j : Int)), some (.ref pf), l3, none] G2)
    (k2 : fc.2 = none → ∀ (a b c : Option Th) (l : AV) G3, (a.toList ++ b.toList ++ c.toList).Perm (cn.1.toList ++ cn.2.toList ++ fc.1.toList) → G3 pn = some [optV a, .non] → G3 pf = some [optV b, optV c] → Keep [pn, pf, f] G2 G3 → (∃ fl', G3 f = some fl' ∧ fl'.length ≤ fl.length + 2) →
      D.nx [A, B, some (.ref f), none, some (.ref p), some (.int (j : Int)), some (.ref pf), some l, none] G3) :
    a_two_in D [A, B, some (.ref f), none, some (.ref p), some (.int (j : Int)), some (.ref pf), l3, none] G2 := by
  have hix : ∀ G : AH, ∀ Q : AQ, G p = some (ps.map .ref) → Q (.ref pn) G → oIx (.ref p) (.int (j : Int)) G Q := fun G Q h q => ix_ref h (atI_nat (by rw [List.getElem?_map, hpn]; rfl)) q
  unfold a_two_in
  walk_at "la"
  refine ix_ref hpf at1 ?_
  walk_at "la"
  cases hc2 : fc.2 with
  | some t =>
    walk_at "la"
    exact k1 (by rw [hc2]; simp)
  | none =>
    walk_at "la"
    refine hix _ _ hp ?_
    refine ix_ref hcn at0 ?_
    refine hix _ _ hp ?_
    refine ix_ref hcn at1 ?_
    refine ix_ref hpf at0 fun r1 hr1 => ?_
    refine i_law_three (os := [cn.1, cn.2, fc.1]) (n := 3) aupd_same (by simp) (by omega) fun ws r2 hwl hwp hr2 => ?_
    obtain ⟨a, b, c, rfl⟩ := three_of hwl
    rw [o_list3, o_list3] at hwp
    have hS := (Sub.new (xs := [optV cn.1, optV cn.2, optV fc.1]) hr1).trans (Sub.new (xs := [a, b, c].map optV) hr2)
    generalize hG : aupd (aupd G2 r1 [optV cn.1, optV cn.2, optV fc.1]) r2 ([a, b, c].map optV) = G3 at hS
    have h2 : G3 r2 = some [optV a, optV b, optV c] := by rw [← hG]; exact aupd_same
    have e1 : (aupd (aupd G2 r1 [optV cn.1, optV cn.2, optV fc.1]) r2 (List.map optV [a, b, c])) = G3 := hG
    have m1 : pn ≠ r2 := by
      intro e
      rw [← e] at hr2
      rw [aold hcn hr1] at hr2
      cases hr2
    have m2 : pf ≠ r2 := by
      intro e
      rw [← e] at hr2
      rw [aold hpf hr1] at hr2
      cases hr2
    have hp3 := hS _ _ hp
    have hcn3 := hS _ _ hcn
    have hpf3 := hS _ _ hpf
    have hf3 := hS _ _ hf
    refine ix_ref h2 at0 ?_
    refine hix _ _ hp3 ?_
    refine ⟨pn, 0, _, 0, rfl, rfl, hcn3, rfl, ?_⟩
    refine hix _ _ (aoth hp3 n2) ?_
    refine ⟨pn, 1, _, 1, rfl, rfl, aupd_same, rfl, ?_⟩
    rw [aupd_aupd]
    refine ix_ref (aoth h2 m1.symm) at1 ?_
    refine ⟨_, 0, aoth hpf3 n1.symm, rfl, ?_⟩
    refine ix_ref (aoth (aoth h2 m1.symm) m2.symm) at2 ?_
    refine ⟨_, 1, aupd_same, rfl, ?_⟩
    rw [aupd_aupd]
    have hK : Keep [pn, pf, f] G2 (aupd (aupd G3 pn [optV a, .non]) pf [optV b, optV c]) := ((Keep.of_sub hS).own (.inl (by simp))).own (.inl (by simp))
    have q1 : (aupd (aupd G3 pn [optV a, .non]) pf [optV b, optV c]) pn = some [optV a, .non] := aoth aupd_same n1
    have q2 : (aupd (aupd G3 pn [optV a, .non]) pf [optV b, optV c]) pf = some ([b, c].map optV) := aupd_same
    have q3 : (aupd (aupd G3 pn [optV a, .non]) pf [optV b, optV c]) f = some fl := aoth (aoth hf3 n4) n5
    refine c_len (aoth (aoth hp3 n2) n3) ?_
    walk_at "la"
    split
    · refine ⟨⟨_, q3⟩, ?_⟩
      refine lc_optsL [b, c] pf q2 (by simp) (fun R q => ?_) (by simp) (fun r hr => ?_)
      · walk_at "la"; exact q
      · refine m_extend (aold q3 hr) aupd_same (by
          rw [List.length_map]
          have := List.length_filterMap_le id [b, c]
          simp at this
          omega) ?_
        refine k2 hc2 a b c _ _ hwp (aoth (aold q1 hr) n4.symm) (aoth (aold q2 hr) n5.symm) ?_ ⟨_, aupd_same, ?_⟩
        · exact (hK.new hr).own (.inl (by simp))
        · rw [List.length_append, List.length_map]
          have := List.length_filterMap_le id [b, c]
          simp at this
          omega
    · exact k2 hc2 a b c _ _ hwp q1 q2 hK ⟨fl, q3, by omega⟩
end LS
set_option Elab.async false
set_option linter.all false
set_option maxRecDepth 100000
set_option maxHeartbeats 4000000
namespace LS
open PySem PySem.Spec PyProof.Rows L2 LA
local macro_rules | `(tactic| walk_at "la") => `(tactic| try simp only [aSeq, aIfS, aTest, aOp, aVar, aC, aRet, aNext, aDropS, aAsg, aAnd, aOr, aNot, aAndV, aOrV, aNotV, aChain, aCons, aNil, aCall, aCB, aTup, aLst, aMt, mt_ref, aSl, oSl_pre, oSl_pre1, oSl_0, aPart, aNoP, agName, agC, agE, agT_tup, agT_cell, agT_ent, agT_stand, aEnds, astart,
  List.map_cons, List.map_nil, List.length_cons, List.length_nil, List.cons_append, List.nil_append, List.getElem?_cons_zero, List.getElem?_cons_succ, List.set_cons_zero, List.set_cons_succ, List.replicate_succ, List.replicate_zero, Nat.reduceAdd, Nat.reduceSub, Nat.reduceLeDiff, Nat.zero_le, somex, somexx, blx, intx, tupx,
  at0, at1, at2, at3, oEq_ii, oEq_bb, oNe_ii, oNe_bb, oEq_one, oEq_two, oIx_tup, oIx_cell, oIx_cells, oIx_th, oIx_stand, oIx_ent, oLt_ii, oLt_th, oLt_opt, oLe_ii, oGt_ii, oGe_ii, oAdd_ii, oSub_ii, oMod_ii, oFdiv_ii, oMul_ii, oPow_ii, pow15, pow6, agT_ref, agSub, subx, oEq_ss, oNe_ss, decide_true, Int.reduceLT, Int.reduceLE, isN_non, isN_opt, notN_opt, isN_th, notN_th, cLen_tup, cLen_cells, cLen_ths, cInt_bl,
  isI_int, isB_int, isB_bl, isT_tup, isT_non, isT_int, isS_int, ite_tt, ite_ff, ite_not, ite_dec, Bool.not_true, Bool.not_false, nat0, nat1, nat2, nat3, true_and, ↓reduceIte, Option.isNone_none, Option.isNone_some, Option.isSome_none, Option.isSome_some, List.isEmpty_nil])
theorem cList_cell {c : Cell} {G : AH} {Q : AQ} : cList [cellV c] G Q = ∀ r, G r = none → Q (.ref r) (aupd G r [optV c.1, optV c.2]) := rfl
theorem Cells.snoc {ps : List Addr} {cs : List Cell} {G : AH} (h : Cells ps cs G) {q p : Addr} {c : Cell} {xs : List AV} (hq : G q = none) (hp : p ∉ ps) (hne : q ≠ p) : Cells (ps ++ [q]) (cs ++ [c]) (aupd (aupd G q [optV c.1, optV c.2]) p xs) := by
  refine ⟨by simp [h.len], fun i a e ha he => ?_⟩
  have hl := h.len
  by_cases hi : i < ps.length
  · rw [List.getElem?_append_left hi] at ha
    rw [List.getElem?_append_left (by omega)] at he
    have := h.at_ i a e ha he
    refine aoth (aold this hq) fun z => hp (z ▸ List.mem_of_getElem? ha)
  · rw [List.getElem?_append_right (by omega)] at ha he
    rw [← hl] at he
    cases hd : i - ps.length with
    | zero =>
      rw [hd] at ha he
      simp at ha he
      subst ha he
      exact aoth aupd_same hne
    | succ k =>
      rw [hd] at ha
      simp at ha
theorem Cells.keep {ps : List Addr} {cs : List Cell} {G G' : AH} {E : List Addr} (h : Cells ps cs G) (k : Keep E G G') (hE : ∀ q ∈ ps, q ∉ E) : Cells ps cs G' :=
  ⟨h.len, fun i a e ha he => k _ _ (hE a (List.mem_of_getElem? ha)) (h.at_ i a e ha he)⟩
theorem nodup_inj {ps : List Addr} (h : ps.Nodup) {i j : Nat} {p : Addr} (hi : ps[i]? = some p) (hj : ps[j]? = some p) : i = j := by
  have h1 := (List.getElem?_eq_some_iff.mp hi)
  have h2 := (List.getElem?_eq_some_iff.mp hj)
  obtain ⟨a, e1⟩ := h1
  obtain ⟨b, e2⟩ := h2
  have hw := List.pairwise_iff_getElem.mp h
  rcases Nat.lt_trichotomy i j with c | c | c
  · exact absurd (e1.trans e2.symm) (hw i j a b c)
  · exact c
  · exact absurd (e2.trans e1.symm) (hw j i b a c)
theorem len_law_two_moved : ∀ xs G Q, sp_law_two_moved xs G Q → xs.length = 3 := fun _ _ _ ⟨_, _, _, _, e, _⟩ => by rw [e]; rfl
theorem a_two_eq : a_law_two_moved =
  (aSeq (aAsg (aLc (aiSeq (aVar 0)) (stN 3) aYes (aCB cList (aCons (aVar 3) aNil))) (agName 4))
  (aSeq (aFor (aiRng3 (aCons (aVar 1) (aCons (aCB cLen (aCons (aVar 4) aNil)) (aCons (aC (.int 2)) aNil)))) (agName 5) (aSeq (aAsg (aLst (aCons (aC .non) (aCons (aC .non) aNil))) (agName 6))
  (aSeq (aIfS (aTest (aOp oLt (aOp oAdd (aVar 5) (aC (.int 1))) (aCB cLen (aCons (aVar 4) aNil)))) (aAsg (aOp oIx (aVar 4) (aOp oAdd (aVar 5) (aC (.int 1)))) (agName 6)) aNext)
  a_two_in)))
  (aRet (aCB cTuple (aCons (aLc (aiSeq (aVar 4)) (stN 3) aYes (aCB cTuple (aCons (aVar 3) aNil))) aNil))))) := rfl
theorem r_law_two_moved : ∀ xs G Q, sp_law_two_moved xs G Q → a_law_two_moved (aEnds Q) (astart 9 xs) G := by
  rintro xs G Q ⟨cs, turn, f, ts, rfl, ht, hl, hf, htl, q⟩
  rw [a_two_eq]
  walk_at "la"
  refine lc_tupI cellV cs (fun p d G' => Sub G G' ∧ ∃ ps : List Addr, G' p = some (ps.map .ref) ∧ Cells ps d G' ∧ ps.Nodup ∧ (∀ q ∈ ps, G q = none) ∧ p ∉ ps) (fun R q => ?_) (fun p hp => ?_) (fun p d y r G' hp e h => ?_) (fun p G' hp h => ?_)
  · walk_at "la"; exact q
  · exact ⟨Sub.new hp, [], aupd_same, ⟨rfl, fun i p c h _ => by simp at h⟩, List.nodup_nil, fun q hq => absurd hq (by simp), by simp⟩
  · obtain ⟨hS, ps, h1, h2, h3, h4, h5⟩ := h
    unfold aTurn aYes
    walk_at "la"
    rw [cList_cell]
    intro r1 hr1
    have hne : r1 ≠ p := (ane_of_none h1 hr1).symm
    have hdl : d.length ≤ cs.length := by rw [← e]; simp
    refine ⟨_, aold h1 hr1, by rw [List.length_map, h2.len]; omega, ?_, ps ++ [r1], ?_, h2.snoc hr1 h5 hne, ?_, ?_, ?_⟩
    · exact (hS.trans (Sub.new hr1)).own hp
    · rw [aupd_same, List.map_append]; rfl
    · rw [List.nodup_append]
      refine ⟨h3, by simp, fun a ha b hb => ?_⟩
      have hb : b = r1 := by simpa using hb
      subst hb
      intro z
      subst z
      obtain ⟨i, hi⟩ := List.mem_iff_getElem?.mp ha
      have hil : i < d.length := by rw [← h2.len]; exact (List.getElem?_eq_some_iff.mp hi).1
      have := h2.at_ i a d[i] hi (List.getElem?_eq_getElem hil)
      rw [this] at hr1
      cases hr1
    · intro q hq
      rcases List.mem_append.mp hq with hq | hq
      · exact h4 q hq
      · have : q = r1 := by simpa using hq
        rw [this]
        exact hS.free hr1
    · intro hq
      rcases List.mem_append.mp hq with hq | hq
      · exact h5 hq
      · exact hne (List.mem_singleton.mp hq).symm
  · obtain ⟨hS, ps, h1, h2, h3, h4, h5⟩ := h
    have hpl : ps.length = cs.length := h2.len
    have hfp : f ≠ p := ane_of_none hf hp
    have hfps : f ∉ ps := fun hh => by
      rw [h4 f hh] at hf
      cases hf
    obtain ⟨t0, rfl, ht0⟩ : ∃ t0 : Nat, turn = (t0 : Int) ∧ t0 ≤ 1 := by
      rcases ht with rfl | rfl
      · exact ⟨0, rfl, by omega⟩
      · exact ⟨1, rfl, by omega⟩
    refine for_rg2 t0 cs.length (fun k S G' => (∃ l1 l2 l3, S = [some (cellsV cs), some (.int (t0 : Int)), some (.ref f), none, some (.ref p), l1, l2, l3, none]) ∧ G' p = some (ps.map .ref) ∧ Keep [f] G G' ∧ (∃ fl, G' f = some fl ∧ fl.length ≤ ts.length + 2 * k) ∧
      ∃ cs' : List Cell, Cells ps cs' G' ∧ ∀ t, (things cs').count t ≤ (things cs).count t) (fun R q => ?_) (by omega) (by omega) ⟨⟨none, none, none, rfl⟩, h1, Keep.of_sub hS, ⟨ts, hS _ _ hf, by omega⟩, cs, h2, fun t => Nat.le_refl _⟩ (fun k S G1 hk h => ?_) (fun S G1 h => ?_)
    · walk_at "la"
      refine c_len h1 ?_
      rw [List.length_map, hpl]
      exact q
    · obtain ⟨⟨l1, l2, l3, rfl⟩, g1, g2, ⟨fl, g3, g4⟩, cs', g5, g6⟩ := h
      have hj : t0 + 2 * k < cs.length := by omega
      generalize hjj : t0 + 2 * k = j at hj
      have hpj : ps[j]? = some ps[j] := List.getElem?_eq_getElem (by omega)
      have hcl : cs'.length = cs.length := by rw [← g5.len, hpl]
      have hcj : cs'[j]? = some cs'[j] := List.getElem?_eq_getElem (by omega)
      have hn := g5.at_ j _ _ hpj hcj
      have mj : ps[j] ∈ ps := List.getElem_mem _
      have m1 : p ≠ ps[j] := fun z => h5 (z ▸ mj)
      have m2 : f ≠ ps[j] := fun z => hfps (z ▸ mj)
      walk_at "la"
      intro q0 hq0
      have hn0 := aold (r := q0) (xs := [.non, .non]) hn hq0
      have g10 := aold (r := q0) (xs := [.non, .non]) g1 hq0
      have g30 := aold (r := q0) (xs := [.non, .non]) g3 hq0
      have m3 : ps[j] ≠ q0 := ane_of_none hn hq0
      have m4 : p ≠ q0 := ane_of_none g1 hq0
      have m5 : f ≠ q0 := ane_of_none g3 hq0
      have g50 : Cells ps cs' (aupd G1 q0 [.non, .non]) := g5.keep (E := []) (Keep.of_sub (Sub.new hq0)) (fun _ _ => by simp)
      have g20 : Keep [f] G (aupd G1 q0 [.non, .non]) := g2.new hq0
      refine c_len g10 ?_
      rw [List.length_map, hpl]
      walk_at "la"
      split
      · rename_i hlt
        have hj1 : j + 1 < cs.length := by omega
        have hpj1 : ps[j + 1]? = some ps[j + 1] := List.getElem?_eq_getElem (by omega)
        have hcj1 : cs'[j + 1]? = some cs'[j + 1] := List.getElem?_eq_getElem (by omega)
        have mj1 : ps[j + 1] ∈ ps := List.getElem_mem _
        have m6 : ps[j] ≠ ps[j + 1] := fun z => by
          have := nodup_inj h3 hpj (z ▸ hpj1)
          omega
        refine ix_ref g10 (v := .ref ps[j + 1]) (by
          have e : (j : Int) + 1 = ((j + 1 : Nat) : Int) := by omega
          rw [e]
          exact atI_nat (by rw [List.getElem?_map, hpj1]; rfl)) ?_
        refine two_in g10 hpj hn0 (g50.at_ _ _ _ hpj1 hcj1) g30 (by omega) m6 m1 (fun z => h5 (z ▸ mj1)) m2 (fun z => hfps (z ▸ mj1)) hfp (fun _ => ?_) (fun hnone a b c l G3 hperm x1 x2 x3 x4 => ?_)
        · exact ⟨⟨_, _, _, rfl⟩, g10, g20, ⟨fl, g30, by omega⟩, cs', g50, g6⟩
        · have y1 := g50.at_ _ _ _ hpj1 hcj1
          have hK : Keep [f] G G3 := fun x xs hx hg => by
            have nf : x ≠ f := fun z => hx (by rw [z]; simp)
            have hx0 := g20 x xs hx hg
            refine x3 x xs (fun hm => ?_) hx0
            rcases List.mem_cons.mp hm with z | hm
            · rw [z, h4 _ mj] at hg; cases hg
            rcases List.mem_cons.mp hm with z | hm
            · rw [z, h4 _ mj1] at hg; cases hg
            · exact nf (List.mem_singleton.mp hm)
          obtain ⟨fl', f1, f2⟩ := x4
          have gp3 : G3 p = some (ps.map .ref) := x3 p _ (fun hm => by
            rcases List.mem_cons.mp hm with z | hm
            · exact m1 z
            rcases List.mem_cons.mp hm with z | hm
            · exact h5 (z ▸ mj1)
            · exact hfp (List.mem_singleton.mp hm).symm) g10
          refine ⟨⟨_, _, _, rfl⟩, gp3, hK, ⟨fl', f1, by omega⟩, (cs'.set j (a, none)).set (j + 1) (b, c), ⟨by simp [hpl, hcl], fun i x e hx he => ?_⟩, fun t => ?_⟩
          · have hil : i < ps.length := (List.getElem?_eq_some_iff.mp hx).1
            by_cases z1 : i = j + 1
            · subst z1
              rw [List.getElem?_set_self (by simp; omega)] at he
              cases he
              rw [hpj1] at hx
              cases hx
              exact x2
            · rw [List.getElem?_set_ne (fun z => z1 z.symm)] at he
              by_cases z2 : i = j
              · subst z2
                rw [List.getElem?_set_self (by omega)] at he
                cases he
                rw [hpj] at hx
                cases hx
                exact x1
              · rw [List.getElem?_set_ne (fun z => z2 z.symm)] at he
                refine x3 x _ (fun hm => ?_) (g50.at_ i x e hx he)
                rcases List.mem_cons.mp hm with z | hm
                · exact z2 (nodup_inj h3 hx (z ▸ hpj))
                rcases List.mem_cons.mp hm with z | hm
                · exact z1 (nodup_inj h3 hx (z ▸ hpj1))
                · exact hfps ((List.mem_singleton.mp hm) ▸ List.mem_of_getElem? hx)
          · have c1 := things_set t cs' j cs'[j] (a, none) hcj
            have c2 := things_set t (cs'.set j (a, none)) (j + 1) cs'[j + 1] (b, c) (by rw [List.getElem?_set_ne (by omega)]; exact hcj1)
            have c3 := hperm.count_eq t
            have c4 := g6 t
            rw [show cs'[j] = (cs'[j].1, cs'[j].2) from rfl, things_one, things_one, List.count_append, List.count_append] at c1
            rw [show cs'[j + 1] = (cs'[j + 1].1, cs'[j + 1].2) from rfl, things_one, things_one, List.count_append, List.count_append] at c2
            rw [List.count_append, List.count_append, List.count_append, List.count_append] at c3
            have c5 : (Option.toList (none : Option Th)).count t = 0 := rfl
            rw [hnone] at c2
            rw [c5] at c1 c2
            omega
      · rename_i hlt
        have hj1 : j + 1 = cs.length := by omega
        refine two_in (fc := (none, none)) g10 hpj hn0 aupd_same g30 (by omega) m3 m1 m4 m2 m5 hfp (fun z => absurd rfl z) (fun hnone a b c l G3 hperm x1 x2 x3 x4 => ?_)
        have hK : Keep [f] G G3 := fun x xs hx hg => by
          have nf : x ≠ f := fun z => hx (by rw [z]; simp)
          have hx1 := g2 x xs hx hg
          have hx0 := g20 x xs hx hg
          refine x3 x xs (fun hm => ?_) hx0
          rcases List.mem_cons.mp hm with z | hm
          · rw [z, h4 _ mj] at hg; cases hg
          rcases List.mem_cons.mp hm with z | hm
          · rw [z, hq0] at hx1; cases hx1
          · exact nf (List.mem_singleton.mp hm)
        obtain ⟨fl', f1, f2⟩ := x4
        have gp3 : G3 p = some (ps.map .ref) := x3 p _ (fun hm => by
          rcases List.mem_cons.mp hm with z | hm
          · exact m1 z
          rcases List.mem_cons.mp hm with z | hm
          · exact m4 z
          · exact hfp (List.mem_singleton.mp hm).symm) g10
        refine ⟨⟨_, _, _, rfl⟩, gp3, hK, ⟨fl', f1, by omega⟩, cs'.set j (a, none), ⟨by simp [hpl, hcl], fun i x e hx he => ?_⟩, fun t => ?_⟩
        · by_cases z2 : i = j
          · subst z2
            rw [List.getElem?_set_self (by omega)] at he
            cases he
            rw [hpj] at hx
            cases hx
            exact x1
          · rw [List.getElem?_set_ne (fun z => z2 z.symm)] at he
            have hx2 := g5.at_ i x e hx he
            refine x3 x _ (fun hm => ?_) (g50.at_ i x e hx he)
            rcases List.mem_cons.mp hm with z | hm
            · exact z2 (nodup_inj h3 hx (z ▸ hpj))
            rcases List.mem_cons.mp hm with z | hm
            · rw [z, hq0] at hx2; cases hx2
            · exact hfps ((List.mem_singleton.mp hm) ▸ List.mem_of_getElem? hx)
        · have c1 := things_set t cs' j cs'[j] (a, none) hcj
          have c3 := hperm.count_eq t
          have c4 := g6 t
          rw [show cs'[j] = (cs'[j].1, cs'[j].2) from rfl, things_one, things_one, List.count_append, List.count_append] at c1
          rw [List.count_append, List.count_append, List.count_append, List.count_append] at c3
          have c5 : (Option.toList (none : Option Th)).count t = 0 := rfl
          rw [c5] at c1 c3
          omega
    · obtain ⟨⟨l1, l2, l3, rfl⟩, g1, g2, ⟨fl, g3, g4⟩, cs', g5, g6⟩ := h
      walk_at "la"
      refine lc_lstI AV.ref ps p (fun p2 d G' => G' = aupd G1 p2 ((cs'.take d.length).map cellV)) g1 (fun R q => ?_) (fun p2 d G' hp2 e => ?_) (fun p2 hp2 => rfl) (fun p2 d y r G' hp2 e h => ?_) (fun p2 G' hp2 h => ?_)
      · walk_at "la"; exact q
      · subst e
        exact aold g1 hp2
      · subst h
        have hcl : cs'.length = cs.length := by rw [← g5.len, hpl]
        have hdl : d.length < ps.length := by rw [← e]; simp
        have hy : ps[d.length]? = some y := by rw [← e, List.getElem?_append_right (Nat.le_refl _), Nat.sub_self]; rfl
        have hc : cs'[d.length]? = some cs'[d.length] := List.getElem?_eq_getElem (by omega)
        unfold aTurn aYes
        walk_at "la"
        refine c_tuple (aold (g5.at_ _ _ _ hy hc) hp2) ?_
        refine ⟨_, aupd_same, by rw [List.length_map, List.length_take]; omega, ?_⟩
        rw [aupd_aupd, List.length_append, List.length_singleton, take_snoc hc, List.map_append]
        rfl
      · subst h
        have hcl : cs'.length = cs.length := by rw [← g5.len, hpl]
        rw [g5.len, List.take_length]
        refine c_tuple aupd_same ?_
        exact drop_same (q cs' _ hcl g6 (g2.new hp2))
theorem i_law_two_moved {cs : List Cell} {turn : Int} {f : Addr} {ts : List AV} {G : AH} {Q : AQ} (ht : turn = 0 ∨ turn = 1) (hl : cs.length ≤ 900) (hf : G f = some ts) (htl : ts.length ≤ 900)
    (q : ∀ (cs' : List Cell) G', cs'.length = cs.length → (∀ t, (things cs').count t ≤ (things cs).count t) → Keep [f] G G' → Q (cellsV cs') G') : sp_law_two_moved [cellsV cs, .int turn, .ref f] G Q := ⟨cs, turn, f, ts, rfl, ht, hl, hf, htl, q⟩
end LS
set_option Elab.async false
set_option linter.all false
set_option maxRecDepth 100000
set_option maxHeartbeats 4000000
namespace LS
open PySem PySem.Spec PyProof.Rows L2 LA
local macro_rules | `(tactic| walk_at "la") => `(tactic| try simp only [aSeq, aIfS, aTest, aOp, aVar, aC, aRet, aNext, aDropS, aAsg, aAnd, aOr, aNot, aAndV, aOrV, aNotV, aChain, aCons, aNil, aCall, aCB, aTup, aLst, aMt, mt_ref, aSl, oSl_pre, oSl_pre1, oSl_0, aPart, aNoP, agName, agC, agE, agT_tup, agT_cell, agT_ent, agT_stand, aEnds, astart,
  List.map_cons, List.map_nil, List.length_cons, List.length_nil, List.cons_append, List.nil_append, List.getElem?_cons_zero, List.getElem?_cons_succ, List.set_cons_zero, List.set_cons_succ, List.replicate_succ, List.replicate_zero, Nat.reduceAdd, Nat.reduceSub, Nat.reduceLeDiff, Nat.zero_le, somex, somexx, blx, intx, tupx,
  at0, at1, at2, at3, oEq_ii, oEq_bb, oNe_ii, oNe_bb, oEq_one, oEq_two, oIx_tup, oIx_cell, oIx_cells, oIx_th, oIx_stand, oIx_ent, oLt_ii, oLt_th, oLt_opt, oLe_ii, oGt_ii, oGe_ii, oAdd_ii, oSub_ii, oMod_ii, oFdiv_ii, oMul_ii, oPow_ii, pow15, pow6, agT_ref, agSub, subx, oEq_ss, oNe_ss, decide_true, Int.reduceLT, Int.reduceLE, isN_non, isN_opt, notN_opt, isN_th, notN_th, cLen_tup, cLen_cells, cLen_ths, cInt_bl,
  isI_int, isB_int, isB_bl, isT_tup, isT_non, isT_int, isS_int, ite_tt, ite_ff, ite_not, ite_dec, Bool.not_true, Bool.not_false, nat0, nat1, nat2, nat3, true_and, ↓reduceIte, Option.isNone_none, Option.isNone_some, Option.isSome_none, Option.isSome_some, List.isEmpty_nil])
theorem in_str {z : Str} {p : Addr} {zs : List Str} {G : AH} {Q : AQ} (hp : G p = some (zs.map AV.str)) (h : Q (.bl (decide (z ∈ zs))) G) : oInS (.str z) (.ref p) G Q := ⟨z, p, zs, rfl, rfl, hp, h⟩
theorem int01 (b : Bool) : (if b = true then (1 : Int) else 0) = 0 ∨ (if b = true then (1 : Int) else 0) = 1 := by
  cases b
  · exact .inl rfl
  · exact .inr rfl
theorem d1 : decide (("rest" : Str) ∈ [("take" : Str), "both"]) = false := by decide
theorem d2 : decide (("take" : Str) ∈ [("take" : Str), "both"]) = true := by decide
theorem d3 : decide (("both" : Str) ∈ [("take" : Str), "both"]) = true := by decide
theorem d4 : decide (("put" : Str) ∈ [("take" : Str), "both"]) = false := by decide
theorem d5 : decide (("rest" : Str) ∈ [("put" : Str), "both"]) = false := by decide
theorem d6 : decide (("take" : Str) ∈ [("put" : Str), "both"]) = false := by decide
theorem d7 : decide (("both" : Str) ∈ [("put" : Str), "both"]) = true := by decide
theorem d8 : decide (("put" : Str) ∈ [("put" : Str), "both"]) = true := by decide
theorem d9 : decide (("put" : Str) = "both") = false := by decide
def a_beat_put : ATS :=
  (aIfS (aTest (aOp oInS (aOp oIx (aVar 1) (aC (.int 0))) (aLst (aCons (aC (.str "put")) (aCons (aC (.str "both")) aNil))))) (aSeq (aAsg (aC (.str "full")) (agName 9))
  (aSeq (aIfS (aTest (aOp oLt (aCB cLen (aCons (aCall sp_law_in_cells (aCons (aVar 5) aNil)) aNil)) (aCB cLen (aCons (aVar 5) aNil)))) (aSeq (aAsg (aTup (aCons (aOp oIx (aVar 1) (aC (.int 1))) (aCons (aVar 4) aNil))) (agName 8))
  (aSeq (aAsg (aVar 4) (agName 9))
  (aAsg (aOp oAdd (aVar 4) (aC (.int 1))) (agName 4)))) aNext)
  (aAsg (aOp oIx (aLst (aCons (aVar 9) (aCons (aTup (aCons (aVar 7) (aCons (aVar 9) aNil))) aNil))) (aCB cInt (aCons (aOp oEq (aOp oIx (aVar 1) (aC (.int 0))) (aC (.str "both"))) aNil))) (agName 7)))) aNext)
def a_beat_end : ATS :=
  (aSeq (aIfS (aTest (aOp oEq (aVar 2) (aC (.str "one")))) (aRet (aTup (aCons (aVar 7) (aCons (aVar 6) (aCons (aTup (aCons (aC (.str "one")) (aCons (aCB cInt (aCons (aOp oNe (aOp oIx (aVar 1) (aC (.int 0))) (aC (.str "rest"))) aNil)) (aCons (aVar 4) (aCons (aCall sp_law_one_moved (aCons (aVar 5) (aCons (aVar 8) (aCons (aVar 6) aNil)))) aNil))))) aNil))))) aNext)
  (aSeq (aIfS (aTest (aOp oNotN (aVar 8) (aC .non))) (aSeq (aIfS (aTest (aOp oNotN (aOp oIx (aOp oIx (aVar 5) (aC (.int 0))) (aC (.int 1))) (aC .non))) (aDropS (aMt mAppend (aVar 6) (aCons (aOp oIx (aOp oIx (aVar 5) (aC (.int 0))) (aC (.int 1))) aNil))) aNext)
  (aAsg (aOp oAdd (aTup (aCons (aTup (aCons (aOp oIx (aOp oIx (aVar 5) (aC (.int 0))) (aC (.int 0))) (aCons (aVar 8) aNil))) aNil)) (aSl (aVar 5) (aPart (aC (.int 1))) aNoP)) (agName 5))) aNext)
  (aRet (aTup (aCons (aVar 7) (aCons (aVar 6) (aCons (aTup (aCons (aC (.str "two")) (aCons (aOp oSub (aC (.int 1)) (aVar 3)) (aCons (aVar 4) (aCons (aCall sp_law_two_moved (aCons (aVar 5) (aCons (aVar 3) (aCons (aVar 6) aNil)))) aNil))))) aNil)))))))
theorem a_beat_eq : a_law_beat =
  (aSeq (aAsg (aVar 0) (agTup 4 (agCons (agName 2) (agCons (agName 3) (agCons (agName 4) (agCons (agName 5) agNil))))))
  (aSeq (aAsg (aLst aNil) (agName 6))
  (aSeq (aAsg (aC .non) (agName 7))
  (aSeq (aAsg (aC .non) (agName 8))
  (aSeq (aIfS (aTest (aOp oInS (aOp oIx (aVar 1) (aC (.int 0))) (aLst (aCons (aC (.str "take")) (aCons (aC (.str "both")) aNil))))) (aAsg (aCall sp_law_taken (aCons (aVar 0) aNil)) (agTup 2 (agCons (agName 7) (agCons (agName 5) agNil)))) aNext)
  (aSeq a_beat_put a_beat_end)))))) := rfl
def handOk (came came' : Int) (hand : Option Th) : Prop := (hand = none ∧ came' = came) ∨ ∃ n : Int, hand = some (n, came) ∧ (0 ≤ n ∧ n ≤ 1000000000000000) ∧ came' = came + 1
theorem beat_put {D : AEnds} {A K T ans : AV} {a : Ask} {came : Int} {cs : List Cell} {f : Addr} {G : AH} (ga : goodA a) (hl : cs.length ≤ 900)
    (k : ∀ ans' hand came' told G', Sub G G' → handOk came came' hand → D.nx [some A, some (askV a), some K, some T, some (.int came'), some (cellsV cs), some (.ref f), some ans', some (optV hand), told] G') :
    a_beat_put D [some A, some (askV a), some K, some T, some (.int came), some (cellsV cs), some (.ref f), some ans, some .non, none] G := by
  unfold a_beat_put
  have kn := fun ans' told G' hS => k ans' none came told G' hS (.inl ⟨rfl, rfl⟩)
  cases a with
  | rest =>
    simp only [askV]
    walk_at "la"
    intro p hp
    refine in_str (zs := ["put", "both"]) aupd_same ?_
    rw [d5]
    walk_at "la"
    exact kn _ _ _ (Sub.new hp)
  | take =>
    simp only [askV]
    walk_at "la"
    intro p hp
    refine in_str (zs := ["put", "both"]) aupd_same ?_
    rw [d6]
    walk_at "la"
    exact kn _ _ _ (Sub.new hp)
  | both n =>
    have kh := fun ans' told G' hS => k ans' (some (n, came)) (came + 1) told G' hS (.inr ⟨n, rfl, ga, rfl⟩)
    simp only [askV] at kn kh ⊢
    walk_at "la"
    intro p hp
    refine in_str (zs := ["put", "both"]) aupd_same ?_
    rw [d7]
    walk_at "la"
    refine i_law_in_cells (by omega) fun p2 hp2 => ?_
    refine c_len aupd_same ?_
    walk_at "la"
    have hS := (Sub.new (xs := [.str "put", .str "both"]) hp).trans (Sub.new (xs := (things cs).map thV) hp2)
    split
    · intro p3 hp3
      refine ix_ref aupd_same at1 ?_
      exact kh _ _ _ (hS.trans (Sub.new hp3))
    · intro p3 hp3
      refine ix_ref aupd_same at1 ?_
      exact kn _ _ _ (hS.trans (Sub.new hp3))
  | put n =>
    have kh := fun ans' told G' hS => k ans' (some (n, came)) (came + 1) told G' hS (.inr ⟨n, rfl, ga, rfl⟩)
    simp only [askV] at kn kh ⊢
    walk_at "la"
    intro p hp
    refine in_str (zs := ["put", "both"]) aupd_same ?_
    rw [d8]
    walk_at "la"
    refine i_law_in_cells (by omega) fun p2 hp2 => ?_
    refine c_len aupd_same ?_
    walk_at "la"
    have hS := (Sub.new (xs := [.str "put", .str "both"]) hp).trans (Sub.new (xs := (things cs).map thV) hp2)
    simp only [d9]
    split
    · intro p3 hp3
      refine ix_ref aupd_same at0 ?_
      exact kh _ _ _ (hS.trans (Sub.new hp3))
    · intro p3 hp3
      refine ix_ref aupd_same at0 ?_
      exact kn _ _ _ (hS.trans (Sub.new hp3))
theorem oIx_ask {a : Ask} {G : AH} {Q : AQ} (q : ∀ z, Q (.str z) G) : oIx (askV a) (.int 0) G Q := by
  cases a <;> simp only [askV] <;> walk_at "la" <;> exact q _
theorem beat_end {Q : AQ} {A ans : AV} {a : Ask} {one : Bool} {turn came : Int} {cs : List Cell} {f : Addr} {hand : Option Th} {told : Option AV} {fl : List AV} {G : AH} (ht : turn = 0 ∨ turn = 1) (hne : cs ≠ []) (hl : cs.length ≤ 900) (hf : G f = some fl) (hfl : fl.length ≤ 800)
    (q : ∀ x y turn' (cs' : List Cell) G', (turn' = 0 ∨ turn' = 1) → cs'.length = cs.length → (∀ t, (things cs').count t ≤ hand.toList.count t + (things cs).count t) → Keep [f] G G' → aDrop Q (.tup [x, y, standV ⟨one, turn', came, cs'⟩]) G') :
    a_beat_end (aEnds Q) [some A, some (askV a), some (kindV one), some (.int turn), some (.int came), some (cellsV cs), some (.ref f), some ans, some (optV hand), told] G := by
  unfold a_beat_end
  walk_at "la"
  cases one with
  | true =>
    walk_at "la"
    refine oIx_ask fun z => ?_
    walk_at "la"
    refine i_law_one_moved hne hl hf (by omega) fun cs' G' h1 h2 h3 => ?_
    exact q _ _ _ cs' G' (int01 _) h1 h2 h3
  | false =>
    walk_at "la"
    cases hand with
    | none =>
      walk_at "la"
      refine i_law_two_moved ht hl hf (by omega) fun cs' G' h1 h2 h3 => ?_
      refine q _ _ _ cs' G' (by omega) h1 (fun t => ?_) h3
      have := h2 t
      simp
      exact this
    | some h =>
      cases cs with
      | nil => exact absurd rfl hne
      | cons c cs =>
        obtain ⟨k, h0⟩ := c
        walk_at "la"
        have cnt : ∀ t (cs' : List Cell), (things cs').count t ≤ (things ((k, some h) :: cs)).count t → (things cs').count t ≤ (some h).toList.count t + (things ((k, h0) :: cs)).count t := fun t cs' hh => by
          simp [things, List.count_append, List.count_cons] at hh ⊢
          omega
        have go : ∀ fl' G1, G1 f = some fl' → fl'.length ≤ 900 → Keep [f] G G1 → oAdd (.tup [.tup [optV k, optV (some h)]]) (cellsV cs) G1 fun x G1 => sp_law_two_moved [x, .int turn, .ref f] G1 fun x_1 G2 => aDrop Q (.tup [ans, .ref f, .tup [.str "two", .int (1 - turn), .int came, x_1]]) G2 := by
          intro fl' G1 g1 g2 g3
          refine o_add_tup (xs := [cellV (k, some h)]) (ys := cs.map cellV) (by simp at hl ⊢; omega) ?_
          refine i_law_two_moved (cs := (k, some h) :: cs) ht (by simpa using hl) g1 g2 fun cs' G' h1 h2 h3 => ?_
          exact q _ _ _ cs' G' (by omega) (by simpa using h1) (fun t => cnt t cs' (h2 t)) (g3.trans h3)
        cases h0 with
        | none =>
          walk_at "la"
          exact go fl G hf (by omega) (Keep.refl _ _)
        | some h0 =>
          walk_at "la"
          refine ⟨⟨_, hf⟩, m_append hf (by omega) ?_⟩
          exact go _ _ aupd_same (by simp; omega) ((Keep.refl _ _).own (.inl (by simp)))
theorem ok_next {b : Int} {s : Stand} (h : okS b s) {hand : Option Th} {came' turn' : Int} {one : Bool} {cs' : List Cell} (hh : handOk s.came came' hand) (ht : turn' = 0 ∨ turn' = 1) (hl : cs'.length = s.cells.length)
    (hc : ∀ t, (things cs').count t ≤ hand.toList.count t + (things s.cells).count t) : okS (b + 1) ⟨one, turn', came', cs'⟩ := by
  have hcame := h.came
  have hz : ∀ n : Int, (things s.cells).count (n, s.came) = 0 := fun n => by
    rw [List.count_eq_zero]
    intro hm
    have := (h.good _ hm).2
    simp at this
  refine ⟨ht, ?_, ?_, fun t => ?_, fun t hm => ?_⟩
  · rcases hh with ⟨_, e⟩ | ⟨n, _, _, e⟩
    · simp only [e]; omega
    · simp only [e]; omega
  · have := h.few
    simp only [hl]
    exact this
  · have h1 := hc t
    have h2 := h.once t
    rcases hh with ⟨e, _⟩ | ⟨n, e, _, _⟩
    · subst e
      simp at h1
      simp only
      omega
    · subst e
      by_cases z : (n, s.came) = t
      · subst z
        have := hz n
        simp at h1
        simp only
        omega
      · simp [List.count_cons, z] at h1
        simp only
        omega
  · have h1 := hc t
    have h2 : 0 < (things cs').count t := List.count_pos_iff.mpr hm
    rcases hh with ⟨e, e2⟩ | ⟨n, e, hn, e2⟩
    · subst e
      simp at h1
      have h3 : t ∈ things s.cells := List.count_pos_iff.mp (by omega)
      have := h.good t h3
      simp only [e2]
      exact this
    · subst e
      by_cases z : (n, s.came) = t
      · subst z
        simp only [e2]
        exact ⟨hn, hcame.1, by omega⟩
      · simp [List.count_cons, z] at h1
        have h3 : t ∈ things s.cells := List.count_pos_iff.mp (by omega)
        have := h.good t h3
        simp only [e2]
        omega
theorem len_law_beat : ∀ xs G Q, sp_law_beat xs G Q → xs.length = 2 := fun _ _ _ ⟨_, _, _, e, _⟩ => by rw [e]; rfl
theorem r_law_beat : ∀ xs G Q, sp_law_beat xs G Q → a_law_beat (aEnds Q) (astart 10 xs) G := by
  rintro xs G Q ⟨s, a, b, rfl, ok, ga, q⟩
  have hne : s.cells ≠ [] := fun e => by
    have := ok.few
    rw [e] at this
    simp at this
  have hl : s.cells.length ≤ 900 := by have := ok.few; omega
  rw [a_beat_eq]
  -- behind the taking
  have rest : ∀ ans cs f G1, Sub G G1 → G f = none → G1 f = some [] → cs.length = s.cells.length → (∀ t, (things cs).count t ≤ (things s.cells).count t) →
      aSeq a_beat_put a_beat_end (aEnds Q) [some (standV s), some (askV a), some (kindV s.one), some (.int s.turn), some (.int s.came), some (cellsV cs), some (.ref f), some ans, some .non, none] G1 := by
    intro ans cs f G1 hS hf hf1 hcl hcc
    have hne' : cs ≠ [] := fun e => by
      rw [e] at hcl
      have := ok.few
      simp at hcl
      omega
    refine beat_put ga (by omega) fun ans' hand came' told G2 hS2 hh => ?_
    refine beat_end ok.turn hne' (by omega) (hS2 _ _ hf1) (by simp) fun x y turn' cs' G3 h1 h2 h3 h4 => ?_
    refine ⟨G, fun p xs e => h4 p xs (fun z => ?_) (hS2 _ _ (hS _ _ e)), ?_⟩
    · have : p = f := by simpa using z
      rw [this, hf] at e
      cases e
    · refine q x y _ (ok_next ok hh h1 (by omega) fun t => ?_) (by simp only; omega) rfl
      have := h3 t
      have := hcc t
      omega
  walk_at "la"
  intro f hf
  cases a with
  | rest =>
    simp only [askV] at rest ⊢
    walk_at "la"
    intro p hp
    refine in_str (zs := ["take", "both"]) aupd_same ?_
    rw [d1]
    walk_at "la"
    exact rest _ _ _ _ ((Sub.new hf).trans (Sub.new hp)) hf (aold aupd_same hp) rfl fun t => Nat.le_refl _
  | put n =>
    simp only [askV] at rest ⊢
    walk_at "la"
    intro p hp
    refine in_str (zs := ["take", "both"]) aupd_same ?_
    rw [d4]
    walk_at "la"
    exact rest _ _ _ _ ((Sub.new hf).trans (Sub.new hp)) hf (aold aupd_same hp) rfl fun t => Nat.le_refl _
  | take =>
    simp only [askV] at rest ⊢
    walk_at "la"
    intro p hp
    refine in_str (zs := ["take", "both"]) aupd_same ?_
    rw [d2]
    walk_at "la"
    refine i_law_taken hne hl fun ans cs' h1 h2 => ?_
    walk_at "la"
    exact rest _ _ _ _ ((Sub.new hf).trans (Sub.new hp)) hf (aold aupd_same hp) h1 h2
  | both n =>
    simp only [askV] at rest ⊢
    walk_at "la"
    intro p hp
    refine in_str (zs := ["take", "both"]) aupd_same ?_
    rw [d3]
    walk_at "la"
    refine i_law_taken hne hl fun ans cs' h1 h2 => ?_
    walk_at "la"
    exact rest _ _ _ _ ((Sub.new hf).trans (Sub.new hp)) hf (aold aupd_same hp) h1 h2
end LS
set_option Elab.async false
set_option linter.all false
set_option maxRecDepth 100000
set_option maxHeartbeats 4000000
namespace LS
open PySem PySem.Spec PyProof.Rows L2 LA
local macro_rules | `(tactic| walk_at "la") => `(tactic| try simp only [aSeq, aIfS, aTest, aOp, aVar, aC, aRet, aNext, aDropS, aAsg, aAnd, aOr, aNot, aAndV, aOrV, aNotV, aChain, aCons, aNil, aCall, aCB, aTup, aLst, aMt, mt_ref, aSl, oSl_pre, oSl_pre1, oSl_0, aPart, aNoP, agName, agC, agE, agT_tup, agT_cell, agT_ent, agT_stand, aEnds, astart,
  List.map_cons, List.map_nil, List.length_cons, List.length_nil, List.cons_append, List.nil_append, List.getElem?_cons_zero, List.getElem?_cons_succ, List.set_cons_zero, List.set_cons_succ, List.replicate_succ, List.replicate_zero, Nat.reduceAdd, Nat.reduceSub, Nat.reduceLeDiff, Nat.zero_le, somex, somexx, blx, intx, tupx,
  at0, at1, at2, at3, oEq_ii, oEq_bb, oNe_ii, oNe_bb, oEq_one, oEq_two, oIx_tup, oIx_cell, oIx_cells, oIx_th, oIx_stand, oIx_ent, oLt_ii, oLt_th, oLt_opt, oLe_ii, oGt_ii, oGe_ii, oAdd_ii, oSub_ii, oMod_ii, oFdiv_ii, oMul_ii, oPow_ii, pow15, pow6, agT_ref, agSub, subx, oEq_ss, oNe_ss, decide_true, Int.reduceLT, Int.reduceLE, isN_non, isN_opt, notN_opt, isN_th, notN_th, cLen_tup, cLen_cells, cLen_ths, cInt_bl,
  isI_int, isB_int, isB_bl, isT_tup, isT_non, isT_int, isS_int, ite_tt, ite_ff, ite_not, ite_dec, Bool.not_true, Bool.not_false, nat0, nat1, nat2, nat3, true_and, ↓reduceIte, Option.isNone_none, Option.isNone_some, Option.isSome_none, Option.isSome_some, List.isEmpty_nil])
theorem i_law_beat {s : Stand} {a : Ask} {b : Int} {G : AH} {Q : AQ} (ok : okS b s) (ga : goodA a) (q : ∀ x y (s' : Stand), okS (b + 1) s' → s'.cells.length = s.cells.length → s'.one = s.one → Q (.tup [x, y, standV s']) G) : sp_law_beat [standV s, askV a] G Q := ⟨s, a, b, rfl, ok, ga, q⟩
variable {d c r : Addr} {b : Int} {G G' : AH}
theorem Keep.free {E : List Addr} {p : Addr} (h : Keep E G G') (hp : G' p = none) (hE : p ∉ E) : G p = none := by
  cases q : G p with
  | none => rfl
  | some xs => rw [h p xs hE q] at hp; cases hp
theorem Keep.freeD {p : Addr} (h : Keep [d, r] G G') (hd : Dr d c r b G') (hp : G' p = none) : G p = none := h.free hp (by
  obtain ⟨h1, h2, h3⟩ := hd.ne_new hp
  simp [h1, h3])
theorem ask_at {n w : Int} (hn : 0 ≤ n ∧ n ≤ 1000000000000000) (h0 : 0 ≤ w) : ∃ a : Ask, goodA a ∧ atI [AV.tup [.str "rest"], AV.tup [.str "take"], AV.tup [.str "both", .int n], AV.tup [.str "put", .int n]] (if (3 : Int) < w then 3 else w) = some (askV a) := by
  by_cases h3 : (3 : Int) < w
  · rw [if_pos h3]
    exact ⟨.put n, hn, at3⟩
  · rw [if_neg h3]
    have : w = 0 ∨ w = 1 ∨ w = 2 ∨ w = 3 := by omega
    rcases this with rfl | rfl | rfl | rfl
    · exact ⟨.rest, trivial, at0⟩
    · exact ⟨.take, trivial, at1⟩
    · exact ⟨.both n, hn, at2⟩
    · exact ⟨.put n, hn, at3⟩
theorem c_min2 {i j : Int} {Q : AQ} (q : Q (.int (if j < i then j else i)) G) : cMin2 [.int i, .int j] G Q := q
theorem c_max2 {i j : Int} {Q : AQ} (q : Q (.int (if j > i then j else i)) G) : cMax2 [.int i, .int j] G Q := q
theorem len_law_asked : ∀ xs G Q, sp_law_asked xs G Q → xs.length = 3 := fun _ _ _ ⟨_, _, _, _, _, _, e, _⟩ => by rw [e]; rfl
theorem r_law_asked : ∀ xs G Q, sp_law_asked xs G Q → a_law_asked (aEnds Q) (astart 6 xs) G := by
  rintro xs G Q ⟨d, c, r, b, n, s, rfl, hD, hb, q⟩
  unfold a_law_asked
  walk_at "la"
  refine i_law_next hD (by omega) fun w G1 w0 w1 hD1 hK1 => ?_
  walk_at "la"
  refine i_law_number hD1 (by omega) fun m G2 m0 m1 hD2 hK2 => ?_
  have e8 := Int.emod_nonneg w (show (8 : Int) ≠ 0 by decide)
  obtain ⟨a, ga, ha⟩ := ask_at ⟨m0, m1⟩ e8
  walk_at "la"
  intro p hp
  refine c_min2 ?_
  refine ix_ref aupd_same ha ?_
  refine i_law_too_soon fun bb => ?_
  walk_at "la"
  have hK : Keep [d, r] G (aupd G2 p [.tup [.str "rest"], .tup [.str "take"], .tup [.str "both", .int m], .tup [.str "put", .int m]]) := (hK1.trans hK2).new hp
  have hD3 := fun ws => (hD2.new (xs := ws) hp).mono (b' := b + 3) (by omega)
  split
  · exact drop_same (q .rest _ trivial (hD3 _) hK)
  · exact drop_same (q a _ ga (hD3 _) hK)
theorem i_law_asked {n : Int} {s : Stand} {Q : AQ} (hD : Dr d c r b G) (hb : b ≤ 600000) (q : ∀ (a : Ask) G', goodA a → Dr d c r (b + 3) G' → Keep [d, r] G G' → Q (askV a) G') : sp_law_asked [.ref d, standV s, .int n] G Q := ⟨d, c, r, b, n, s, rfl, hD, hb, q⟩
theorem okS.mono {b b' : Int} {s : Stand} (h : okS b s) (hb : b ≤ b') : okS b' s := ⟨h.turn, ⟨h.came.1, by have := h.came; omega⟩, h.few, h.once, h.good⟩
theorem things_rep (n : Nat) : things (List.replicate n (none, none)) = [] := by
  induction n with
  | zero => rfl
  | succ n ih => rw [List.replicate_succ]; simpa [things] using ih
theorem ok_empty {k : Bool} {n : Nat} (h1 : 1 ≤ n) (h2 : n ≤ 40) : okS 0 (emptyS k n) := by
  refine ⟨.inl rfl, ⟨Int.le_refl _, Int.le_refl _⟩, ?_, fun t => ?_, fun t ht => ?_⟩
  · simp [emptyS]; omega
  · simp [emptyS, things_rep]
  · simp [emptyS, things_rep] at ht
theorem len_law_come_to : ∀ xs G Q, sp_law_come_to xs G Q → xs.length = 4 := fun _ _ _ ⟨_, _, _, _, _, _, e, _⟩ => by rw [e]; rfl
theorem r_law_come_to : ∀ xs G Q, sp_law_come_to xs G Q → a_law_come_to (aEnds Q) (astart 7 xs) G := by
  rintro xs G Q ⟨d, c, r, b, k, many, rfl, hD, hb, hm1, hm2, q⟩
  unfold a_law_come_to
  walk_at "la"
  refine i_law_next hD (by omega) fun w G1 w0 w1 hD1 hK1 => ?_
  walk_at "la"
  refine i_law_empty hm1 hm2 ?_
  walk_at "la"
  intro p hp
  have hp0 : G p = none := hK1.freeD hD1 hp
  refine for_rng 12 (fun i S G' => (∃ l, S = [some (.ref d), some (kindV k), some (.int (many : Int)), some (.int 12), some (.int w), some (.ref p), l]) ∧ Dr d c r (b + 1 + 3 * i) G' ∧ Keep [d, r] G G' ∧
    ∃ ss : List Stand, Own d c r p (ss.map standV) G' ∧ ss.length = i + 1 ∧ ∀ s ∈ ss, okS i s) (fun R q => ?_) (by omega) ⟨⟨none, rfl⟩, ?_, hK1.new hp, [emptyS k many], Own.new hD1 hp, rfl, fun s hs => ?_⟩ (fun i S G2 hi h => ?_) (fun S G2 h => ?_)
  · walk_at "la"
    exact q
  · exact (hD1.new hp).mono (by omega)
  · rw [List.mem_singleton.mp hs]
    exact ok_empty hm1 hm2
  · obtain ⟨⟨l, rfl⟩, hD2, hK2, ss, h1, h2, h3⟩ := h
    have hne : ss ≠ [] := fun e => by rw [e] at h2; simp at h2
    obtain ⟨pre, s, es⟩ : ∃ pre s, ss = pre ++ [s] := ⟨ss.dropLast, ss.getLast hne, (List.dropLast_concat_getLast hne).symm⟩
    have hat : atI (ss.map standV) (-1) = some (standV s) := by rw [es]; exact at_last _ _ _
    have hs := h3 s (by rw [es]; simp)
    walk_at "la"
    refine ⟨⟨_, h1.at_⟩, ?_⟩
    refine ix_ref h1.at_ hat ?_
    refine ix_ref h1.at_ hat ?_
    refine i_law_asked hD2 (by omega) fun a G3 ga hD3 hK3 => ?_
    have h1' := h1.keep hK3
    refine i_law_beat hs ga fun x y s' ok' _ _ => ?_
    walk_at "la"
    refine m_append h1'.at_ (by rw [List.length_map]; omega) ⟨⟨_, rfl⟩, ?_, (hK2.trans hK3).own (.inr hp0), ss ++ [s'], ?_, by simp [h2], fun z hz => ?_⟩
    · exact (h1'.dr hD3).mono (by omega)
    · rw [List.map_append]
      exact h1'.set
    · rcases List.mem_append.mp hz with hz | hz
      · exact (h3 z hz).mono (by omega)
      · rw [List.mem_singleton.mp hz]
        exact ok'.mono (by omega)
  · obtain ⟨⟨l, rfl⟩, hD2, hK2, ss, h1, h2, h3⟩ := h
    walk_at "la"
    exact drop_same (q p ss _ h1 h2 (fun s hs => (h3 s hs).mono (by omega)) (hD2.mono (by omega)) hK2)
theorem i_law_come_to {k : Bool} {many : Nat} {Q : AQ} (hD : Dr d c r b G) (hb : b ≤ 500000) (h1 : 1 ≤ many) (h2 : many ≤ 40) (q : ∀ p (ss : List Stand) G', Own d c r p (ss.map standV) G' → ss.length = 13 → (∀ s ∈ ss, okS 1000 s) → Dr d c r (b + 37) G' → Keep [d, r] G G' → Q (.ref p) G') :
    sp_law_come_to [.ref d, kindV k, .int (many : Int), .int 12] G Q := ⟨d, c, r, b, k, many, rfl, hD, hb, h1, h2, q⟩
/-! ### popping -/
theorem map_erase {α : Type} (f : α → AV) : ∀ (xs : List α) (i : Nat), (xs.map f).eraseIdx i = (xs.eraseIdx i).map f
  | [], _ => rfl
  | x :: xs, 0 => rfl
  | x :: xs, i + 1 => by
    show f x :: (xs.map f).eraseIdx i = f x :: (xs.eraseIdx i).map f
    rw [map_erase f xs i]
theorem erase_perm {α : Type} : ∀ (xs : List α) (i : Nat) (x : α), xs[i]? = some x → (x :: xs.eraseIdx i).Perm xs
  | [], _, _, h => by simp at h
  | y :: xs, 0, x, h => by
    simp at h
    subst h
    exact .refl _
  | y :: xs, i + 1, x, h => by
    have := erase_perm xs i x (by simpa using h)
    exact (List.Perm.swap y x _).trans (this.cons y)
theorem mod_nat {i : Int} {n : Nat} (h : 0 < n) : ∃ j : Nat, i % (n : Int) = (j : Int) ∧ j < n := by
  have h1 := Int.emod_nonneg i (show (n : Int) ≠ 0 by omega)
  have h2 := Int.emod_lt_of_pos i (show (0 : Int) < (n : Int) by omega)
  exact ⟨(i % (n : Int)).toNat, by omega, by omega⟩
end LS
set_option Elab.async false
set_option linter.all false
set_option maxRecDepth 100000
set_option maxHeartbeats 4000000
namespace LS
open PySem PySem.Spec PyProof.Rows L2 LA
local macro_rules | `(tactic| walk_at "la") => `(tactic| try simp only [aSeq, aIfS, aTest, aOp, aVar, aC, aRet, aNext, aDropS, aAsg, aAnd, aOr, aNot, aAndV, aOrV, aNotV, aChain, aCons, aNil, aCall, aCB, aTup, aLst, aMt, mt_ref, aSl, oSl_pre, oSl_pre1, oSl_0, aPart, aNoP, agName, agC, agE, agT_tup, agT_cell, agT_ent, agT_stand, aEnds, astart,
  List.map_cons, List.map_nil, List.length_cons, List.length_nil, List.cons_append, List.nil_append, List.getElem?_cons_zero, List.getElem?_cons_succ, List.set_cons_zero, List.set_cons_succ, List.replicate_succ, List.replicate_zero, Nat.reduceAdd, Nat.reduceSub, Nat.reduceLeDiff, Nat.zero_le, somex, somexx, blx, intx, tupx,
  at0, at1, at2, at3, oEq_ii, oEq_bb, oNe_ii, oNe_bb, oEq_one, oEq_two, oIx_tup, oIx_cell, oIx_cells, oIx_th, oIx_stand, oIx_ent, oLt_ii, oLt_th, oLt_opt, oLe_ii, oGt_ii, oGe_ii, oAdd_ii, oSub_ii, oMod_ii, oFdiv_ii, oMul_ii, oPow_ii, pow15, pow6, agT_ref, agSub, subx, oEq_ss, oNe_ss, decide_true, Int.reduceLT, Int.reduceLE, isN_non, isN_opt, notN_opt, isN_th, notN_th, cLen_tup, cLen_cells, cLen_ths, cInt_bl,
  isI_int, isB_int, isB_bl, isT_tup, isT_non, isT_int, isS_int, ite_tt, ite_ff, ite_not, ite_dec, Bool.not_true, Bool.not_false, nat0, nat1, nat2, nat3, true_and, ↓reduceIte, Option.isNone_none, Option.isNone_some, Option.isSome_none, Option.isSome_some, List.isEmpty_nil])
variable {d c r : Addr} {b : Int} {G G' : AH}
def a_tick_end : ATS :=
  (aSeq (aAsg (aLst aNil) (agName 5))
  (aSeq (aFor (aiRng1 (aCons (aVar 1) aNil)) (agName 6) (aDropS (aMt mAppend (aVar 5) (aCons (aMt mPopAt (aVar 3) (aCons (aOp oMod (aCall sp_law_next (aCons (aVar 0) aNil)) (aCB cLen (aCons (aVar 3) aNil))) aNil)) aNil))))
  (aRet (aTup (aCons (aVar 5) (aCons (aOp oIx (aLst (aCons (aVar 1) (aCons (aOp oAdd (aVar 1) (aC (.int 1))) (aCons (aOp oAdd (aVar 1) (aC (.int 5))) (aCons (aOp oSub (aOp oPow (aC (.int 10)) (aC (.int 6))) (aC (.int 5000))) aNil))))) (aVar 2)) aNil))))))
theorem a_tick_eq : a_law_tickets =
  (aSeq (aAsg (aOp oMod (aCall sp_law_next (aCons (aVar 0) aNil)) (aC (.int 4))) (agName 2))
  (aSeq (aAsg (aListRg (aOp oAdd (aVar 1) (aOp oIx (aLst (aCons (aC (.int 0)) (aCons (aC (.int 1)) (aCons (aC (.int 5)) (aCons (aC (.int 5)) aNil))))) (aVar 2)))) (agName 3))
  (aSeq (aIfS (aTest (aOp oEq (aVar 2) (aC (.int 3)))) (aAsg (aLc (aiRng1 (aCons (aOp oAdd (aVar 1) (aC (.int 5))) aNil)) (stN 4) aYes (aOp oAdd (aOp oMulA (aC (.int 1000)) (aVar 4)) (aOp oMod (aCall sp_law_next (aCons (aVar 0) aNil)) (aC (.int 1000))))) (agName 3)) aNext)
  a_tick_end))) := rfl
theorem tick_end {Q : AQ} {n : Nat} {w came : Int} {p : Addr} {fs : List Int} {G0 : AH} (hn : n ≤ 41) (hb : b ≤ 900000) (hD : Dr d c r b G) (hK : Keep [d, r] G0 G) (ho : Own d c r p (fs.map .int) G) (hp0 : G0 p = none) (hfl : n ≤ fs.length) (hfl2 : fs.length ≤ 100) (hnd : fs.Nodup)
    (hw : atI [AV.int (n : Int), AV.int ((n : Int) + 1), AV.int ((n : Int) + 5), AV.int 995000] w = some (.int came)) (hc : ∀ t ∈ fs, 0 ≤ t ∧ t < came)
    (q : ∀ p (ts : List Int) G', Own d c r p (ts.map .int) G' → ts.length = n → ts.Nodup → (∀ t ∈ ts, 0 ≤ t ∧ t < came) → Dr d c r (b + n) G' → Keep [d, r] G0 G' → Q (.tup [.ref p, .int came]) G') :
    a_tick_end (aEnds Q) [some (.ref d), some (.int (n : Int)), some (.int w), some (.ref p), none, none, none] G := by
  unfold a_tick_end
  walk_at "la"
  intro p2 hp2
  have hne : p ≠ p2 := ho.diff hp2
  have hp20 : G0 p2 = none := hK.freeD hD hp2
  refine for_rng n (fun i S G' => (∃ l, S = [some (.ref d), some (.int (n : Int)), some (.int w), some (.ref p), none, some (.ref p2), l]) ∧ Dr d c r (b + i) G' ∧ Keep [d, r] G0 G' ∧
    ∃ us ts : List Int, Own d c r p (us.map .int) G' ∧ Own d c r p2 (ts.map .int) G' ∧ ts.length = i ∧ (ts ++ us).Perm fs) (fun R q => ?_) (by omega)
    ⟨⟨none, rfl⟩, (hD.new hp2).mono (by omega), hK.new hp2, fs, [], ho.old hp2, Own.new hD hp2, rfl, .refl _⟩ (fun i S G2 hi h => ?_) (fun S G2 h => ?_)
  · walk_at "la"; exact q
  · obtain ⟨⟨l, rfl⟩, hD2, hK2, us, ts, h1, h2, h3, h4⟩ := h
    have hul : us.length = fs.length - i := by
      have := h4.length_eq
      rw [List.length_append] at this
      omega
    walk_at "la"
    refine ⟨⟨_, h2.at_⟩, ⟨_, h1.at_⟩, ?_⟩
    refine i_law_next hD2 (by omega) fun x G3 x0 x1 hD3 hK3 => ?_
    have h1' := h1.keep hK3
    have h2' := h2.keep hK3
    refine c_len h1'.at_ ?_
    rw [List.length_map]
    obtain ⟨j, ej, hj⟩ := mod_nat (i := x) (n := us.length) (by omega)
    walk_at "la"
    rw [ej]
    have huj : us[j]? = some us[j] := List.getElem?_eq_getElem hj
    refine ⟨by omega, m_pop (y := .int us[j]) h1'.at_ (by rw [List.length_map]; omega) (by rw [List.getElem?_map, huj]; rfl) ?_⟩
    rw [map_erase]
    refine m_append (aoth h2'.at_ hne.symm) (by rw [List.length_map]; omega) ⟨⟨_, rfl⟩, ?_, ?_, us.eraseIdx j, ts ++ [us[j]], ?_, ?_, by simp [h3], ?_⟩
    · have hD4 : Dr d c r (b + i + 1) (aupd G3 p ((us.eraseIdx j).map .int)) := h1'.dr hD3
      have hO : Own d c r p2 (ts.map .int) (aupd G3 p ((us.eraseIdx j).map .int)) := h2'.oth hne.symm
      exact (hO.dr hD4).mono (by omega)
    · exact ((hK2.trans hK3).own (.inr hp0)).own (.inr hp20)
    · have hO : Own d c r p ((us.eraseIdx j).map .int) (aupd G3 p ((us.eraseIdx j).map .int)) := h1'.set
      exact hO.oth hne
    · have hO : Own d c r p2 (ts.map .int) (aupd G3 p ((us.eraseIdx j).map .int)) := h2'.oth hne.symm
      rw [List.map_append]
      exact hO.set
    · rw [List.append_assoc]
      exact ((erase_perm us j us[j] huj).append_left ts).trans h4
  · obtain ⟨⟨l, rfl⟩, hD2, hK2, us, ts, h1, h2, h3, h4⟩ := h
    walk_at "la"
    refine ⟨⟨by decide, by decide, by decide⟩, fun p3 hp3 => ?_⟩
    refine ix_ref aupd_same (v := .int came) ?_ ?_
    · exact hw
    · have hmem : ∀ t ∈ ts, t ∈ fs := fun t ht => h4.subset (List.mem_append_left _ ht)
      have hnd' : ts.Nodup := (List.nodup_append.mp (h4.nodup_iff.mpr hnd)).1
      exact drop_same (q p2 ts _ (h2.old hp3) h3 hnd' (fun t ht => hc t (hmem t ht)) (hD2.new hp3) (hK2.new hp3))
theorem len_law_tickets : ∀ xs G Q, sp_law_tickets xs G Q → xs.length = 2 := fun _ _ _ ⟨_, _, _, _, _, e, _⟩ => by rw [e]; rfl
theorem range_ints (n : Nat) : (List.range n).map (fun (i : Nat) => AV.int (i : Int)) = ((List.range n).map fun (i : Nat) => (i : Int)).map AV.int := by rw [List.map_map]; rfl
theorem nodup_range (n : Nat) : ((List.range n).map fun (i : Nat) => (i : Int)).Nodup := by
  induction n with
  | zero => exact List.nodup_nil
  | succ n ih =>
    rw [List.range_succ, List.map_append, List.nodup_append]
    refine ⟨ih, by simp, fun a ha b hb => ?_⟩
    obtain ⟨i, hi, rfl⟩ := List.mem_map.mp ha
    have hb : b = (n : Int) := by simpa using hb
    have := List.mem_range.mp hi
    omega
theorem r_law_tickets : ∀ xs G Q, sp_law_tickets xs G Q → a_law_tickets (aEnds Q) (astart 7 xs) G := by
  rintro xs G Q ⟨d, c, r, b, n, rfl, hn, hD, hb, q⟩
  rw [a_tick_eq]
  walk_at "la"
  refine i_law_next hD (by omega) fun w G1 w0 w1 hD1 hK1 => ?_
  have e4 := Int.emod_nonneg w (show (4 : Int) ≠ 0 by decide)
  have f4 := Int.emod_lt_of_pos w (show (0 : Int) < 4 by decide)
  generalize hy : w % 4 = y at e4 f4
  unfold aListRg
  walk_at "la"
  rw [hy]
  intro p1 hp1
  have fin : ∀ (k : Nat) (came : Int), k ≤ 5 → atI [AV.int (n : Int), AV.int ((n : Int) + 1), AV.int ((n : Int) + 5), AV.int 995000] y = some (.int came) → ((n : Int) + (k : Int) ≤ came ∧ came ≤ 995000) →
      ∀ p2, (aupd G1 p1 [.int 0, .int 1, .int 5, .int 5]) p2 = none → a_tick_end (aEnds Q) [some (.ref d), some (.int (n : Int)), some (.int y), some (.ref p2), none, none, none] (aupd (aupd G1 p1 [.int 0, .int 1, .int 5, .int 5]) p2 ((List.range (n + k)).map fun (i : Nat) => AV.int (i : Int))) := by
    intro k came hk hat hcame p2 hp2
    have hD2 := hD1.new (xs := [.int 0, .int 1, .int 5, .int 5]) hp1
    have hK2 := hK1.new (xs := [.int 0, .int 1, .int 5, .int 5]) hp1
    rw [range_ints]
    refine tick_end hn (by omega) (hD2.new hp2) (hK2.new hp2) (Own.new hD2 hp2) (hK2.freeD hD2 hp2) (by simp) (by simp; omega) (nodup_range _) hat (fun t ht => ?_) (fun p ts G' h1 h2 h3 h4 h5 h6 => q p ts came G' h1 h2 h3 ⟨by omega, hcame.2⟩ h4 (h5.mono (by omega)) h6)
    obtain ⟨i, hi, rfl⟩ := List.mem_map.mp ht
    have := List.mem_range.mp hi
    omega
  have : y = 0 ∨ y = 1 ∨ y = 2 ∨ y = 3 := by omega
  rcases this with rfl | rfl | rfl | rfl
  · refine ix_ref aupd_same at0 ?_
    walk_at "la"
    refine ⟨n + 0, by simp, by omega, fun p2 hp2 => ?_⟩
    simp only [show ¬ ((0 : Int) = 3) from by decide, ↓reduceIte]
    exact fin 0 n (by omega) at0 (by omega) p2 hp2
  · refine ix_ref aupd_same at1 ?_
    walk_at "la"
    refine ⟨n + 1, by simp, by omega, fun p2 hp2 => ?_⟩
    simp only [show ¬ ((1 : Int) = 3) from by decide, ↓reduceIte]
    exact fin 1 (n + 1) (by omega) at1 (by omega) p2 hp2
  · refine ix_ref aupd_same at2 ?_
    walk_at "la"
    refine ⟨n + 5, by simp, by omega, fun p2 hp2 => ?_⟩
    simp only [show ¬ ((2 : Int) = 3) from by decide, ↓reduceIte]
    exact fin 5 (n + 5) (by omega) at2 (by omega) p2 hp2
  · refine ix_ref aupd_same at3 ?_
    walk_at "la"
    refine ⟨n + 5, by simp, by omega, fun p2 hp2 => ?_⟩
    have hD2 := (hD1.new (xs := [.int 0, .int 1, .int 5, .int 5]) hp1).new (xs := (List.range (n + 5)).map fun (i : Nat) => AV.int (i : Int)) hp2
    have hK2 := (hK1.new (xs := [.int 0, .int 1, .int 5, .int 5]) hp1).new (xs := (List.range (n + 5)).map fun (i : Nat) => AV.int (i : Int)) hp2
    refine lc_rngI (n + 5) (by omega) (fun p3 i G' => Dr d c r (b + 1 + i) G' ∧ Keep [d, r] G G' ∧ ∃ ts : List Int, Own d c r p3 (ts.map .int) G' ∧ ts.length = i ∧ ts.Nodup ∧ ∀ t ∈ ts, 0 ≤ t ∧ t < 1000 * (i : Int)) (fun R q => ?_) (fun p3 hp3 => ?_) (fun p3 i G' hp3 hi h => ?_) (fun p3 G' hp3 h => ?_)
    · walk_at "la"; exact q
    · exact ⟨(hD2.new hp3).mono (by omega), hK2.new hp3, [], Own.new hD2 hp3, rfl, List.nodup_nil, fun t ht => by cases ht⟩
    · obtain ⟨hD3, hK3, ts, h1, h2, h3, h4⟩ := h
      unfold aTurn aYes
      walk_at "la"
      refine ⟨.inl ⟨by decide, by decide⟩, ?_⟩
      refine i_law_next hD3 (by omega) fun x G4 x0 x1 hD4 hK4 => ?_
      have h1' := h1.keep hK4
      have ex := Int.emod_nonneg x (show (1000 : Int) ≠ 0 by decide)
      have fx := Int.emod_lt_of_pos x (show (0 : Int) < 1000 by decide)
      walk_at "la"
      refine ⟨_, h1'.at_, by rw [List.length_map]; omega, (h1'.dr hD4).mono (by omega), (hK3.trans hK4).own (.inr (hK2.freeD hD2 hp3)), ts ++ [1000 * (i : Int) + x % 1000], ?_, by simp [h2], ?_, fun t ht => ?_⟩
      · rw [List.map_append]
        exact h1'.set
      · rw [List.nodup_append]
        refine ⟨h3, by simp, fun a ha b hb => ?_⟩
        have hb : b = 1000 * (i : Int) + x % 1000 := by simpa using hb
        have := h4 a ha
        omega
      · rcases List.mem_append.mp ht with ht | ht
        · have := h4 t ht
          omega
        · have ht : t = 1000 * (i : Int) + x % 1000 := by simpa using ht
          omega
    · obtain ⟨hD3, hK3, ts, h1, h2, h3, h4⟩ := h
      walk_at "la"
      refine tick_end (came := 995000) hn (by omega) hD3 hK3 h1 (hK2.freeD hD2 hp3) (by omega) (by omega) h3 at3 (fun t ht => ?_) (fun p ts G' h1 h2 h3 h4 h5 h6 => q p ts 995000 G' h1 h2 h3 ⟨by omega, by omega⟩ h4 (h5.mono (by omega)) h6)
      have := h4 t ht
      omega
theorem i_law_tickets {n : Nat} {Q : AQ} (hn : n ≤ 41) (hD : Dr d c r b G) (hb : b ≤ 800000)
    (q : ∀ p (ts : List Int) (came : Int) G', Own d c r p (ts.map .int) G' → ts.length = n → ts.Nodup → (0 ≤ came ∧ came ≤ 995000) → (∀ t ∈ ts, 0 ≤ t ∧ t < came) → Dr d c r (b + 100) G' → Keep [d, r] G G' → Q (.tup [.ref p, .int came]) G') : sp_law_tickets [.ref d, .int (n : Int)] G Q :=
  ⟨d, c, r, b, n, rfl, hn, hD, hb, q⟩
end LS
set_option Elab.async false
set_option linter.all false
set_option maxRecDepth 100000
set_option maxHeartbeats 4000000
namespace LS
open PySem PySem.Spec PyProof.Rows L2 LA
local macro_rules | `(tactic| walk_at "la") => `(tactic| try simp only [aSeq, aIfS, aTest, aOp, aVar, aC, aRet, aNext, aDropS, aAsg, aAnd, aOr, aNot, aAndV, aOrV, aNotV, aChain, aCons, aNil, aCall, aCB, aTup, aLst, aMt, mt_ref, aSl, oSl_pre, oSl_pre1, oSl_0, aPart, aNoP, agName, agC, agE, agT_tup, agT_cell, agT_ent, agT_stand, aEnds, astart,
  List.map_cons, List.map_nil, List.length_cons, List.length_nil, List.cons_append, List.nil_append, List.getElem?_cons_zero, List.getElem?_cons_succ, List.set_cons_zero, List.set_cons_succ, List.replicate_succ, List.replicate_zero, Nat.reduceAdd, Nat.reduceSub, Nat.reduceLeDiff, Nat.zero_le, somex, somexx, blx, intx, tupx,
  at0, at1, at2, at3, oEq_ii, oEq_bb, oNe_ii, oNe_bb, oEq_one, oEq_two, oIx_tup, oIx_cell, oIx_cells, oIx_th, oIx_stand, oIx_ent, oLt_ii, oLt_th, oLt_opt, oLe_ii, oGt_ii, oGe_ii, oAdd_ii, oSub_ii, oMod_ii, oFdiv_ii, oMul_ii, oPow_ii, pow15, pow6, agT_ref, agSub, subx, oEq_ss, oNe_ss, decide_true, Int.reduceLT, Int.reduceLE, isN_non, isN_opt, notN_opt, isN_th, notN_th, cLen_tup, cLen_cells, cLen_ths, cInt_bl,
  isI_int, isB_int, isB_bl, isT_tup, isT_non, isT_int, isS_int, ite_tt, ite_ff, ite_not, ite_dec, Bool.not_true, Bool.not_false, nat0, nat1, nat2, nat3, true_and, ↓reduceIte, Option.isNone_none, Option.isNone_some, Option.isSome_none, Option.isSome_some, List.isEmpty_nil])
variable {d c r : Addr} {b : Int} {G G' : AH}
theorem len_law_made_things : ∀ xs G Q, sp_law_made_things xs G Q → xs.length = 2 := fun _ _ _ ⟨_, _, _, _, _, e, _⟩ => by rw [e]; rfl
theorem count_le_of {α : Type} [BEq α] [LawfulBEq α] : ∀ {l : List α}, l.Nodup → ∀ t, l.count t ≤ 1
  | [], _, t => by simp
  | x :: l, h, t => by
    obtain ⟨h1, h2⟩ := List.nodup_cons.mp h
    have := count_le_of h2 t
    by_cases z : x = t
    · subst z
      rw [List.count_cons_self, List.count_eq_zero.mpr h1]
      exact Nat.le_refl _
    · rw [List.count_cons_of_ne z]
      exact this
theorem nodup_snd {ts : List Th} (h : (ts.map Prod.snd).Nodup) : ts.Nodup := by
  induction ts with
  | nil => exact List.nodup_nil
  | cons t ts ih =>
    rw [List.map_cons, List.nodup_cons] at h
    rw [List.nodup_cons]
    exact ⟨fun hm => h.1 (List.mem_map_of_mem hm), ih h.2⟩
theorem r_law_made_things : ∀ xs G Q, sp_law_made_things xs G Q → a_law_made_things (aEnds Q) (astart 6 xs) G := by
  rintro xs G Q ⟨d, c, r, b, n, rfl, hn, hD, hb, q⟩
  unfold a_law_made_things
  walk_at "la"
  refine i_law_next hD (by omega) fun w G1 w0 w1 hD1 hK1 => ?_
  walk_at "la"
  refine i_law_tickets hn hD1 (by omega) fun tp ts came G2 ho htl hnd hcame hts hD2 hK2 => ?_
  walk_at "la"
  have hK12 := hK1.trans hK2
  refine lc_lstI AV.int ts tp (fun p2 dn G' => Dr d c r (b + 101 + 2 * dn.length) G' ∧ Keep [d, r] G G' ∧ Own d c r tp (ts.map .int) G' ∧ ∃ acc : List Th, Own d c r p2 (acc.map thV) G' ∧ acc.map Prod.snd = dn ∧ ∀ t ∈ acc, 0 ≤ t.1 ∧ t.1 ≤ 1000000000000000) ho.at_ (fun R q => ?_)
    (fun p2 dn G' hp2 h => h.2.2.1.at_) (fun p2 hp2 => ?_) (fun p2 dn y rr G3 hp2 e h => ?_) (fun p2 G3 hp2 h => ?_)
  · walk_at "la"; exact q
  · exact ⟨(hD2.new hp2).mono (by simp; omega), hK12.new hp2, ho.old hp2, [], Own.new hD2 hp2, rfl, fun t ht => by cases ht⟩
  · obtain ⟨hD3, hK3, ho3, acc, h1, h2, h3⟩ := h
    have hdl : dn.length + 1 ≤ n := by
      have := congrArg List.length e
      simp at this
      omega
    have hal : acc.length = dn.length := by rw [← h2, List.length_map]
    have hne : tp ≠ p2 := ho.diff hp2
    unfold aTurn aYes
    walk_at "la"
    refine i_law_number hD3 (by omega) fun x G4 x0 x1 hD4 hK4 => ?_
    have h1' := h1.keep hK4
    refine ⟨_, h1'.at_, by rw [List.length_map]; omega, (h1'.dr hD4).mono (by rw [List.length_append]; simp; omega), (hK3.trans hK4).own (.inr (hK12.freeD hD2 hp2)), (ho3.keep hK4).oth hne, acc ++ [(x, y)], ?_, ?_, fun t ht => ?_⟩
    · rw [List.map_append]
      exact h1'.set
    · rw [List.map_append, h2]; rfl
    · rcases List.mem_append.mp ht with ht | ht
      · exact h3 t ht
      · rw [List.mem_singleton.mp ht]
        exact ⟨x0, x1⟩
  · obtain ⟨hD3, hK3, ho3, acc, h1, h2, h3⟩ := h
    refine c_sorted h1.at_ fun us p3 hperm hp3 => ?_
    walk_at "la"
    have hal : acc.length = n := by rw [← htl, ← h2, List.length_map]
    refine drop_same (q p3 us came _ (Own.new hD3 hp3) (by rw [hperm.length_eq, hal]) ⟨fun t => ?_, hcame, fun t ht => ?_⟩ (hK3.freeD hD3 hp3) ((hD3.new hp3).mono (by omega)) (hK3.new hp3))
    · rw [hperm.count_eq]
      exact count_le_of (nodup_snd (by rw [h2]; exact hnd)) t
    · have hm := hperm.subset ht
      refine ⟨h3 t hm, hts t.2 ?_⟩
      rw [← h2]
      exact List.mem_map_of_mem hm
theorem i_law_made_things {n : Nat} {Q : AQ} (hn : n ≤ 41) (hD : Dr d c r b G) (hb : b ≤ 700000)
    (q : ∀ p (ts : List Th) (came : Int) G', Own d c r p (ts.map thV) G' → ts.length = n → goodL ts came → G p = none → Dr d c r (b + 200) G' → Keep [d, r] G G' → Q (.tup [.ref p, .int came]) G') : sp_law_made_things [.ref d, .int (n : Int)] G Q := ⟨d, c, r, b, n, rfl, hn, hD, hb, q⟩
/-- for i in range(n), n with an effect -/
theorem for_rngE (P : Nat → AH → Prop) {la : ATA} {g : ATG} {sb : ATS} {D : AEnds} {S : ASt} {G : AH} (he : ∀ R : List AV → AH → Prop, (∀ (n : Nat) G1, P n G1 → R [.int (n : Int)] G1) → la S G R)
    (body : ∀ n G1, P n G1 → n ≤ 100000 ∧ ∃ I : Nat → ASt → AH → Prop, I 0 S G1 ∧ (∀ i S G, i < n → I i S G → g (.int (i : Int)) S G fun S2 G2 => sb { D with nx := I (i + 1), ct := I (i + 1), bk := D.nx } S2 G2) ∧ ∀ S G, I n S G → D.nx S G) : aFor (aiRng1 la) g sb D S G := by
  refine he _ fun n G1 hP => ?_
  obtain ⟨hn, I, h0, st, fin⟩ := body n G1 hP
  refine ⟨n, rfl, hn, I, h0, fun _ _ _ _ _ => trivial, fun i x S G hx h => ?_, fun S G h => ?_⟩
  · obtain ⟨hi, rfl⟩ := rgA_of hx
    rw [Int.zero_add]
    exact st i S G hi h
  · rw [rgA_length] at h
    exact fin S G h
/-! ### made_two -/
theorem len_law_made_two : ∀ xs G Q, sp_law_made_two xs G Q → xs.length = 5 := fun _ _ _ ⟨_, _, _, _, _, _, _, _, _, e, _⟩ => by rw [e]; rfl
theorem two_cell {ow : List Th} (h : ow.length ≤ 2) : ∃ e : Cell, things [e] = ow ∧ atI (ow.map thV ++ [.non, .non]) 0 = some (optV e.1) ∧ atI (ow.map thV ++ [.non, .non]) 1 = some (optV e.2) := by
  match ow, h with
  | [], _ => exact ⟨(none, none), rfl, at0, at1⟩
  | [x], _ => exact ⟨(some x, none), rfl, at0, at1⟩
  | [x, y], _ => exact ⟨(some x, some y), rfl, at0, at1⟩
theorem keepL_of {l : Addr} (h : Keep [d, r] G G') : Keep [d, r, l] G G' := h.more (fun a ha => by
  rcases List.mem_cons.mp ha with e | ha
  · simp [e]
  · rw [List.mem_singleton.mp ha]; simp)
theorem KeepL.freeD {l p : Addr} {xs : List AV} (h : Keep [d, r, l] G G') (hd : Dr d c r b G') (hl : Own d c r l xs G') (hp : G' p = none) : G p = none := h.free hp (by
  obtain ⟨h1, h2, h3⟩ := hd.ne_new hp
  have h4 := (hl.diff hp).symm
  simp [h1, h3, h4])
theorem r_law_made_two : ∀ xs G Q, sp_law_made_two xs G Q → a_law_made_two (aEnds Q) (astart 9 xs) G := by
  rintro xs G Q ⟨d, c, r, b, l, ts, turn, p, many, rfl, hD, hb, ho, hp, hm, htl, q⟩
  unfold a_law_made_two
  walk_at "la"
  intro p1 hp1
  refine eq_lst0 (aold ho.at_ hp1) aupd_same ?_
  have hD1 := hD.new (xs := []) hp1
  have ho1 := ho.old (ys := []) hp1
  have hK1 : Keep [d, r, l] G (aupd G p1 []) := (Keep.refl _ _).new hp1
  generalize hG : aupd G p1 [] = G1 at hD1 ho1 hK1
  walk_at "la"
  cases hts : ts with
  | nil =>
    subst hts
    walk_at "la"
    exact drop_same (q (none, none) [] _ ho1 (by simp; omega) (.refl _) (hD1.mono (by omega)) hK1)
  | cons t0 tr =>
    have htl' : 0 < ts.length := by rw [hts]; simp
    have e0 : ts[0]? = some t0 := by rw [hts]; rfl
    rw [← hts]
    have hem : ts.isEmpty = false := by rw [hts]; rfl
    rw [hem]
    walk_at "la"
    have pop1 : (∃ xs, G1 l = some xs) ∧ mPopAt (.ref l) [.int 0] G1 fun x G2 => aDrop Q (.tup [x, .non]) G2 := by
      refine ⟨⟨_, ho1.at_⟩, m_pop (i := 0) (y := thV t0) ho1.at_ (by rw [List.length_map]; omega) (by rw [List.getElem?_map, e0]; rfl) ?_⟩
      rw [map_erase]
      refine drop_same (q (some t0, none) (ts.eraseIdx 0) _ ho1.set ?_ ?_ ((ho1.dr hD1).mono (by omega)) (hK1.own (.inl (by simp))))
      · rw [hts] at htl ⊢
        simp at htl ⊢
        omega
      · exact erase_perm ts 0 t0 e0
    by_cases h0 : (p : Int) = 0
    · rw [if_pos h0]
      exact pop1
    · rw [if_neg h0]
      by_cases h2 : (p : Int) % 2 = turn
      · rw [if_pos h2]
        refine c_len ho1.at_ ?_
        walk_at "la"
        refine c_max2 ?_
        refine c_len ho1.at_ ?_
        refine c_min2 ?_
        walk_at "la"
        rw [List.length_map]
        generalize hle : (if (ts.length : Int) - ((many : Int) - (p : Int) - 1) > 0 then (ts.length : Int) - ((many : Int) - (p : Int) - 1) else 0) = least
        generalize hmo : (if (ts.length : Int) < 2 then (ts.length : Int) else 2) = most
        have f1 : 0 ≤ least ∧ (ts.length : Int) - ((many : Int) - (p : Int) - 1) ≤ least ∧ least ≤ 1 := by
          rw [← hle]
          split <;> omega
        have f2 : 1 ≤ most ∧ most ≤ 2 ∧ most ≤ (ts.length : Int) := by
          rw [← hmo]
          split <;> omega
        intro p2 hp2
        have hne : l ≠ p2 := ho1.diff hp2
        have hp20 : G p2 = none := KeepL.freeD hK1 hD1 ho1 hp2
        have hD2 := hD1.new (xs := []) hp2
        have ho2 := ho1.old (ys := []) hp2
        have hK2 := hK1.new (xs := []) hp2
        have hq2 := Own.new (xs := []) hD1 hp2
        generalize hG2 : aupd G1 p2 [] = G2 at hD2 ho2 hK2 hq2
        refine for_rngE (fun k G3 => (least ≤ (k : Int) ∧ (k : Int) ≤ most) ∧ Dr d c r (b + 1) G3 ∧ Keep [d, r, l] G G3 ∧ Own d c r l (ts.map thV) G3 ∧ Own d c r p2 [] G3) (fun R hR => ?_) (fun k G3 hP => ?_)
        · walk_at "la"
          refine i_law_next hD2 (by omega) fun x G3 x0 x1 hD3 hK3 => ?_
          have ho3 := ho2.keep hK3
          have hq3 := hq2.keep hK3
          have hK23 := hK2.trans (keepL_of (l := l) hK3)
          have g1 := Int.emod_nonneg x (show most - least + 1 ≠ 0 by omega)
          have g2 := Int.emod_lt_of_pos x (show 0 < most - least + 1 by omega)
          walk_at "la"
          generalize hx : x % (most - least + 1) = y at g1 g2
          obtain ⟨k, hk⟩ : ∃ k : Nat, least + y = (k : Int) := ⟨(least + y).toNat, by omega⟩
          rw [hk]
          exact ⟨by omega, hR k G3 ⟨by omega, hD3, hK23, ho3, hq3⟩⟩
        obtain ⟨hk, hD3, hK23, ho3, hq3⟩ := hP
        refine ⟨by omega, ?_⟩
        refine ⟨(fun i S G' => (∃ l1, S = [some (.ref d), some (.ref l), some (.int turn), some (.int (p : Int)), some (.int (many : Int)), some (.int least), some (.int most), some (.ref p2), l1]) ∧ Dr d c r (b + 1 + i) G' ∧ Keep [d, r, l] G G' ∧
          ∃ us ow : List Th, Own d c r l (us.map thV) G' ∧ Own d c r p2 (ow.map thV) G' ∧ ow.length = i ∧ (ow ++ us).Perm ts)
          , ⟨⟨none, rfl⟩, hD3.mono (by omega), hK23, ts, [], ho3, hq3, rfl, .refl _⟩, (fun i S G2 hi h => ?_), (fun S G2 h => ?_)⟩
        · obtain ⟨⟨l1, rfl⟩, hD2, hK2, us, ow, h1, h2, h3, h4⟩ := h
          have hul : us.length + i = ts.length := by
            have := h4.length_eq
            rw [List.length_append] at this
            omega
          walk_at "la"
          refine ⟨⟨_, h2.at_⟩, ⟨_, h1.at_⟩, ?_⟩
          refine i_law_next hD2 (by omega) fun x G3 x0 x1 hD3 hK3 => ?_
          have h1' := h1.keep hK3
          have h2' := h2.keep hK3
          refine c_len h1'.at_ ?_
          rw [List.length_map]
          obtain ⟨j, ej, hj⟩ := mod_nat (i := x) (n := us.length) (by omega)
          walk_at "la"
          rw [ej]
          have huj : us[j]? = some us[j] := List.getElem?_eq_getElem hj
          refine ⟨by omega, m_pop (y := thV us[j]) h1'.at_ (by rw [List.length_map]; omega) (by rw [List.getElem?_map, huj]; rfl) ?_⟩
          rw [map_erase]
          have hD4 : Dr d c r (b + 1 + i + 1) (aupd G3 l ((us.eraseIdx j).map thV)) := h1'.dr hD3
          have hO : Own d c r p2 (ow.map thV) (aupd G3 l ((us.eraseIdx j).map thV)) := h2'.oth hne.symm
          have hO2 : Own d c r l ((us.eraseIdx j).map thV) (aupd G3 l ((us.eraseIdx j).map thV)) := h1'.set
          refine m_append hO.at_ (by rw [List.length_map]; omega) ⟨⟨_, rfl⟩, ?_, ?_, us.eraseIdx j, ow ++ [us[j]], hO2.oth hne, ?_, by simp [h3], ?_⟩
          · exact (hO.dr hD4).mono (by omega)
          · exact ((hK2.trans (keepL_of hK3)).own (.inl (by simp))).own (.inr hp20)
          · rw [List.map_append]
            exact hO.set
          · rw [List.append_assoc]
            exact ((erase_perm us j us[j] huj).append_left ow).trans h4
        · obtain ⟨⟨l1, rfl⟩, hD2, hK2, us, ow, h1, h2, h3, h4⟩ := h
          have hul : us.length + k = ts.length := by
            have := h4.length_eq
            rw [List.length_append] at this
            omega
          walk_at "la"
          refine c_sorted h2.at_ fun ow' p3 hperm hp3 p4 hp4 => ?_
          refine o_add_ref (aold aupd_same hp4) aupd_same (by rw [List.length_map, hperm.length_eq]; simp; omega) fun p5 hp5 => ?_
          obtain ⟨e, e1, e2, e3⟩ := two_cell (ow := ow') (by rw [hperm.length_eq]; omega)
          refine ix_ref aupd_same e2 ?_
          refine ix_ref aupd_same e3 ?_
          refine drop_same (q e us _ (((h1.old hp3).old hp4).old hp5) (by omega) ?_ ((((hD2.new hp3).new hp4).new hp5).mono (by omega)) (((hK2.new hp3).new hp4).new hp5))
          rw [e1]
          exact (hperm.append_right us).trans h4
      · rw [if_neg h2]
        exact pop1
theorem i_law_made_two {l : Addr} {ts : List Th} {turn : Int} {p many : Nat} {Q : AQ} (hD : Dr d c r b G) (hb : b ≤ 700000) (ho : Own d c r l (ts.map thV) G) (hp : p < many) (hm : many ≤ 40) (htl : ts.length + p ≤ many)
    (q : ∀ (e : Cell) (us : List Th) G', Own d c r l (us.map thV) G' → us.length + p + 1 ≤ many → (things [e] ++ us).Perm ts → Dr d c r (b + 3) G' → Keep [d, r, l] G G' → Q (cellV e) G') : sp_law_made_two [.ref d, .ref l, .int turn, .int (p : Int), .int (many : Int)] G Q := ⟨d, c, r, b, l, ts, turn, p, many, rfl, hD, hb, ho, hp, hm, htl, q⟩
end LS
set_option Elab.async false
set_option linter.all false
set_option maxRecDepth 100000
set_option maxHeartbeats 4000000
namespace LS
open PySem PySem.Spec PyProof.Rows L2 LA
local macro_rules | `(tactic| walk_at "la") => `(tactic| try simp only [aSeq, aIfS, aTest, aOp, aVar, aC, aRet, aNext, aDropS, aAsg, aAnd, aOr, aNot, aAndV, aOrV, aNotV, aChain, aCons, aNil, aCall, aCB, aTup, aLst, aMt, mt_ref, aSl, oSl_pre, oSl_pre1, oSl_0, aPart, aNoP, agName, agC, agE, agT_tup, agT_cell, agT_ent, agT_stand, aEnds, astart,
  List.map_cons, List.map_nil, List.length_cons, List.length_nil, List.cons_append, List.nil_append, List.getElem?_cons_zero, List.getElem?_cons_succ, List.set_cons_zero, List.set_cons_succ, List.replicate_succ, List.replicate_zero, Nat.reduceAdd, Nat.reduceSub, Nat.reduceLeDiff, Nat.zero_le, somex, somexx, blx, intx, tupx,
  at0, at1, at2, at3, oEq_ii, oEq_bb, oNe_ii, oNe_bb, oEq_one, oEq_two, oIx_tup, oIx_cell, oIx_cells, oIx_th, oIx_stand, oIx_ent, oLt_ii, oLt_th, oLt_opt, oLe_ii, oGt_ii, oGe_ii, oAdd_ii, oSub_ii, oMod_ii, oFdiv_ii, oMul_ii, oPow_ii, pow15, pow6, agT_ref, agSub, subx, oEq_ss, oNe_ss, decide_true, Int.reduceLT, Int.reduceLE, isN_non, isN_opt, notN_opt, isN_th, notN_th, cLen_tup, cLen_cells, cLen_ths, cInt_bl,
  isI_int, isB_int, isB_bl, isT_tup, isT_non, isT_int, isS_int, ite_tt, ite_ff, ite_not, ite_dec, Bool.not_true, Bool.not_false, nat0, nat1, nat2, nat3, true_and, ↓reduceIte, Option.isNone_none, Option.isNone_some, Option.isSome_none, Option.isSome_some, List.isEmpty_nil])
variable {d c r : Addr} {b : Int} {G G' : AH}
def a_one_go : ATS :=
  (aSeq (aAsg (aMt mPopAt (aVar 1) (aCons (aC (.int 0)) aNil)) (agName 7))
  (aSeq (aIfS (aAnd (aTest (aOp oNe (aVar 1) (aLst aNil))) (aAnd (aOr (aTest (aOp oEq (aVar 2) (aC (.int 1)))) (aTest (aOp oGt (aVar 5) (aC (.int 0))))) (aTest (aOp oEq (aOp oMod (aCall sp_law_next (aCons (aVar 0) aNil)) (aC (.int 2))) (aC (.int 0)))))) (aRet (aTup (aCons (aVar 7) (aCons (aMt mPopAt (aVar 1) (aCons (aOp oMod (aCall sp_law_next (aCons (aVar 0) aNil)) (aCB cLen (aCons (aVar 1) aNil))) aNil)) aNil)))) aNext)
  (aRet (aTup (aCons (aVar 7) (aCons (aC .non) aNil))))))
def a_one_tail : ATS :=
  (aSeq (aIfS (aAnd (aTest (aVar 6)) (aTest (aOp oEq (aOp oMod (aCall sp_law_next (aCons (aVar 0) aNil)) (aC (.int 3))) (aC (.int 0))))) (aRet (aTup (aCons (aC .non) (aCons (aC .non) aNil)))) aNext)
  a_one_go)
theorem a_one_eq : a_law_made_one =
  (aSeq (aAsg (aCB cLen (aCons (aVar 3) aNil)) (agName 5))
  (aSeq (aIfS (aTest (aOp oEq (aVar 1) (aLst aNil))) (aRet (aTup (aCons (aC .non) (aCons (aC .non) aNil)))) aNext)
  (aSeq (aAsg (aAndV (aOp oGt (aVar 5) (aC (.int 0))) (aAndV (aOp oNotN (aOp oIx (aOp oIx (aVar 3) (aC (.int (-1)))) (aC (.int 0))) (aC .non)) (aAndV (aOp oLt (aCB cLen (aCons (aVar 1) aNil)) (aOp oSub (aVar 4) (aVar 5))) (aOrV (aOp oEq (aVar 2) (aC (.int 1))) (aOp oGt (aVar 5) (aC (.int 1))))))) (agName 6))
  a_one_tail))) := rfl
theorem one_tail {Q : AQ} {l q0 : Addr} {ts : List Th} {turn pl : Int} {many : Nat} {can : Bool} {G0 : AH} (hne : 0 < ts.length) (htl : ts.length ≤ 900) (hb : b ≤ 800000) (hD : Dr d c r b G) (hK : Keep [d, r, l] G0 G) (ho : Own d c r l (ts.map thV) G)
    (q : ∀ (e : Cell) (us : List Th) G', Own d c r l (us.map thV) G' → (things [e] ++ us).Perm ts → Dr d c r (b + 3) G' → Keep [d, r, l] G0 G' → Q (cellV e) G') :
    a_one_tail (aEnds Q) [some (.ref d), some (.ref l), some (.int turn), some (.ref q0), some (.int (many : Int)), some (.int pl), some (.bl can), none] G := by
  obtain ⟨t0, e0⟩ : ∃ t0, ts[0]? = some t0 := ⟨ts[0], List.getElem?_eq_getElem hne⟩
  have ep := erase_perm ts 0 t0 e0
  -- behind the first question
  have go : ∀ G1 b1, b1 ≤ b + 1 → Dr d c r b1 G1 → Keep [d, r, l] G0 G1 → Own d c r l (ts.map thV) G1 → a_one_go (aEnds Q) [some (.ref d), some (.ref l), some (.int turn), some (.ref q0), some (.int (many : Int)), some (.int pl), some (.bl can), none] G1 := by
    intro G1 b1 hb1 hD1 hK1 ho1
    unfold a_one_go
    walk_at "la"
    refine ⟨⟨_, ho1.at_⟩, m_pop (i := 0) (y := thV t0) ho1.at_ (by rw [List.length_map]; omega) (by rw [List.getElem?_map, e0]; rfl) ?_⟩
    rw [map_erase]
    have ho2 : Own d c r l ((ts.eraseIdx 0).map thV) (aupd G1 l ((ts.eraseIdx 0).map thV)) := ho1.set
    have hD2 : Dr d c r b1 (aupd G1 l ((ts.eraseIdx 0).map thV)) := ho1.dr hD1
    have hK2 : Keep [d, r, l] G0 (aupd G1 l ((ts.eraseIdx 0).map thV)) := hK1.own (.inl (by simp))
    intro p1 hp1
    refine ne_lst0 (aold ho2.at_ hp1) aupd_same ?_
    have ho3 := ho2.old (ys := []) hp1
    have hD3 := hD2.new (xs := []) hp1
    have hK3 := hK2.new (xs := []) hp1
    generalize aupd (aupd G1 l ((ts.eraseIdx 0).map thV)) p1 [] = G3 at ho3 hD3 hK3
    have last : ∀ G4 b4, b4 ≤ b + 3 → Dr d c r b4 G4 → Keep [d, r, l] G0 G4 → Own d c r l ((ts.eraseIdx 0).map thV) G4 → aDrop Q (.tup [thV t0, .non]) G4 := fun G4 b4 hb4 x1 x2 x3 =>
      drop_same (q (some t0, none) _ _ x3 ep (x1.mono hb4) x2)
    have ask : ∀ (k : AH → Prop), (∀ G4, Dr d c r (b1 + 1) G4 → Keep [d, r, l] G0 G4 → Own d c r l ((ts.eraseIdx 0).map thV) G4 → (ts.eraseIdx 0).isEmpty = false → k G4) → (ts.eraseIdx 0).isEmpty = false →
        sp_law_next [.ref d] G3 fun x G1 => oMod x (.int 2) G1 fun x G1 => oEq x (.int 0) G1 fun x G1 => ∃ b, x = .bl b ∧ if b = true then k G1 else aDrop Q (.tup [thV t0, .non]) G1 := by
      intro k hk he
      refine i_law_next hD3 (by omega) fun x G4 x0 x1 hD4 hK4 => ?_
      have ho4 := ho3.keep hK4
      have hK34 := hK3.trans (keepL_of (l := l) hK4)
      walk_at "la"
      split
      · exact hk G4 hD4 hK34 ho4 he
      · exact last G4 _ (by omega) hD4 hK34 ho4
    have pop2 : ∀ G4, Dr d c r (b1 + 1) G4 → Keep [d, r, l] G0 G4 → Own d c r l ((ts.eraseIdx 0).map thV) G4 → (ts.eraseIdx 0).isEmpty = false →
        ((∃ xs, G4 l = some xs) ∧ sp_law_next [.ref d] G4 fun x G1 => cLen [.ref l] G1 fun y G2 => oMod x y G2 fun x G1 => mPopAt (.ref l) [x] G1 fun x G1 => aDrop Q (.tup [thV t0, x]) G1) := by
      intro G4 hD4 hK4 ho4 he
      refine ⟨⟨_, ho4.at_⟩, ?_⟩
      refine i_law_next hD4 (by omega) fun x G5 x0 x1 hD5 hK5 => ?_
      have ho5 := ho4.keep hK5
      refine c_len ho5.at_ ?_
      rw [List.length_map]
      have hpos : 0 < (ts.eraseIdx 0).length := List.length_pos_iff.mpr (nlen0 he)
      obtain ⟨j, ej, hj⟩ := mod_nat (i := x) hpos
      walk_at "la"
      rw [ej]
      have huj : (ts.eraseIdx 0)[j]? = some (ts.eraseIdx 0)[j] := List.getElem?_eq_getElem hj
      have hle : (ts.eraseIdx 0).length ≤ ts.length := List.length_eraseIdx_le ..
      refine ⟨by omega, m_pop (y := thV (ts.eraseIdx 0)[j]) ho5.at_ (by rw [List.length_map]; omega) (by rw [List.getElem?_map, huj]; rfl) ?_⟩
      rw [map_erase]
      refine drop_same (q (some t0, some (ts.eraseIdx 0)[j]) ((ts.eraseIdx 0).eraseIdx j) _ ho5.set ?_ ((ho5.dr hD5).mono (by omega)) ((hK4.trans (keepL_of hK5)).own (.inl (by simp))))
      exact ((erase_perm (ts.eraseIdx 0) j _ huj).cons t0).trans ep
    walk_at "la"
    cases he : (ts.eraseIdx 0).isEmpty with
    | true =>
      walk_at "la"
      exact last G3 _ (by omega) hD3 hK3 ho3
    | false =>
      walk_at "la"
      split
      · exact ask _ pop2 he
      · split
        · exact ask _ pop2 he
        · exact last G3 _ (by omega) hD3 hK3 ho3
  unfold a_one_tail
  walk_at "la"
  cases can with
  | false =>
    walk_at "la"
    exact go G b (by omega) hD hK ho
  | true =>
    walk_at "la"
    refine i_law_next hD (by omega) fun x G1 x0 x1 hD1 hK1 => ?_
    have ho1 := ho.keep hK1
    have hK1' := hK.trans (keepL_of (l := l) hK1)
    walk_at "la"
    split
    · exact drop_same (q (none, none) ts _ ho1 (.refl _) (hD1.mono (by omega)) hK1')
    · exact go G1 (b + 1) (by omega) hD1 hK1' ho1
theorem len_law_made_one : ∀ xs G Q, sp_law_made_one xs G Q → xs.length = 5 := fun _ _ _ ⟨_, _, _, _, _, _, _, _, _, _, e, _⟩ => by rw [e]; rfl
theorem r_law_made_one : ∀ xs G Q, sp_law_made_one xs G Q → a_law_made_one (aEnds Q) (astart 8 xs) G := by
  rintro xs G Q ⟨d, c, r, b, l, q0, ts, cs, turn, many, rfl, hD, hb, ho, hq, hne, htl, hcl, hm, q⟩
  rw [a_one_eq]
  walk_at "la"
  refine c_len hq.at_ fun p1 hp1 => ?_
  refine eq_lst0 (aold ho.at_ hp1) aupd_same ?_
  have hD1 := hD.new (xs := []) hp1
  have ho1 := ho.old (ys := []) hp1
  have hq1 := hq.old (ys := []) hp1
  have hK1 : Keep [d, r, l] G (aupd G p1 []) := (Keep.refl _ _).new hp1
  generalize aupd G p1 [] = G1 at hD1 ho1 hK1 hq1
  rw [List.length_map]
  walk_at "la"
  cases hts : ts.isEmpty with
  | true =>
    walk_at "la"
    exact drop_same (q (none, none) ts _ ho1 (.refl _) (hD1.mono (by omega)) hK1)
  | false =>
    walk_at "la"
    have hpos : 0 < ts.length := List.length_pos_iff.mpr (nlen0 hts)
    have go := fun can => one_tail (q0 := q0) (turn := turn) (pl := (cs.length : Int)) (many := many) (can := can) hpos htl (by omega) hD1 hK1 ho1 q
    split
    · rename_i hl
      have hcne : cs ≠ [] := fun e => by rw [e] at hl; simp at hl
      obtain ⟨pre, e, es⟩ : ∃ pre e, cs = pre ++ [e] := ⟨cs.dropLast, cs.getLast hcne, (List.dropLast_concat_getLast hcne).symm⟩
      have hat : atI (cs.map cellV) (-1) = some (cellV e) := by rw [es]; exact at_last _ _ _
      refine ix_ref hq1.at_ hat ?_
      walk_at "la"
      split
      · refine c_len ho1.at_ ?_
        walk_at "la"
        split
        · split
          · exact go true
          · exact go _
        · exact go false
      · exact go false
    · exact go false
theorem i_law_made_one {l q0 : Addr} {ts : List Th} {cs : List Cell} {turn : Int} {many : Nat} {Q : AQ} (hD : Dr d c r b G) (hb : b ≤ 700000) (ho : Own d c r l (ts.map thV) G) (hq : Own d c r q0 (cs.map cellV) G) (hne : l ≠ q0) (htl : ts.length ≤ 900) (hcl : cs.length ≤ 900) (hm : many ≤ 40)
    (q : ∀ (e : Cell) (us : List Th) G', Own d c r l (us.map thV) G' → (things [e] ++ us).Perm ts → Dr d c r (b + 3) G' → Keep [d, r, l] G G' → Q (cellV e) G') : sp_law_made_one [.ref d, .ref l, .int turn, .ref q0, .int (many : Int)] G Q := ⟨d, c, r, b, l, q0, ts, cs, turn, many, rfl, hD, hb, ho, hq, hne, htl, hcl, hm, q⟩
end LS
set_option Elab.async false
set_option linter.all false
set_option maxRecDepth 100000
set_option maxHeartbeats 4000000
namespace LS
open PySem PySem.Spec PyProof.Rows L2 LA
local macro_rules | `(tactic| walk_at "la") => `(tactic| try simp only [aSeq, aIfS, aTest, aOp, aVar, aC, aRet, aNext, aDropS, aAsg, aAnd, aOr, aNot, aAndV, aOrV, aNotV, aChain, aCons, aNil, aCall, aCB, aTup, aLst, aMt, mt_ref, aSl, oSl_pre, oSl_pre1, oSl_0, aPart, aNoP, agName, agC, agE, agT_tup, agT_cell, agT_ent, agT_stand, aEnds, astart,
  List.map_cons, List.map_nil, List.length_cons, List.length_nil, List.cons_append, List.nil_append, List.getElem?_cons_zero, List.getElem?_cons_succ, List.set_cons_zero, List.set_cons_succ, List.replicate_succ, List.replicate_zero, Nat.reduceAdd, Nat.reduceSub, Nat.reduceLeDiff, Nat.zero_le, somex, somexx, blx, intx, tupx,
  at0, at1, at2, at3, oEq_ii, oEq_bb, oNe_ii, oNe_bb, oEq_one, oEq_two, oIx_tup, oIx_cell, oIx_cells, oIx_th, oIx_stand, oIx_ent, oLt_ii, oLt_th, oLt_opt, oLe_ii, oGt_ii, oGe_ii, oAdd_ii, oSub_ii, oMod_ii, oFdiv_ii, oMul_ii, oPow_ii, pow15, pow6, agT_ref, agSub, subx, oEq_ss, oNe_ss, decide_true, Int.reduceLT, Int.reduceLE, isN_non, isN_opt, notN_opt, isN_th, notN_th, cLen_tup, cLen_cells, cLen_ths, cInt_bl,
  isI_int, isB_int, isB_bl, isT_tup, isT_non, isT_int, isS_int, ite_tt, ite_ff, ite_not, ite_dec, Bool.not_true, Bool.not_false, nat0, nat1, nat2, nat3, true_and, ↓reduceIte, Option.isNone_none, Option.isNone_some, Option.isSome_none, Option.isSome_some, List.isEmpty_nil])
variable {d c r : Addr} {b : Int} {G G' : AH}
def fitB (k : Bool) (x y : Nat) : Prop := k = false → x ≤ y
theorem share_at {many few : Nat} {y : Int} (hf : few ≤ many) (hm : 1 ≤ many) (h0 : 0 ≤ y) (h4 : y < 4) : ∃ n : Nat, n ≤ many ∧ atI [AV.int (many : Int), AV.int (few : Int), AV.int (few : Int), AV.int (((many : Int) + 1) / 2)] y = some (.int (n : Int)) := by
  have : y = 0 ∨ y = 1 ∨ y = 2 ∨ y = 3 := by omega
  rcases this with rfl | rfl | rfl | rfl
  · exact ⟨many, Nat.le_refl _, at0⟩
  · exact ⟨few, hf, at1⟩
  · exact ⟨few, hf, at2⟩
  · refine ⟨(many + 1) / 2, by omega, ?_⟩
    rw [show ((((many + 1) / 2 : Nat)) : Int) = ((many : Int) + 1) / 2 from by omega]
    exact at3
theorem len_law_made_stand : ∀ xs G Q, sp_law_made_stand xs G Q → xs.length = 3 := fun _ _ _ ⟨_, _, _, _, _, _, e, _⟩ => by rw [e]; rfl
theorem r_law_made_stand : ∀ xs G Q, sp_law_made_stand xs G Q → a_law_made_stand (aEnds Q) (astart 10 xs) G := by
  rintro xs G Q ⟨d, c, r, b, k, many, rfl, hD, hb, hm1, hm2, q⟩
  unfold a_law_made_stand
  walk_at "la"
  refine i_law_next hD (by omega) fun w1 G1 _ _ hD1 hK1 => ?_
  walk_at "la"
  refine i_law_next hD1 (by omega) fun w2 G2 _ _ hD2 hK2 => ?_
  walk_at "la"
  refine i_law_next hD2 (by omega) fun w3 G3 _ _ hD3 hK3 => ?_
  have t0 := Int.emod_nonneg w1 (show (2 : Int) ≠ 0 by decide)
  have t1 := Int.emod_lt_of_pos w1 (show (0 : Int) < 2 by decide)
  have s0 := Int.emod_nonneg w2 (show (4 : Int) ≠ 0 by decide)
  have s1 := Int.emod_lt_of_pos w2 (show (0 : Int) < 4 by decide)
  obtain ⟨few, ef, hf⟩ := mod_nat (i := w3) (n := many + 1) (by omega)
  walk_at "la"
  rw [show (many : Int) + 1 = ((many + 1 : Nat) : Int) from by omega, ef]
  refine ⟨by omega, ?_⟩
  generalize hy : w2 % 4 = y at s0 s1
  generalize hz : w1 % 2 = turn at t0 t1
  rw [show ((many + 1 : Nat) : Int) = (many : Int) + 1 from by omega]
  obtain ⟨n, hn, hat⟩ := share_at (few := few) (by omega) hm1 s0 s1
  refine ⟨⟨by decide, by decide⟩, fun p1 hp1 => ?_⟩
  refine ix_ref aupd_same hat ?_
  have hK13 := (hK1.trans hK2).trans hK3
  refine i_law_made_things (by omega) (hD3.new hp1) (by omega) fun l ts came G4 ho htl hgl hlf hD4 hK4 => ?_
  have hK14 := (hK13.new hp1).trans hK4
  have hl0 : G l = none := (hK13.new hp1).free hlf (by simp [ho.ne.1, ho.ne.2.2])
  walk_at "la"
  intro q0 hq0
  have hq00 : G q0 = none := hK14.freeD hD4 hq0
  have hne : l ≠ q0 := ho.diff hq0
  refine for_rng many (fun i S G' => (∃ l1, S = [some (.ref d), some (kindV k), some (.int (many : Int)), some (.int turn), some (.int y), some (.int (few : Int)), some (.ref l), some (.int came), some (.ref q0), l1]) ∧ Dr d c r (b + 203 + 3 * i) G' ∧ Keep [d, r] G G' ∧
    ∃ (us : List Th) (cs : List Cell), Own d c r l (us.map thV) G' ∧ Own d c r q0 (cs.map cellV) G' ∧ cs.length = i ∧ (things cs ++ us).Perm ts ∧ us.length ≤ 40 ∧ fitB k (us.length + i) many) (fun R q => ?_) (by omega)
    ⟨⟨none, rfl⟩, (hD4.new hq0).mono (by omega), hK14.new hq0, ts, [], ho.old hq0, Own.new hD4 hq0, rfl, .refl _, by omega, fun _ => by omega⟩ (fun i S G5 hi h => ?_) (fun S G5 h => ?_)
  · walk_at "la"; exact q
  · obtain ⟨⟨l1, rfl⟩, hD5, hK5, us, cs, h1, h2, h3, h4, h5, h6⟩ := h
    -- what is appended
    have fin : ∀ (e : Cell) (us' : List Th) G6, Own d c r l (us'.map thV) G6 → (things [e] ++ us').Perm us → Dr d c r (b + 203 + 3 * i + 3) G6 → Keep [d, r, l] G5 G6 → fitB k (us'.length + (i + 1)) many →
        mAppend (.ref q0) [cellV e] G6 fun _ G' => (∃ l1, [some (.ref d), some (kindV k), some (.int (many : Int)), some (.int turn), some (.int y), some (.int (few : Int)), some (.ref l), some (.int came), some (.ref q0), some (.int (i : Int))] = [some (.ref d), some (kindV k), some (.int (many : Int)), some (.int turn), some (.int y), some (.int (few : Int)), some (.ref l), some (.int came), some (.ref q0), l1]) ∧ Dr d c r (b + 203 + 3 * (i + 1 : Nat)) G' ∧ Keep [d, r] G G' ∧
    ∃ (us : List Th) (cs : List Cell), Own d c r l (us.map thV) G' ∧ Own d c r q0 (cs.map cellV) G' ∧ cs.length = i + 1 ∧ (things cs ++ us).Perm ts ∧ us.length ≤ 40 ∧ fitB k (us.length + (i + 1)) many := by
      intro e us' G6 x1 x2 x3 x4 x5
      have h2' := h2.keepL x4 hne.symm
      have hul : us'.length ≤ us.length := by
        have := x2.length_eq
        rw [List.length_append] at this
        omega
      refine m_append h2'.at_ (by rw [List.length_map]; omega) ⟨⟨_, rfl⟩, (h2'.dr x3).mono (by omega), ?_, us', cs ++ [e], x1.oth hne, ?_, by simp [h3], ?_, by omega, x5⟩
      · intro a xs ha hg
        have h7 : a ≠ l := fun z => by rw [z, hl0] at hg; cases hg
        have h8 : a ≠ q0 := fun z => by rw [z, hq00] at hg; cases hg
        refine aoth (x4 a xs ?_ (hK5 a xs ha hg)) h8
        simp at ha ⊢
        exact ⟨ha.1, ha.2, h7⟩
      · rw [List.map_append]
        exact h2'.set
      · rw [things_append, List.append_assoc]
        exact (x2.append_left (things cs)).trans h4
    have hul : us.length ≤ 900 := by omega
    cases k with
    | true =>
      walk_at "la"
      refine ⟨⟨_, h2.at_⟩, ?_⟩
      refine i_law_made_one hD5 (by omega) h1 h2 hne hul (by omega) hm2 fun e us' G6 x1 x2 x3 x4 => ?_
      walk_at "la"
      exact fin e us' G6 x1 x2 x3 x4 (fun z => by cases z)
    | false =>
      walk_at "la"
      refine ⟨⟨_, h2.at_⟩, ?_⟩
      refine i_law_made_two hD5 (by omega) h1 hi hm2 (h6 rfl) fun e us' G6 x1 x2 x3 x4 x5 => ?_
      walk_at "la"
      exact fin e us' G6 x1 x3 x4 x5 (fun _ => by omega)
  · obtain ⟨⟨l1, rfl⟩, hD5, hK5, us, cs, h1, h2, h3, h4, h5, h6⟩ := h
    walk_at "la"
    refine c_tuple h2.at_ ?_
    obtain ⟨g1, g2, g3⟩ := hgl
    refine drop_same (q ⟨k, turn, came, cs⟩ _ ⟨by simp only; omega, g2, by simp only; omega, fun t => ?_, fun t ht => ?_⟩ h3 (hD5.mono (by omega)) hK5)
    · have e1 := h4.count_eq t
      have e2 := g1 t
      rw [List.count_append] at e1
      simp only
      omega
    · exact g3 t (h4.subset (List.mem_append_left _ ht))
theorem i_law_made_stand {k : Bool} {many : Nat} {Q : AQ} (hD : Dr d c r b G) (hb : b ≤ 600000) (h1 : 1 ≤ many) (h2 : many ≤ 40) (q : ∀ (s : Stand) G', okS 995000 s → s.cells.length = many → Dr d c r (b + 400) G' → Keep [d, r] G G' → Q (standV s) G') : sp_law_made_stand [.ref d, kindV k, .int (many : Int)] G Q := ⟨d, c, r, b, k, many, rfl, hD, hb, h1, h2, q⟩
end LS
set_option Elab.async false
set_option linter.all false
set_option maxRecDepth 100000
set_option maxHeartbeats 4000000
namespace LS
open PySem PySem.Spec PyProof.Rows L2 LA
local macro_rules | `(tactic| walk_at "la") => `(tactic| try simp only [aSeq, aIfS, aTest, aOp, aVar, aC, aRet, aNext, aDropS, aAsg, aAnd, aOr, aNot, aAndV, aOrV, aNotV, aChain, aCons, aNil, aCall, aCB, aTup, aLst, aMt, mt_ref, aSl, oSl_pre, oSl_pre1, oSl_0, aPart, aNoP, agName, agC, agE, agT_tup, agT_cell, agT_ent, agT_stand, aEnds, astart,
  List.map_cons, List.map_nil, List.length_cons, List.length_nil, List.cons_append, List.nil_append, List.getElem?_cons_zero, List.getElem?_cons_succ, List.set_cons_zero, List.set_cons_succ, List.replicate_succ, List.replicate_zero, Nat.reduceAdd, Nat.reduceSub, Nat.reduceLeDiff, Nat.zero_le, somex, somexx, blx, intx, tupx,
  at0, at1, at2, at3, oEq_ii, oEq_bb, oNe_ii, oNe_bb, oEq_one, oEq_two, oIx_tup, oIx_cell, oIx_cells, oIx_th, oIx_stand, oIx_ent, oLt_ii, oLt_th, oLt_opt, oLe_ii, oGt_ii, oGe_ii, oAdd_ii, oSub_ii, oMod_ii, oFdiv_ii, oMul_ii, oPow_ii, pow15, pow6, agT_ref, agSub, subx, oEq_ss, oNe_ss, decide_true, Int.reduceLT, Int.reduceLE, isN_non, isN_opt, notN_opt, isN_th, notN_th, cLen_tup, cLen_cells, cLen_ths, cInt_bl,
  isI_int, isB_int, isB_bl, isT_tup, isT_non, isT_int, isS_int, ite_tt, ite_ff, ite_not, ite_dec, Bool.not_true, Bool.not_false, nat0, nat1, nat2, nat3, true_and, ↓reduceIte, Option.isNone_none, Option.isNone_some, Option.isSome_none, Option.isSome_some, List.isEmpty_nil])
variable {d c r : Addr} {b : Int} {G G' : AH}
/-- for x in xs: xs a list made there -/
theorem for_lstN {α : Type} (f : α → AV) (ys : List α) (I : Addr → List α → List α → ASt → AH → Prop) {aa : AT} {g : ATG} {sb : ATS} {D : AEnds} {S : ASt} {G : AH}
    (he : ∀ Q : AQ, (∀ p, G p = none → Q (.ref p) (aupd G p (ys.map f))) → aa S G Q) (hp : ∀ p d r S G', G p = none → I p d r S G' → G' p = some (ys.map f)) (h0 : ∀ p, G p = none → I p [] ys S (aupd G p (ys.map f)))
    (st : ∀ p d y r S G', G p = none → d ++ y :: r = ys → I p d (y :: r) S G' → g (f y) S G' fun S2 G2 => sb { D with nx := I p (d ++ [y]) r, ct := I p (d ++ [y]) r, bk := D.nx } S2 G2)
    (fin : ∀ p S G', G p = none → I p ys [] S G' → D.nx S G') : aFor (aiSeq aa) g sb D S G := by
  refine he _ fun p h => ?_
  refine ⟨ys.map f, aupd_same, fun i S G => I p (ys.take i) (ys.drop i) S G, ?_, fun _ _ _ _ x => hp p _ _ _ _ h x, fun i x S G hx hI => ?_, fun S G hI => ?_⟩
  · simpa using h0 p h
  · rw [List.getElem?_map] at hx
    cases e : ys[i]? with
    | none => rw [e] at hx; cases hx
    | some y =>
      rw [e] at hx
      cases hx
      have hi := (List.getElem?_eq_some_iff.mp e).1
      have hd : ys.drop i = y :: ys.drop (i + 1) := by rw [List.drop_eq_getElem_cons hi, (List.getElem?_eq_some_iff.mp e).2]
      have hI : I p (ys.take i) (ys.drop i) S G := hI
      rw [hd] at hI
      have := st p (ys.take i) y (ys.drop (i + 1)) S G h (by rw [← hd, List.take_append_drop]) hI
      rw [← take_snoc e] at this
      exact this
  · have hI : I p (ys.take (ys.map f).length) (ys.drop (ys.map f).length) S G := hI
    rw [List.length_map, List.take_length, List.drop_length] at hI
    exact fin p S G h hI
/-! ### places -/
abbrev fm (os : List (Option Th)) : List Th := os.filterMap id
theorem fm_cons (o : Option Th) (os : List (Option Th)) : fm (o :: os) = o.toList ++ fm os := by
  cases o <;> simp [fm]
theorem fm_set (t : Th) : ∀ (os : List (Option Th)) (i : Nat) (o o' : Option Th), os[i]? = some o → (fm (os.set i o')).count t + o.toList.count t = (fm os).count t + o'.toList.count t
  | [], _, _, _, h => by simp at h
  | x :: os, 0, o, o', h => by
    simp at h
    subst h
    rw [List.set_cons_zero, fm_cons, fm_cons, List.count_append, List.count_append]
    omega
  | x :: os, i + 1, o, o', h => by
    have := fm_set t os i o o' (by simpa using h)
    rw [List.set_cons_succ, fm_cons, fm_cons, List.count_append, List.count_append]
    omega
theorem perm_of_count {l m : List Th} (h : ∀ t, l.count t = m.count t) : l.Perm m := List.perm_iff_count.mpr h
theorem none_in (os : List (Option Th)) (h : (fm os).length < os.length) : ∃ i : Nat, os[i]? = some none := by
  induction os with
  | nil => simp at h
  | cons o os ih =>
    cases o with
    | none => exact ⟨0, rfl⟩
    | some t =>
      obtain ⟨i, hi⟩ := ih (by simp [fm] at h ⊢; omega)
      exact ⟨i + 1, by simpa using hi⟩
theorem isN_iff (o : Option Th) : isNon (optV o) = o.isNone := by cases o <;> rfl
theorem len_law_strewn : ∀ xs G Q, sp_law_strewn xs G Q → xs.length = 3 := fun _ _ _ ⟨_, _, _, _, _, _, e, _⟩ => by rw [e]; rfl
theorem r_law_strewn : ∀ xs G Q, sp_law_strewn xs G Q → a_law_strewn (aEnds Q) (astart 10 xs) G := by
  rintro xs G Q ⟨d, c, r, b, k, many, rfl, hD, hb, hm1, hm2, q⟩
  unfold a_law_strewn
  walk_at "la"
  refine i_law_next hD (by omega) fun w1 G1 _ _ hD1 hK1 => ?_
  walk_at "la"
  refine i_law_next hD1 (by omega) fun w2 G2 _ _ hD2 hK2 => ?_
  have t0 := Int.emod_nonneg w1 (show (2 : Int) ≠ 0 by decide)
  have t1 := Int.emod_lt_of_pos w1 (show (0 : Int) < 2 by decide)
  obtain ⟨n, en, hn⟩ := mod_nat (i := w2) (n := many + 2) (by omega)
  walk_at "la"
  rw [show (many : Int) + 2 = ((many + 2 : Nat) : Int) from by omega, en]
  refine ⟨by omega, ?_⟩
  generalize hz : w1 % 2 = turn at t0 t1
  refine i_law_made_things (by omega) hD2 (by omega) fun tl ts came G3 ho htl hgl htf hD3 hK3 => ?_
  have hK13 := (hK1.trans hK2).trans hK3
  obtain ⟨g1, g2, g3⟩ := hgl
  walk_at "la"
  intro p1 hp1
  refine ⟨.inl ⟨by decide, by decide⟩, ?_⟩
  rw [show (2 : Int) * (many : Int) = ((2 * many : Nat) : Int) from by omega]
  refine o_mul_ref aupd_same (by simp; omega) (by omega) fun pl hpl => ?_
  rw [rep_non]
  have hD4 := (hD3.new (xs := [.non]) hp1)
  have hK4 := hK13.new (xs := [.non]) hp1
  have hD5 := hD4.new (xs := (List.replicate (2 * many) (none : Option Th)).map optV) hpl
  have hK5 := hK4.new (xs := (List.replicate (2 * many) (none : Option Th)).map optV) hpl
  have hO5 := Own.new (xs := (List.replicate (2 * many) (none : Option Th)).map optV) hD4 hpl
  have ho5 := (ho.old (ys := [.non]) hp1).old (ys := (List.replicate (2 * many) (none : Option Th)).map optV) hpl
  have hpl0 := hK4.freeD hD4 hpl
  generalize aupd (aupd G3 p1 [.non]) pl ((List.replicate (2 * many) (none : Option Th)).map optV) = G5 at hD5 hK5 hO5 ho5
  refine for_lstN thV (ts.take (2 * many)) (fun p d' r' S G' => (∃ l1 l2, S = [some (.ref d), some (kindV k), some (.int (many : Int)), some (.int turn), some (.ref tl), some (.int came), some (.ref pl), l1, none, l2]) ∧ Dr d c r (b + 202 + d'.length) G' ∧ Keep [d, r] G G' ∧ Own d c r p ((ts.take (2 * many)).map thV) G' ∧
    ∃ os : List (Option Th), Own d c r pl (os.map optV) G' ∧ os.length = 2 * many ∧ (fm os).Perm d') (fun R hR => ?_) (fun p d' r' S G' hp h => h.2.2.2.1.at_) (fun p hp => ?_) (fun p d' y r' S G6 hp e h => ?_) (fun p S G6 hp h => ?_)
  · walk_at "la"
    have hR2 : ∀ p, G5 p = none → R (.ref p) (aupd G5 p (acut (ts.map thV) none (some ((2 * many : Nat) : Int)))) := fun p hp => by
      rw [acut_head, ← List.map_take]
      exact hR p hp
    refine ⟨.inl ⟨by decide, by decide⟩, ?_⟩
    rw [show (2 : Int) * (many : Int) = ((2 * many : Nat) : Int) from by omega]
    exact ⟨_, ho5.at_, hR2⟩
  · exact ⟨⟨none, none, rfl⟩, (hD5.new hp).mono (by simp; omega), hK5.new hp, Own.new hD5 hp, List.replicate (2 * many) none, hO5.old hp, by simp, by rw [show fm (List.replicate (2 * many) (none : Option Th)) = [] from fm_none _]⟩
  · obtain ⟨⟨l1, l2, rfl⟩, hD6, hK6, hP6, os, hO6, hol, hof⟩ := h
    have hp0 : G p = none := hK5.freeD hD5 hp
    have hdl : d'.length < 2 * many := by
      have h1 := congrArg List.length e
      have h2 := List.length_take_le (2 * many) ts
      simp at h1 h2
      omega
    have hpp : pl ≠ p := hO5.diff hp
    obtain ⟨z, hz⟩ := none_in os (by rw [hof.length_eq]; omega)
    walk_at "la"
    refine lc_rng (2 * many) (by omega) (fun i => (os[i]?.getD none).isNone) (fun i => .int (i : Int)) (fun R q => ?_) (fun i hi G7 R hS hR => ?_) (fun i hi hk G7 R hS hR => ?_) (fun pf hpf => ?_)
    · walk_at "la"
      refine ⟨.inl ⟨by decide, by decide⟩, ?_⟩
      rw [show (2 : Int) * (many : Int) = ((2 * many : Nat) : Int) from by omega]
      exact q
    · have hoi : os[i]? = some os[i] := List.getElem?_eq_getElem (by omega)
      walk_at "la"
      refine ix_ref (hS _ _ hO6.at_) (atI_nat (by rw [List.getElem?_map, hoi]; rfl)) ?_
      walk_at "la"
      rw [hoi] at hR
      exact hR
    · walk_at "la"
      exact hR
    · have hD7 := hD6.new (xs := ((List.range (2 * many)).filter fun i => (os[i]?.getD none).isNone).map fun (i : Nat) => AV.int (i : Int)) hpf
      have hK7 := hK6.new (xs := ((List.range (2 * many)).filter fun i => (os[i]?.getD none).isNone).map fun (i : Nat) => AV.int (i : Int)) hpf
      have hP7 := hP6.old (ys := ((List.range (2 * many)).filter fun i => (os[i]?.getD none).isNone).map fun (i : Nat) => AV.int (i : Int)) hpf
      have hO7 := hO6.old (ys := ((List.range (2 * many)).filter fun i => (os[i]?.getD none).isNone).map fun (i : Nat) => AV.int (i : Int)) hpf
      have hF7 := Own.new (xs := ((List.range (2 * many)).filter fun i => (os[i]?.getD none).isNone).map fun (i : Nat) => AV.int (i : Int)) hD6 hpf
      generalize hfr : ((List.range (2 * many)).filter fun i => (os[i]?.getD none).isNone) = fr at hD7 hK7 hP7 hO7 hF7
      generalize aupd G6 pf (fr.map fun (i : Nat) => AV.int (i : Int)) = G7 at hD7 hK7 hP7 hO7 hF7
      have hzl : z < os.length := (List.getElem?_eq_some_iff.mp hz).1
      have hzm : z ∈ fr := by
        rw [← hfr, List.mem_filter]
        exact ⟨List.mem_range.mpr (by omega), by rw [hz]; rfl⟩
      have hfl : 0 < fr.length := List.length_pos_of_mem hzm
      walk_at "la"
      refine i_law_next hD7 (by omega) fun x G8 _ _ hD8 hK8 => ?_
      have hF8 := hF7.keep hK8
      have hO8 := hO7.keep hK8
      have hP8 := hP7.keep hK8
      refine c_len hF8.at_ ?_
      rw [List.length_map]
      obtain ⟨j, ej, hj⟩ := mod_nat (i := x) hfl
      walk_at "la"
      rw [ej]
      have hfj : fr[j]? = some fr[j] := List.getElem?_eq_getElem hj
      refine ⟨by omega, ix_ref hF8.at_ (v := .int (fr[j] : Int)) (atI_nat (by rw [List.getElem?_map, hfj]; rfl)) ?_⟩
      have hfm : fr[j] ∈ fr := List.getElem_mem hj
      generalize fr[j] = a at hfm
      rw [← hfr, List.mem_filter] at hfm
      obtain ⟨ha, hn⟩ := hfm
      have ha := List.mem_range.mp ha
      have hoa : os[a]? = some none := by
        have h1 : os[a]? = some os[a] := List.getElem?_eq_getElem (by omega)
        rw [h1] at hn ⊢
        cases h2 : os[a] with
        | none => rfl
        | some t => rw [h2] at hn; simp at hn
      refine ⟨pl, (a : Int), _, a, rfl, rfl, hO8.at_, ixN_nat (by rw [List.length_map]; omega), ⟨_, _, rfl⟩, (hO8.dr hD8).mono (by rw [List.length_append]; simp; omega), (hK7.trans hK8).own (.inr hpl0), hP8.oth hpp.symm, os.set a (some y), ?_, by simp [hol], ?_⟩
      · rw [List.map_set]
        exact hO8.set
      · refine perm_of_count fun t => ?_
        have h1 := fm_set t os a none (some y) hoa
        have h2 := hof.count_eq t
        rw [List.count_append]
        simp at h1 ⊢
        omega
  · obtain ⟨⟨l1, l2, rfl⟩, hD6, hK6, hP6, os, hO6, hol, hof⟩ := h
    obtain ⟨cs, ec, hcl⟩ := flat_of many os hol
    have hlt : (ts.take (2 * many)).length ≤ 41 := by
      have := List.length_take_le' (2 * many) ts
      omega
    walk_at "la"
    refine i_law_laid (cs := cs) (by omega) (by rw [← ec]; exact hO6.at_) ?_
    have hth : things cs = fm os := by rw [ec]; exact (flat_things cs).symm
    have hsub : ∀ t, (ts.take (2 * many)).count t ≤ ts.count t := fun t => (List.take_sublist _ _).count_le t
    refine drop_same (q ⟨k, turn, came, cs⟩ _ ⟨by simp only; omega, g2, by simp only; omega, fun t => ?_, fun t ht => ?_⟩ hcl (hD6.mono (by omega)) hK6)
    · simp only
      rw [hth, hof.count_eq]
      exact Nat.le_trans (hsub t) (g1 t)
    · simp only at ht
      rw [hth] at ht
      exact g3 t (List.mem_of_mem_take (hof.subset ht))
theorem i_law_strewn {k : Bool} {many : Nat} {Q : AQ} (hD : Dr d c r b G) (hb : b ≤ 600000) (h1 : 1 ≤ many) (h2 : many ≤ 40) (q : ∀ (s : Stand) G', okS 995000 s → s.cells.length = many → Dr d c r (b + 300) G' → Keep [d, r] G G' → Q (standV s) G') : sp_law_strewn [.ref d, kindV k, .int (many : Int)] G Q := ⟨d, c, r, b, k, many, rfl, hD, hb, h1, h2, q⟩
end LS
set_option Elab.async false
set_option linter.all false
set_option maxRecDepth 100000
set_option maxHeartbeats 4000000
namespace LS
open PySem PySem.Spec PyProof.Rows L2 LA
local macro_rules | `(tactic| walk_at "la") => `(tactic| try simp only [aSeq, aIfS, aTest, aOp, aVar, aC, aRet, aNext, aDropS, aAsg, aAnd, aOr, aNot, aAndV, aOrV, aNotV, aChain, aCons, aNil, aCall, aCB, aTup, aLst, aMt, mt_ref, aSl, oSl_pre, oSl_pre1, oSl_0, aPart, aNoP, agName, agC, agE, agT_tup, agT_cell, agT_ent, agT_stand, aEnds, astart,
  List.map_cons, List.map_nil, List.length_cons, List.length_nil, List.cons_append, List.nil_append, List.getElem?_cons_zero, List.getElem?_cons_succ, List.set_cons_zero, List.set_cons_succ, List.replicate_succ, List.replicate_zero, Nat.reduceAdd, Nat.reduceSub, Nat.reduceLeDiff, Nat.zero_le, somex, somexx, blx, intx, tupx,
  at0, at1, at2, at3, oEq_ii, oEq_bb, oNe_ii, oNe_bb, oEq_one, oEq_two, oIx_tup, oIx_cell, oIx_cells, oIx_th, oIx_stand, oIx_ent, oLt_ii, oLt_th, oLt_opt, oLe_ii, oGt_ii, oGe_ii, oAdd_ii, oSub_ii, oMod_ii, oFdiv_ii, oMul_ii, oPow_ii, pow15, pow6, agT_ref, agSub, subx, oEq_ss, oNe_ss, decide_true, Int.reduceLT, Int.reduceEq, Int.reduceSub, cInt_bl, Bool.false_eq_true, decide_false, Int.add_zero, Int.reduceLE, isN_non, isN_opt, notN_opt, isN_th, notN_th, cLen_tup, cLen_cells, cLen_ths, cInt_bl,
  isI_int, isB_int, isB_bl, isT_tup, isT_non, isT_int, isS_int, ite_tt, ite_ff, ite_not, ite_dec, Bool.not_true, Bool.not_false, nat0, nat1, nat2, nat3, true_and, ↓reduceIte, Option.isNone_none, Option.isNone_some, Option.isSome_none, Option.isSome_some, List.isEmpty_nil])
variable {d c r : Addr} {b : Int} {G G' : AH}
def a_bent_end : ATS :=
  (aSeq (aIfS (aTest (aOp oEq (aVar 6) (aC (.int 0)))) (aRet (aTup (aCons (aVar 2) (aCons (aOp oSub (aC (.int 1)) (aVar 3)) (aCons (aVar 4) (aCons (aVar 5) aNil)))))) aNext)
  (aSeq (aIfS (aTest (aOp oEq (aVar 6) (aC (.int 1)))) (aRet (aTup (aCons (aOp oIx (aLst (aCons (aC (.str "one")) (aCons (aC (.str "two")) aNil))) (aCB cInt (aCons (aOp oEq (aVar 2) (aC (.str "one"))) aNil))) (aCons (aVar 3) (aCons (aVar 4) (aCons (aVar 5) aNil)))))) aNext)
  (aSeq (aIfS (aTest (aOp oEq (aVar 6) (aC (.int 2)))) (aAsg (aC .non) (agSub (aVar 7) (aVar 9))) aNext)
  (aSeq (aIfS (aAnd (aTest (aOp oGt (aVar 6) (aC (.int 2)))) (aTest (aOp oLt (aVar 6) (aC (.int 6))))) (aSeq (aAsg (aOp oIx (aLst (aCons (aOp oSub (aOp oAdd (aOp oMulA (aOp oFdiv (aVar 9) (aC (.int 2))) (aC (.int 2))) (aC (.int 1))) (aOp oMod (aVar 9) (aC (.int 2)))) (aCons (aVar 10) (aCons (aOp oMod (aOp oAdd (aVar 9) (aC (.int 2))) (aCB cLen (aCons (aVar 7) aNil))) aNil)))) (aOp oSub (aVar 6) (aC (.int 3)))) (agName 10))
  (aAsg (aTup (aCons (aOp oIx (aVar 7) (aVar 10)) (aCons (aOp oIx (aVar 7) (aVar 9)) aNil))) (agTup 2 (agCons (agSub (aVar 7) (aVar 9)) (agCons (agSub (aVar 7) (aVar 10)) agNil))))) aNext)
  (aSeq (aIfS (aTest (aOp oGt (aVar 6) (aC (.int 5)))) (aAsg (aTup (aCons (aCall sp_law_number (aCons (aVar 0) (aCons (aCall sp_law_next (aCons (aVar 0) aNil)) aNil))) (aCons (aVar 4) aNil))) (agSub (aVar 7) (aVar 9))) aNext)
  (aRet (aCall sp_law_laid (aCons (aVar 2) (aCons (aVar 3) (aCons (aOp oAdd (aVar 4) (aCB cInt (aCons (aOp oGt (aVar 6) (aC (.int 5))) aNil))) (aCons (aVar 7) aNil)))))))))))
theorem a_bent_eq : a_law_bent =
  (aSeq (aAsg (aVar 1) (agTup 4 (agCons (agName 2) (agCons (agName 3) (agCons (agName 4) (agCons (agName 5) agNil))))))
  (aSeq (aAsg (aOp oMod (aCall sp_law_next (aCons (aVar 0) aNil)) (aC (.int 8))) (agName 6))
  (aSeq (aAsg (aLst aNil) (agName 7))
  (aSeq (aFor (aiSeq (aVar 5)) (agName 8) (aAsg (aOp oAdd (aVar 7) (aCB cList (aCons (aVar 8) aNil))) (agName 7)))
  (aSeq (aAsg (aOp oMod (aCall sp_law_next (aCons (aVar 0) aNil)) (aCB cLen (aCons (aVar 7) aNil))) (agName 9))
  (aSeq (aAsg (aOp oMod (aCall sp_law_next (aCons (aVar 0) aNil)) (aCB cLen (aCons (aVar 7) aNil))) (agName 10))
  a_bent_end)))))) := rfl
theorem optV_get {os : List (Option Th)} {j : Nat} {o : Option Th} (h : os[j]? = some o) : atI (os.map optV) (j : Int) = some (optV o) := atI_nat (by rw [List.getElem?_map, h]; rfl)
theorem bent_end {Q : AQ} {s : Stand} {B : Int} {p : Addr} {l : Option AV} {w : Int} {j1 j2 : Nat} {G0 : AH} (ok : okS B s) (hb : b ≤ 700000) (hD : Dr d c r b G) (hK : Keep [d, r] G0 G) (ho : Own d c r p ((flat s.cells).map optV) G) (hp0 : G0 p = none)
    (h1 : j1 < 2 * s.cells.length) (h2 : j2 < 2 * s.cells.length) (w0 : 0 ≤ w) (w8 : w < 8)
    (q : ∀ (s' : Stand) G', okS (B + 1) s' → s'.cells.length = s.cells.length → Dr d c r (b + 3) G' → Keep [d, r] G0 G' → Q (standV s') G') :
    a_bent_end (aEnds Q) [some (.ref d), some (standV s), some (kindV s.one), some (.int s.turn), some (.int s.came), some (cellsV s.cells), some (.int w), some (.ref p), l, some (.int (j1 : Int)), some (.int (j2 : Int))] G := by
  have hfl := flat_len s.cells
  have hfew := ok.few
  have hturn := ok.turn
  have hL : ((flat s.cells).map optV).length = 2 * s.cells.length := by rw [List.length_map, hfl]
  have g1 : (flat s.cells)[j1]? = some (flat s.cells)[j1] := List.getElem?_eq_getElem (by omega)
  have hth : fm (flat s.cells) = things s.cells := flat_things s.cells
  -- the end
  have lay : ∀ (os : List (Option Th)) (came' : Int) (hand : Option Th) (G1 : AH) (b1 : Int), b1 ≤ b + 3 → Dr d c r b1 G1 → Keep [d, r] G0 G1 → Own d c r p (os.map optV) G1 → os.length = 2 * s.cells.length → handOk s.came came' hand →
      (∀ t, (fm os).count t ≤ hand.toList.count t + (things s.cells).count t) → sp_law_laid [kindV s.one, .int s.turn, .int came', .ref p] G1 (aDrop Q) := by
    intro os came' hand G1 b1 hb1 x1 x2 x3 x4 x5 x6
    obtain ⟨cs, ec, hcl⟩ := flat_of _ os x4
    refine i_law_laid (cs := cs) (by omega) (by rw [← ec]; exact x3.at_) ?_
    refine drop_same (q _ _ (ok_next ok x5 ok.turn hcl fun t => ?_) hcl (x1.mono hb1) x2)
    have := x6 t
    rw [ec, show fm (flat cs) = things cs from flat_things cs] at this
    exact this
  have none_ok : handOk s.came s.came none := .inl ⟨rfl, rfl⟩
  -- an exchange
  have swap : ∀ (j : Nat) (G1 : AH), j < 2 * s.cells.length → Dr d c r b G1 → Keep [d, r] G0 G1 → Own d c r p ((flat s.cells).map optV) G1 →
      oIx (.ref p) (.int (j : Int)) G1 fun x G2 => oIx (.ref p) (.int (j1 : Int)) G2 fun y G3 => ∃ xs k, G3 p = some xs ∧ ixN xs.length (j1 : Int) = some k ∧ ∃ xs2 k2, (aupd G3 p (xs.set k x)) p = some xs2 ∧ ixN xs2.length (j : Int) = some k2 ∧
        sp_law_laid [kindV s.one, .int s.turn, .int s.came, .ref p] (aupd (aupd G3 p (xs.set k x)) p (xs2.set k2 y)) (aDrop Q) := by
    intro j G1 hj x1 x2 x3
    have gj : (flat s.cells)[j]? = some (flat s.cells)[j] := List.getElem?_eq_getElem (by omega)
    refine ix_ref x3.at_ (optV_get gj) ?_
    refine ix_ref x3.at_ (optV_get g1) ?_
    refine ⟨_, j1, x3.at_, ixN_nat (by omega), _, j, aupd_same, ixN_nat (by rw [List.length_set]; omega), ?_⟩
    have hO1 : Own d c r p (((flat s.cells).set j1 (flat s.cells)[j]).map optV) (aupd G1 p (((flat s.cells).map optV).set j1 (optV (flat s.cells)[j]))) := by
      rw [List.map_set]
      exact x3.set
    have hD1 := x3.dr (ys := ((flat s.cells).map optV).set j1 (optV (flat s.cells)[j])) x1
    have hO2 : Own d c r p ((((flat s.cells).set j1 (flat s.cells)[j]).set j (flat s.cells)[j1]).map optV) (aupd (aupd G1 p (((flat s.cells).map optV).set j1 (optV (flat s.cells)[j]))) p ((((flat s.cells).map optV).set j1 (optV (flat s.cells)[j])).set j (optV (flat s.cells)[j1]))) := by
      rw [List.map_set, List.map_set]
      exact hO1.set
    refine lay _ s.came none _ b (by omega) (hO1.dr hD1) ((x2.own (.inr hp0)).own (.inr hp0)) hO2 (by simp [hfl]) none_ok fun t => ?_
    have c1 := fm_set t (flat s.cells) j1 _ (flat s.cells)[j] g1
    have hj' : ((flat s.cells).set j1 (flat s.cells)[j])[j]? = some (flat s.cells)[j] := by
      by_cases z : j1 = j
      · subst z
        rw [List.getElem?_set_self (by omega)]
      · rw [List.getElem?_set_ne z]
        exact gj
    have c2 := fm_set t _ j _ (flat s.cells)[j1] hj'
    rw [hth] at c1
    simp
    omega
  unfold a_bent_end
  have : w = 0 ∨ w = 1 ∨ w = 2 ∨ w = 3 ∨ w = 4 ∨ w = 5 ∨ w = 6 ∨ w = 7 := by omega
  rcases this with rfl | rfl | rfl | rfl | rfl | rfl | rfl | rfl
  · walk_at "la"
    exact drop_same (q ⟨s.one, 1 - s.turn, s.came, s.cells⟩ _ (ok_next ok none_ok (by omega) rfl fun t => by simp) rfl (hD.mono (by omega)) hK)
  · walk_at "la"
    intro p1 hp1
    refine ix_ref aupd_same (v := kindV (!s.one)) ?_ ?_
    · cases s.one
      · exact at0
      · exact at1
    · exact drop_same (q ⟨!s.one, s.turn, s.came, s.cells⟩ _ (ok_next ok none_ok ok.turn rfl fun t => by simp) rfl ((hD.new hp1).mono (by omega)) (hK.new hp1))
  · walk_at "la"
    refine ⟨_, j1, ho.at_, ixN_nat (by omega), ?_⟩
    have hO1 : Own d c r p (((flat s.cells).set j1 none).map optV) (aupd G p (((flat s.cells).map optV).set j1 .non)) := by
      rw [List.map_set]
      exact ho.set
    refine lay _ _ none _ b (by omega) (ho.dr hD) (hK.own (.inr hp0)) hO1 (by simp [hfl]) none_ok fun t => ?_
    have c1 := fm_set t (flat s.cells) j1 _ none g1
    rw [hth] at c1
    simp at c1 ⊢
    omega
  · walk_at "la"
    refine ⟨⟨by decide, by decide⟩, .inr ⟨by decide, by decide⟩, ?_⟩
    refine c_len ho.at_ ?_
    rw [hL]
    walk_at "la"
    refine ⟨by omega, fun p1 hp1 => ?_⟩
    refine ix_ref aupd_same at0 ?_
    obtain ⟨j, ej, hj⟩ : ∃ j : Nat, (j1 : Int) / 2 * 2 + 1 - (j1 : Int) % 2 = (j : Int) ∧ j < 2 * s.cells.length := ⟨((j1 : Int) / 2 * 2 + 1 - (j1 : Int) % 2).toNat, by omega, by omega⟩
    rw [ej]
    walk_at "la"
    exact swap _ _ hj (hD.new hp1) (hK.new hp1) (ho.old hp1)
  · walk_at "la"
    refine ⟨⟨by decide, by decide⟩, .inr ⟨by decide, by decide⟩, ?_⟩
    refine c_len ho.at_ ?_
    rw [hL]
    walk_at "la"
    refine ⟨by omega, fun p1 hp1 => ?_⟩
    refine ix_ref aupd_same at1 ?_
    have hj := h2
    walk_at "la"
    exact swap _ _ hj (hD.new hp1) (hK.new hp1) (ho.old hp1)
  · walk_at "la"
    refine ⟨⟨by decide, by decide⟩, .inr ⟨by decide, by decide⟩, ?_⟩
    refine c_len ho.at_ ?_
    rw [hL]
    walk_at "la"
    refine ⟨by omega, fun p1 hp1 => ?_⟩
    refine ix_ref aupd_same at2 ?_
    rw [show (j1 : Int) + 2 = ((j1 + 2 : Nat) : Int) from by omega]
    obtain ⟨j, ej, hj⟩ := mod_nat (i := ((j1 + 2 : Nat) : Int)) (n := 2 * s.cells.length) (by omega)
    rw [ej]
    walk_at "la"
    exact swap _ _ hj (hD.new hp1) (hK.new hp1) (ho.old hp1)
  · walk_at "la"
    refine i_law_next hD (by omega) fun w1 G1 _ _ hD1 hK1 => ?_
    refine i_law_number hD1 (by omega) fun m G2 m0 m1 hD2 hK2 => ?_
    have ho2 := (ho.keep hK1).keep hK2
    walk_at "la"
    refine ⟨_, j1, ho2.at_, ixN_nat (by omega), ?_⟩
    have hO1 : Own d c r p (((flat s.cells).set j1 (some (m, s.came))).map optV) (aupd G2 p (((flat s.cells).map optV).set j1 (.tup [.int m, .int s.came]))) := by
      rw [List.map_set]
      exact ho2.set
    refine lay _ (s.came + 1) (some (m, s.came)) _ (b + 1 + 2) (by omega) (ho2.dr hD2) (((hK.trans hK1).trans hK2).own (.inr hp0)) hO1 (by simp [hfl]) (.inr ⟨m, rfl, ⟨m0, m1⟩, rfl⟩) fun t => ?_
    have c1 := fm_set t (flat s.cells) j1 _ (some (m, s.came)) g1
    rw [hth] at c1
    omega
  · walk_at "la"
    refine i_law_next hD (by omega) fun w1 G1 _ _ hD1 hK1 => ?_
    refine i_law_number hD1 (by omega) fun m G2 m0 m1 hD2 hK2 => ?_
    have ho2 := (ho.keep hK1).keep hK2
    walk_at "la"
    refine ⟨_, j1, ho2.at_, ixN_nat (by omega), ?_⟩
    have hO1 : Own d c r p (((flat s.cells).set j1 (some (m, s.came))).map optV) (aupd G2 p (((flat s.cells).map optV).set j1 (.tup [.int m, .int s.came]))) := by
      rw [List.map_set]
      exact ho2.set
    refine lay _ (s.came + 1) (some (m, s.came)) _ (b + 1 + 2) (by omega) (ho2.dr hD2) (((hK.trans hK1).trans hK2).own (.inr hp0)) hO1 (by simp [hfl]) (.inr ⟨m, rfl, ⟨m0, m1⟩, rfl⟩) fun t => ?_
    have c1 := fm_set t (flat s.cells) j1 _ (some (m, s.came)) g1
    rw [hth] at c1
    omega
theorem len_law_bent : ∀ xs G Q, sp_law_bent xs G Q → xs.length = 2 := fun _ _ _ ⟨_, _, _, _, _, _, e, _⟩ => by rw [e]; rfl
theorem flat_append (a b : List Cell) : flat (a ++ b) = flat a ++ flat b := by
  unfold flat
  rw [List.map_append, List.flatten_append]
theorem r_law_bent : ∀ xs G Q, sp_law_bent xs G Q → a_law_bent (aEnds Q) (astart 11 xs) G := by
  rintro xs G Q ⟨d, c, r, b, B, s, rfl, hD, hb, ok, q⟩
  have hfew := ok.few
  rw [a_bent_eq]
  walk_at "la"
  refine i_law_next hD (by omega) fun w1 G1 _ _ hD1 hK1 => ?_
  have w0 := Int.emod_nonneg w1 (show (8 : Int) ≠ 0 by decide)
  have w8 := Int.emod_lt_of_pos w1 (show (0 : Int) < 8 by decide)
  walk_at "la"
  intro p1 hp1
  refine for_tup cellV s.cells (fun d' r' S G' => (∃ p l, S = [some (.ref d), some (standV s), some (kindV s.one), some (.int s.turn), some (.int s.came), some (cellsV s.cells), some (.int (w1 % 8)), some (.ref p), l, none, none] ∧ Own d c r p ((flat d').map optV) G' ∧ G p = none) ∧ Dr d c r (b + 1) G' ∧ Keep [d, r] G G')
    (fun R q => ?_) ⟨⟨p1, none, rfl, Own.new hD1 hp1, hK1.freeD hD1 hp1⟩, hD1.new hp1, hK1.new hp1⟩ (fun d' y r' S G2 e h => ?_) (fun S G2 h => ?_)
  · walk_at "la"; exact q
  · obtain ⟨⟨p, l, rfl, h1, h2⟩, hD2, hK2⟩ := h
    have hdl : d'.length + 1 ≤ s.cells.length := by rw [← e]; simp
    have hfl := flat_len d'
    walk_at "la"
    rw [cList_cell]
    intro r2 hr2
    refine o_add_ref (aold h1.at_ hr2) aupd_same (by rw [List.length_map, hfl]; simp; omega) fun r3 hr3 => ?_
    have hD3 := hD2.new (xs := [optV y.1, optV y.2]) hr2
    have hK3 := hK2.new (xs := [optV y.1, optV y.2]) hr2
    refine ⟨⟨r3, _, rfl, ?_, hK3.freeD hD3 hr3⟩, hD3.new hr3, hK3.new hr3⟩
    rw [flat_append, List.map_append]
    exact Own.new hD3 hr3
  · obtain ⟨⟨p, l, rfl, h1, h2⟩, hD2, hK2⟩ := h
    have hfl := flat_len s.cells
    walk_at "la"
    refine i_law_next hD2 (by omega) fun x1 G3 _ _ hD3 hK3 => ?_
    have h13 := h1.keep hK3
    refine c_len h13.at_ ?_
    rw [List.length_map, hfl]
    obtain ⟨j1, e1, hj1⟩ := mod_nat (i := x1) (n := 2 * s.cells.length) (by omega)
    walk_at "la"
    rw [e1]
    refine ⟨by omega, ?_⟩
    refine i_law_next hD3 (by omega) fun x2 G4 _ _ hD4 hK4 => ?_
    have h14 := h13.keep hK4
    refine c_len h14.at_ ?_
    rw [List.length_map, hfl]
    obtain ⟨j2, e2, hj2⟩ := mod_nat (i := x2) (n := 2 * s.cells.length) (by omega)
    walk_at "la"
    rw [e2]
    refine ⟨by omega, ?_⟩
    exact bent_end ok (by omega) hD4 ((hK2.trans hK3).trans hK4) h14 h2 hj1 hj2 w0 w8 fun s' G' x1 x2 x3 x4 => q s' G' x1 x2 (x3.mono (by omega)) x4
theorem i_law_bent {s : Stand} {B : Int} {Q : AQ} (hD : Dr d c r b G) (hb : b ≤ 600000) (ok : okS B s) (q : ∀ (s' : Stand) G', okS (B + 1) s' → s'.cells.length = s.cells.length → Dr d c r (b + 6) G' → Keep [d, r] G G' → Q (standV s') G') : sp_law_bent [.ref d, standV s] G Q := ⟨d, c, r, b, B, s, rfl, hD, hb, ok, q⟩
end LS
set_option Elab.async false
set_option linter.all false
set_option maxRecDepth 100000
set_option maxHeartbeats 4000000
namespace LS
open PySem PySem.Spec PyProof.Rows L2 LA
local macro_rules | `(tactic| walk_at "la") => `(tactic| try simp only [aSeq, aIfS, aTest, aOp, aVar, aC, aRet, aNext, aDropS, aAsg, aAnd, aOr, aNot, aAndV, aOrV, aNotV, aChain, aCons, aNil, aCall, aCB, aTup, aLst, aMt, mt_ref, aSl, oSl_pre, oSl_pre1, oSl_0, aPart, aNoP, agName, agC, agE, agT_tup, agT_cell, agT_ent, agT_stand, aEnds, astart,
  List.map_cons, List.map_nil, List.length_cons, List.length_nil, List.cons_append, List.nil_append, List.getElem?_cons_zero, List.getElem?_cons_succ, List.set_cons_zero, List.set_cons_succ, List.replicate_succ, List.replicate_zero, Nat.reduceAdd, Nat.reduceSub, Nat.reduceLeDiff, Nat.zero_le, somex, somexx, blx, intx, tupx,
  at0, at1, at2, at3, oEq_ii, oEq_bb, oNe_ii, oNe_bb, oEq_one, oEq_two, oIx_tup, oIx_cell, oIx_cells, oIx_th, oIx_stand, oIx_ent, oLt_ii, oLt_th, oLt_opt, oLe_ii, oGt_ii, oGe_ii, oAdd_ii, oSub_ii, oMod_ii, oFdiv_ii, oMul_ii, oPow_ii, pow15, pow6, agT_ref, agSub, subx, oEq_ss, oNe_ss, decide_true, Int.reduceLT, Int.reduceLE, isN_non, isN_opt, notN_opt, isN_th, notN_th, cLen_tup, cLen_cells, cLen_ths, cInt_bl,
  isI_int, isB_int, isB_bl, isT_tup, isT_non, isT_int, isS_int, ite_tt, ite_ff, ite_not, ite_dec, Bool.not_true, Bool.not_false, nat0, nat1, nat2, nat3, true_and, ↓reduceIte, Option.isNone_none, Option.isNone_some, Option.isSome_none, Option.isSome_some, List.isEmpty_nil])
variable {d c r : Addr} {b : Int} {G G' : AH}
theorem kind_at {y : Int} (h0 : 0 ≤ y) (h2 : y < 2) : ∃ k : Bool, atI [AV.str "one", AV.str "two"] y = some (kindV k) := by
  have : y = 0 ∨ y = 1 := by omega
  rcases this with rfl | rfl
  · exact ⟨true, at0⟩
  · exact ⟨false, at1⟩
theorem size_at {y : Int} (h0 : 0 ≤ y) (h4 : y < 4) : ∃ n : Nat, 1 ≤ n ∧ n ≤ 40 ∧ atI [AV.int 3, AV.int 5, AV.int 8, AV.int 40] y = some (.int (n : Int)) := by
  have : y = 0 ∨ y = 1 ∨ y = 2 ∨ y = 3 := by omega
  rcases this with rfl | rfl | rfl | rfl
  · exact ⟨3, by omega, by omega, at0⟩
  · exact ⟨5, by omega, by omega, at1⟩
  · exact ⟨8, by omega, by omega, at2⟩
  · exact ⟨40, by omega, by omega, at3⟩
theorem pick_map {α : Type} {f : α → AV} {xs : List α} : ∀ {ys : List AV}, (∀ y ∈ ys, y ∈ xs.map f) → ∃ zs : List α, ys = zs.map f ∧ ∀ z ∈ zs, z ∈ xs
  | [], _ => ⟨[], rfl, fun z hz => by cases hz⟩
  | y :: ys, h => by
    obtain ⟨zs, e, hz⟩ := pick_map (ys := ys) fun y hy => h y (List.mem_cons_of_mem _ hy)
    obtain ⟨x, hx, rfl⟩ := List.mem_map.mp (h y (List.mem_cons_self ..))
    refine ⟨x :: zs, by rw [e]; rfl, fun z hz' => ?_⟩
    rcases List.mem_cons.mp hz' with rfl | hz'
    · exact hx
    · exact hz z hz'
theorem len_law_all_stands : ∀ xs G Q, sp_law_all_stands xs G Q → xs.length = 1 := fun _ _ _ ⟨_, _, _, e, _⟩ => by rw [e]; rfl
theorem r_law_all_stands : ∀ xs G Q, sp_law_all_stands xs G Q → a_law_all_stands (aEnds Q) (astart 6 xs) G := by
  rintro xs G Q ⟨d, c, r, rfl, hD, q⟩
  unfold a_law_all_stands
  walk_at "la"
  intro p1 hp1
  have hD0 := hD.new (xs := [.str "one", .str "two"]) hp1
  refine i_law_next hD0 (by omega) fun w1 G1 _ _ hD1 hK1 => ?_
  obtain ⟨k, hk⟩ := kind_at (Int.emod_nonneg w1 (show (2 : Int) ≠ 0 by decide)) (Int.emod_lt_of_pos w1 (by decide))
  walk_at "la"
  refine ix_ref (hK1 _ _ (by obtain ⟨h1, h2, h3⟩ := hD.ne_new hp1; simp [h1, h3]) aupd_same) hk ?_
  refine i_law_next hD1 (by omega) fun w2 G2 _ _ hD2 hK2 => ?_
  walk_at "la"
  intro p2 hp2
  have hD2' := hD2.new (xs := [.int 3, .int 5, .int 8, .int 40]) hp2
  refine i_law_next hD2' (by omega) fun w3 G3 _ _ hD3 hK3 => ?_
  obtain ⟨n, n1, n40, hn⟩ := size_at (Int.emod_nonneg w3 (show (4 : Int) ≠ 0 by decide)) (Int.emod_lt_of_pos w3 (by decide))
  walk_at "la"
  refine ix_ref (hK3 _ _ (by obtain ⟨h1, h2, h3⟩ := hD2.ne_new hp2; simp [h1, h3]) aupd_same) hn ?_
  obtain ⟨m0, em, hm⟩ := mod_nat (i := w2) (n := n) (by omega)
  walk_at "la"
  rw [em]
  refine ⟨by omega, ?_⟩
  rw [show (1 : Int) + (m0 : Int) = ((m0 + 1 : Nat) : Int) from by omega]
  have hmany : m0 + 1 ≤ 40 := by omega
  have hmany1 : 1 ≤ m0 + 1 := by omega
  generalize m0 + 1 = many at hmany hmany1
  -- three stands
  refine lc_rngI 3 (by omega) (fun p i G' => Dr d c r (0 + 3 + 400 * i) G' ∧ ∃ ss : List Stand, Own d c r p (ss.map standV) G' ∧ ss.length = i ∧ ∀ s ∈ ss, okS 995000 s) (fun R q => ?_) (fun p hp => ?_) (fun p i G4 hp hi h => ?_) (fun p G4 hp h => ?_)
  · walk_at "la"; exact q
  · exact ⟨(hD3.new hp).mono (by omega), [], Own.new hD3 hp, rfl, fun s hs => by cases hs⟩
  · obtain ⟨hD4, ss, h1, h2, h3⟩ := h
    unfold aTurn aYes
    walk_at "la"
    refine i_law_made_stand hD4 (by omega) hmany1 hmany fun s G5 ok hl hD5 hK5 => ?_
    have h1' := h1.keep hK5
    refine ⟨_, h1'.at_, by rw [List.length_map]; omega, (h1'.dr hD5).mono (by omega), ss ++ [s], ?_, by simp [h2], fun z hz => ?_⟩
    · rw [List.map_append]
      exact h1'.set
    · rcases List.mem_append.mp hz with hz | hz
      · exact h3 z hz
      · rw [List.mem_singleton.mp hz]; exact ok
  · obtain ⟨hD4, ss, h1, h2, h3⟩ := h
    have hD4 := hD4.mono (b' := 1203) (by omega)
    walk_at "la"
    refine i_law_empty hmany1 hmany fun p3 hp3 => ?_
    refine o_add_ref (aold h1.at_ hp3) aupd_same (by simp; omega) fun p4 hp4 => ?_
    have hD5 := (hD4.new (xs := [standV (emptyS k many)]) hp3).new (xs := ss.map standV ++ [standV (emptyS k many)]) hp4
    have hO5 : Own d c r p4 ((ss ++ [emptyS k many]).map standV) (aupd (aupd G4 p3 [standV (emptyS k many)]) p4 (ss.map standV ++ [standV (emptyS k many)])) := by
      rw [List.map_append]
      exact Own.new (hD4.new hp3) hp4
    generalize aupd (aupd G4 p3 [standV (emptyS k many)]) p4 (ss.map standV ++ [standV (emptyS k many)]) = G5 at hD5 hO5
    have ok4 : ∀ s ∈ ss ++ [emptyS k many], okS 995000 s := fun z hz => by
      rcases List.mem_append.mp hz with hz | hz
      · exact h3 z hz
      · rw [List.mem_singleton.mp hz]; exact (ok_empty hmany1 hmany).mono (by omega)
    have hl4 : (ss ++ [emptyS k many]).length = 4 := by simp [h2]
    generalize ss ++ [emptyS k many] = s4 at hO5 ok4 hl4
    -- bent ones
    refine lc_lstI standV s4 p4 (fun p dn G' => Dr d c r (1203 + 6 * dn.length) G' ∧ Own d c r p4 (s4.map standV) G' ∧ ∃ tt : List Stand, Own d c r p (tt.map standV) G' ∧ tt.length = dn.length ∧ ∀ s ∈ tt, okS 995001 s) hO5.at_ (fun R q => ?_) (fun p dn G' hp h => h.2.1.at_) (fun p hp => ?_) (fun p dn y rr G6 hp e h => ?_) (fun p G6 hp h => ?_)
    · walk_at "la"; exact q
    · exact ⟨(hD5.new hp).mono (by simp), hO5.old hp, [], Own.new hD5 hp, rfl, fun s hs => by cases hs⟩
    · obtain ⟨hD6, h4, tt, h5, h6, h7⟩ := h
      have hy := ok4 y (by rw [← e]; simp)
      have hdl : dn.length + 1 ≤ 4 := by rw [← hl4, ← e]; simp
      have hne : p4 ≠ p := hO5.diff hp
      unfold aTurn aYes
      walk_at "la"
      refine i_law_bent hD6 (by omega) hy fun s' G7 ok' _ hD7 hK7 => ?_
      have h5' := h5.keep hK7
      refine ⟨_, h5'.at_, by rw [List.length_map]; omega, (h5'.dr hD7).mono (by rw [List.length_append]; simp; omega), (h4.keep hK7).oth hne, tt ++ [s'], ?_, by simp [h6], fun z hz => ?_⟩
      · rw [List.map_append]
        exact h5'.set
      · rcases List.mem_append.mp hz with hz | hz
        · exact h7 z hz
        · rw [List.mem_singleton.mp hz]; exact ok'
    · obtain ⟨hD6, h4, tt, h5, h6, h7⟩ := h
      have hD6 := hD6.mono (b' := 1227) (by rw [hl4]; omega)
      refine o_add_ref h4.at_ h5.at_ (by simp; omega) fun p5 hp5 => ?_
      have hD7 := hD6.new (xs := s4.map standV ++ tt.map standV) hp5
      have hO7 := Own.new (xs := s4.map standV ++ tt.map standV) hD6 hp5
      generalize aupd G6 p5 (s4.map standV ++ tt.map standV) = G7 at hD7 hO7
      refine i_law_strewn hD7 (by omega) hmany1 hmany fun s9 G8 ok9 _ hD8 hK8 => ?_
      have hO8 := hO7.keep hK8
      intro p6 hp6
      refine o_add_ref (aold hO8.at_ hp6) aupd_same (by simp; omega) fun p7 hp7 => ?_
      have hD9 := hD8.new (xs := [standV s9]) hp6
      have hD10 := hD9.new (xs := s4.map standV ++ tt.map standV ++ [standV s9]) hp7
      have hO10 : Own d c r p7 ((s4 ++ tt ++ [s9]).map standV) (aupd (aupd G8 p6 [standV s9]) p7 (s4.map standV ++ tt.map standV ++ [standV s9])) := by
        rw [List.map_append, List.map_append]
        exact Own.new hD9 hp7
      generalize aupd (aupd G8 p6 [standV s9]) p7 (s4.map standV ++ tt.map standV ++ [standV s9]) = G10 at hD10 hO10
      have ok10 : ∀ s ∈ s4 ++ tt ++ [s9], okS 995001 s := fun z hz => by
        rcases List.mem_append.mp hz with hz | hz
        · rcases List.mem_append.mp hz with hz | hz
          · exact (ok4 z hz).mono (by omega)
          · exact h7 z hz
        · rw [List.mem_singleton.mp hz]; exact ok9.mono (by omega)
      have hl10 : (s4 ++ tt ++ [s9]).length = 9 := by simp [hl4, h6]
      generalize s4 ++ tt ++ [s9] = s10 at hO10 ok10 hl10
      walk_at "la"
      have e4 : s10[4]? = some s10[4] := List.getElem?_eq_getElem (by omega)
      refine ⟨⟨_, hO10.at_⟩, ?_⟩
      refine ix_ref hO10.at_ (v := standV s10[4]) (atI_nat (j := 4) (by rw [List.getElem?_map, e4]; rfl)) ?_
      refine i_law_bent hD10 (by omega) (ok10 _ (List.getElem_mem _)) fun s11 G11 ok11 _ hD11 hK11 => ?_
      have hO11 := hO10.keep hK11
      refine m_append hO11.at_ (by rw [List.length_map]; omega) ?_
      have hD12 := hO11.dr (ys := s10.map standV ++ [standV s11]) hD11
      have hO12 : Own d c r p7 ((s10 ++ [s11]).map standV) (aupd G11 p7 (s10.map standV ++ [standV s11])) := by
        rw [List.map_append]
        exact hO11.set
      generalize aupd G11 p7 (s10.map standV ++ [standV s11]) = G12 at hD12 hO12
      unfold aStepL
      walk_at "la"
      refine i_law_come_to hD12 (by omega) hmany1 hmany fun p8 cc G13 hO13 hcl hcok hD13 hK13 => ?_
      refine ⟨p8, _, rfl, hO13.at_, fun ys p9 hys hyl hp9 => ?_⟩
      obtain ⟨zs, rfl, hz⟩ := pick_map hys
      rw [List.length_map, List.length_map] at hyl
      refine o_add_ref (aold (hO12.keep hK13).at_ hp9) aupd_same (by simp; omega) fun p10 hp10 => ?_
      refine drop_same (q p10 ((s10 ++ [s11]) ++ zs) _ ?_ (by simp; omega) fun s hs => ?_)
      · rw [aupd_same]; simp
      · rcases List.mem_append.mp hs with hs | hs
        · rcases List.mem_append.mp hs with hs | hs
          · exact (ok10 s hs).mono (by omega)
          · rw [List.mem_singleton.mp hs]; exact ok11.mono (by omega)
        · exact (hcok s (hz s hs)).mono (by omega)
end LS
set_option Elab.async false
set_option linter.all false
set_option maxRecDepth 100000
set_option maxHeartbeats 4000000
namespace LS
open PySem PySem.Spec PyProof.Rows L2 LA LE
section
variable {P : Program} {w : World} {K : PySem.W.Frag} {mg : Str → Option Value} {base : Heap}
theorem sc_is_number : FnScope ["thing", "most"] ["thing", "most"] (defScope sIsNumber) := ⟨rfl, rfl, rfl, by decide +kernel, rfl, by decide +kernel, by decide +kernel⟩
theorem d_is_number {cdv : Value} {A : Around} {outer : List Env} {s : Shared} {H : Hp} {E : XK} {f : Addr} (T : Txt mg)  (hr : Room 0 (A.deeper (envOfC "is_number" (defScope sIsNumber) s.heap.objs.size f cdv))) :
    PSs (cxOf CX0 P w K mg base ["thing", "most"] "is_number" (defScope sIsNumber) f cdv A outer s H E).nox (defBody sIsNumber) (lowS a_is_number) :=
  (as_one (as_ret (ae_and (ae_callB cal_isInt T.isinstance PyProof.Rows.boot_isinstance (aa_cons (ae_var 0) (aa_cons (ae_ty T.int PyProof.Rows.boot_int) aa_nil))) (ae_and (ae_not (ae_callB cal_isBool T.isinstance PyProof.Rows.boot_isinstance (aa_cons (ae_var 0) (aa_cons (ae_ty T.bool PyProof.Rows.boot_bool) aa_nil)))) (ae_one (ae_chain op_a_le op_a_le ae_int (ae_var 0) (ae_var 1)))))))
theorem sc_is_thing : FnScope ["thing"] ["thing"] (defScope sIsThing) := ⟨rfl, rfl, rfl, by decide +kernel, rfl, by decide +kernel, by decide +kernel⟩
theorem d_is_thing {cdv : Value} {A : Around} {outer : List Env} {s : Shared} {H : Hp} {E : XK} {f : Addr} (T : Txt mg) (C_is_number : Cal P w K mg base 1 "is_number" ["thing", "most"] sp_is_number) (hr : Room 1 (A.deeper (envOfC "is_thing" (defScope sIsThing) s.heap.objs.size f cdv))) :
    PSs (cxOf CX0 P w K mg base ["thing"] "is_thing" (defScope sIsThing) f cdv A outer s H E).nox (defBody sIsThing) (lowS a_is_thing) :=
  (as_cons (as_if (aw_pt (aw_or (at_not (at_val (ae_callB cal_isTup T.isinstance PyProof.Rows.boot_isinstance (aa_cons (ae_var 0) (aa_cons (ae_ty T.tuple PyProof.Rows.boot_tuple) aa_nil))))) (aw_or1 (at_cmp (op_a_ne hr) (ae_callB cal_len T.len PySem.boot_len (aa_cons (ae_var 0) aa_nil)) ae_int)))) (as_one (as_ret ae_bl)) as_nil)
    (as_one (as_ret (ae_and (ae_call C_is_number hr (aa_cons (ae_ix (ae_var 0) ae_int) (aa_cons (ae_gint T.MOST_NUMBER) aa_nil))) (ae_one (ae_call C_is_number hr (aa_cons (ae_ix (ae_var 0) ae_int) (aa_cons (ae_gint T.MOST_TICKET) aa_nil))))))))
theorem sc_comes_before : FnScope ["one", "other"] ["one", "other"] (defScope sComesBefore) := ⟨rfl, rfl, rfl, by decide +kernel, rfl, by decide +kernel, by decide +kernel⟩
theorem d_comes_before {cdv : Value} {A : Around} {outer : List Env} {s : Shared} {H : Hp} {E : XK} {f : Addr} (T : Txt mg)  (hr : Room 0 (A.deeper (envOfC "comes_before" (defScope sComesBefore) s.heap.objs.size f cdv))) :
    PSs (cxOf CX0 P w K mg base ["one", "other"] "comes_before" (defScope sComesBefore) f cdv A outer s H E).nox (defBody sComesBefore) (lowS a_comes_before) :=
  (as_cons (as_if (at_cmp (op_a_eq hr) (ae_ix (ae_var 0) ae_int) (ae_ix (ae_var 1) ae_int)) (as_one (as_ret (ae_cmp (op_a_lt hr) (ae_ix (ae_var 0) ae_int) (ae_ix (ae_var 1) ae_int)))) as_nil)
    (as_one (as_ret (ae_cmp (op_a_lt hr) (ae_ix (ae_var 0) ae_int) (ae_ix (ae_var 1) ae_int)))))
theorem sc_first_of : FnScope ["things", "found", "thing"] ["things"] (defScope sFirstOf) := ⟨rfl, rfl, rfl, by decide +kernel, rfl, by decide +kernel, by decide +kernel⟩
theorem d_first_of {cdv : Value} {A : Around} {outer : List Env} {s : Shared} {H : Hp} {E : XK} {f : Addr} (T : Txt mg) (C_comes_before : Cal P w K mg base 1 "comes_before" ["one", "other"] sp_comes_before) (hr : Room 1 (A.deeper (envOfC "first_of" (defScope sFirstOf) s.heap.objs.size f cdv))) :
    PSs (cxOf CX0 P w K mg base ["things", "found", "thing"] "first_of" (defScope sFirstOf) f cdv A outer s H E).nox (defBody sFirstOf) (lowS a_first_of) :=
  (as_cons (as_set 1 sc_first_of.nd ae_non)
    (as_cons (as_for PassesOwn.never rfl (ai_seq (ae_var 0)) (ag_name 2 sc_first_of.nd) (as_one (as_if (aw_pt (aw_or (at_cmp op_a_isN (ae_var 1) ae_non) (aw_or1 (at_val (ae_call C_comes_before hr (aa_cons (ae_var 2) (aa_cons (ae_var 1) aa_nil))))))) (as_one (as_set 1 sc_first_of.nd (ae_var 2))) as_nil)))
    (as_one (as_ret (ae_var 1)))))
theorem sc_things_of : FnScope ["cells", "found", "cell", "thing"] ["cells"] (defScope sThingsOf) := ⟨rfl, rfl, rfl, by decide +kernel, rfl, by decide +kernel, by decide +kernel⟩
theorem d_things_of {cdv : Value} {A : Around} {outer : List Env} {s : Shared} {H : Hp} {E : XK} {f : Addr} (T : Txt mg)  (hr : Room 0 (A.deeper (envOfC "things_of" (defScope sThingsOf) s.heap.objs.size f cdv))) :
    PSs (cxOf CX0 P w K mg base ["cells", "found", "cell", "thing"] "things_of" (defScope sThingsOf) f cdv A outer s H E).nox (defBody sThingsOf) (lowS a_things_of) :=
  (as_cons (as_set 1 sc_things_of.nd (ae_lst aa_nil))
    (as_cons (as_for PassesOwn.never rfl (ai_seq (ae_var 0)) (ag_name 2 sc_things_of.nd) (as_one (as_expr (ae_extend (ae_var 1) (aa_cons (ae_lc 3 rfl sc_things_of.nd (ai_seq (ae_var 2)) (blkOk_by (N := ["cells", "found", "cell", "thing"]) (sc := (defScope sThingsOf)) (own := [("thing", 3)]) (by decide +kernel)) (fun _ _ _ _ _ => pg_name (i := 3) sc_things_of.nd rfl (Or.inl rfl)) (fun _ _ _ _ _ => (apts_one (at_cmp op_a_notN (ae_var 3) ae_non))) (fun _ _ _ _ _ => (ae_var 3))) aa_nil)))))
    (as_one (as_ret (ae_callTy cal_tuple T.tuple PyProof.Rows.boot_tuple (aa_cons (ae_var 1) aa_nil))))))
theorem sc_comes_ahead : FnScope ["keep", "others", "first"] ["keep", "others"] (defScope sComesAhead) := ⟨rfl, rfl, rfl, by decide +kernel, rfl, by decide +kernel, by decide +kernel⟩
theorem d_comes_ahead {cdv : Value} {A : Around} {outer : List Env} {s : Shared} {H : Hp} {E : XK} {f : Addr} (T : Txt mg) (C_comes_before : Cal P w K mg base 1 "comes_before" ["one", "other"] sp_comes_before) (C_first_of : Cal P w K mg base 2 "first_of" ["things"] sp_first_of) (hr : Room 2 (A.deeper (envOfC "comes_ahead" (defScope sComesAhead) s.heap.objs.size f cdv))) :
    PSs (cxOf CX0 P w K mg base ["keep", "others", "first"] "comes_ahead" (defScope sComesAhead) f cdv A outer s H E).nox (defBody sComesAhead) (lowS a_comes_ahead) :=
  (as_cons (as_set 2 sc_comes_ahead.nd (ae_call C_first_of hr (aa_cons (ae_var 1) aa_nil)))
    (as_cons (as_if (at_cmp op_a_isN (ae_var 2) ae_non) (as_one (as_ret ae_bl)) as_nil)
    (as_one (as_ret (ae_and (ae_cmp op_a_notN (ae_var 0) ae_non) (ae_one (ae_call C_comes_before hr (aa_cons (ae_var 0) (aa_cons (ae_var 2) aa_nil)))))))))
theorem sc_has_room : FnScope ["cells", "place"] ["cells", "place"] (defScope sHasRoom) := ⟨rfl, rfl, rfl, by decide +kernel, rfl, by decide +kernel, by decide +kernel⟩
theorem d_has_room {cdv : Value} {A : Around} {outer : List Env} {s : Shared} {H : Hp} {E : XK} {f : Addr} (T : Txt mg) (C_things_of : Cal P w K mg base 1 "things_of" ["cells"] sp_things_of) (hr : Room 1 (A.deeper (envOfC "has_room" (defScope sHasRoom) s.heap.objs.size f cdv))) :
    PSs (cxOf CX0 P w K mg base ["cells", "place"] "has_room" (defScope sHasRoom) f cdv A outer s H E).nox (defBody sHasRoom) (lowS a_has_room) :=
  (as_one (as_ret (ae_cmp op_a_le (ae_callB cal_len T.len PySem.boot_len (aa_cons (ae_call C_things_of hr (aa_cons (ae_slice (ae_var 0) (ao_some (ae_var 1)) ao_none) aa_nil)) aa_nil)) (ae_op op_a_sub (ae_callB cal_len T.len PySem.boot_len (aa_cons (ae_var 0) aa_nil)) (ae_var 1)))))
theorem sc_hand_fits : FnScope ["cell", "keep", "hand"] ["cell"] (defScope sHandFits) := ⟨rfl, rfl, rfl, by decide +kernel, rfl, by decide +kernel, by decide +kernel⟩
theorem d_hand_fits {cdv : Value} {A : Around} {outer : List Env} {s : Shared} {H : Hp} {E : XK} {f : Addr} (T : Txt mg) (C_comes_before : Cal P w K mg base 1 "comes_before" ["one", "other"] sp_comes_before) (hr : Room 1 (A.deeper (envOfC "hand_fits" (defScope sHandFits) s.heap.objs.size f cdv))) :
    PSs (cxOf CX0 P w K mg base ["cell", "keep", "hand"] "hand_fits" (defScope sHandFits) f cdv A outer s H E).nox (defBody sHandFits) (lowS a_hand_fits) :=
  (as_cons (as_asg (ae_var 0) (ag_tup (n := 2) rfl (ags_cons (ag_name 1 sc_hand_fits.nd) (ags_cons (ag_name 2 sc_hand_fits.nd) ags_nil))))
    (as_one (as_ret (ae_or (ae_cmp op_a_isN (ae_var 2) ae_non) (ae_one (ae_and (ae_cmp op_a_notN (ae_var 1) ae_non) (ae_one (ae_call C_comes_before hr (aa_cons (ae_var 1) (aa_cons (ae_var 2) aa_nil))))))))))
theorem sc_leads : FnScope ["cells", "place", "keep", "hand"] ["cells", "place"] (defScope sLeads) := ⟨rfl, rfl, rfl, by decide +kernel, rfl, by decide +kernel, by decide +kernel⟩
theorem d_leads {cdv : Value} {A : Around} {outer : List Env} {s : Shared} {H : Hp} {E : XK} {f : Addr} (T : Txt mg) (C_things_of : Cal P w K mg base 1 "things_of" ["cells"] sp_things_of) (C_comes_ahead : Cal P w K mg base 3 "comes_ahead" ["keep", "others"] sp_comes_ahead) (hr : Room 3 (A.deeper (envOfC "leads" (defScope sLeads) s.heap.objs.size f cdv))) :
    PSs (cxOf CX0 P w K mg base ["cells", "place", "keep", "hand"] "leads" (defScope sLeads) f cdv A outer s H E).nox (defBody sLeads) (lowS a_leads) :=
  (as_cons (as_asg (ae_ix (ae_var 0) (ae_var 1)) (ag_tup (n := 2) rfl (ags_cons (ag_name 2 sc_leads.nd) (ags_cons (ag_name 3 sc_leads.nd) ags_nil))))
    (as_one (as_ret (ae_and (ae_cmp op_a_isN (ae_var 3) ae_non) (ae_one (ae_call C_comes_ahead hr (aa_cons (ae_var 2) (aa_cons (ae_call C_things_of hr (aa_cons (ae_slice (ae_var 0) (ao_some (ae_op op_a_add (ae_var 1) ae_int)) ao_none) aa_nil)) aa_nil))))))))
theorem sc_fits_two : FnScope ["cells", "turn", "place"] ["cells", "turn", "place"] (defScope sFitsTwo) := ⟨rfl, rfl, rfl, by decide +kernel, rfl, by decide +kernel, by decide +kernel⟩
theorem d_fits_two {cdv : Value} {A : Around} {outer : List Env} {s : Shared} {H : Hp} {E : XK} {f : Addr} (T : Txt mg) (C_hand_fits : Cal P w K mg base 2 "hand_fits" ["cell"] sp_hand_fits) (C_leads : Cal P w K mg base 4 "leads" ["cells", "place"] sp_leads) (hr : Room 4 (A.deeper (envOfC "fits_two" (defScope sFitsTwo) s.heap.objs.size f cdv))) :
    PSs (cxOf CX0 P w K mg base ["cells", "turn", "place"] "fits_two" (defScope sFitsTwo) f cdv A outer s H E).nox (defBody sFitsTwo) (lowS a_fits_two) :=
  (as_cons (as_if (aw_pt (aw_or (at_cmp (op_a_eq hr) (ae_var 2) ae_int) (aw_or1 (at_cmp (op_a_ne hr) (ae_op op_a_mod (ae_var 2) ae_int) (ae_var 1))))) (as_one (as_ret (ae_call C_leads hr (aa_cons (ae_var 0) (aa_cons (ae_var 2) aa_nil))))) as_nil)
    (as_one (as_ret (ae_call C_hand_fits hr (aa_cons (ae_ix (ae_var 0) (ae_var 2)) aa_nil)))))
theorem sc_hole_fits : FnScope ["cells", "place", "beyond"] ["cells", "place"] (defScope sHoleFits) := ⟨rfl, rfl, rfl, by decide +kernel, rfl, by decide +kernel, by decide +kernel⟩
theorem d_hole_fits {cdv : Value} {A : Around} {outer : List Env} {s : Shared} {H : Hp} {E : XK} {f : Addr} (T : Txt mg) (C_things_of : Cal P w K mg base 1 "things_of" ["cells"] sp_things_of) (hr : Room 1 (A.deeper (envOfC "hole_fits" (defScope sHoleFits) s.heap.objs.size f cdv))) :
    PSs (cxOf CX0 P w K mg base ["cells", "place", "beyond"] "hole_fits" (defScope sHoleFits) f cdv A outer s H E).nox (defBody sHoleFits) (lowS a_hole_fits) :=
  (as_cons (as_set 2 sc_hole_fits.nd (ae_call C_things_of hr (aa_cons (ae_slice (ae_var 0) (ao_some (ae_op op_a_add (ae_var 1) ae_int)) ao_none) aa_nil)))
    (as_cons (as_if (aw_pt (aw_or (at_cmp op_a_notN (ae_ix (ae_ix (ae_var 0) (ae_var 1)) ae_int) ae_non) (aw_or1 (aw_pt (aw_and (at_cmp (op_a_eq hr) (ae_var 1) ae_int) (aw_and1 (at_cmp (op_a_ne hr) (ae_var 2) (ae_tup aa_nil)))))))) (as_one (as_ret ae_bl)) as_nil)
    (as_one (as_ret (ae_or (ae_cmp (op_a_eq hr) (ae_var 2) (ae_tup aa_nil)) (ae_one (ae_cmp op_a_notN (ae_ix (ae_ix (ae_var 0) (ae_op op_a_add (ae_var 1) ae_int)) ae_int) ae_non)))))))
theorem sc_fits_one : FnScope ["cells", "turn", "place", "keep", "hand", "beyond"] ["cells", "turn", "place"] (defScope sFitsOne) := ⟨rfl, rfl, rfl, by decide +kernel, rfl, by decide +kernel, by decide +kernel⟩
theorem d_fits_one {cdv : Value} {A : Around} {outer : List Env} {s : Shared} {H : Hp} {E : XK} {f : Addr} (T : Txt mg) (C_comes_ahead : Cal P w K mg base 3 "comes_ahead" ["keep", "others"] sp_comes_ahead) (C_hand_fits : Cal P w K mg base 2 "hand_fits" ["cell"] sp_hand_fits) (C_hole_fits : Cal P w K mg base 2 "hole_fits" ["cells", "place"] sp_hole_fits) (C_things_of : Cal P w K mg base 1 "things_of" ["cells"] sp_things_of) (hr : Room 3 (A.deeper (envOfC "fits_one" (defScope sFitsOne) s.heap.objs.size f cdv))) :
    PSs (cxOf CX0 P w K mg base ["cells", "turn", "place", "keep", "hand", "beyond"] "fits_one" (defScope sFitsOne) f cdv A outer s H E).nox (defBody sFitsOne) (lowS a_fits_one) :=
  (as_cons (as_asg (ae_ix (ae_var 0) (ae_var 2)) (ag_tup (n := 2) rfl (ags_cons (ag_name 3 sc_fits_one.nd) (ags_cons (ag_name 4 sc_fits_one.nd) ags_nil))))
    (as_cons (as_set 5 sc_fits_one.nd (ae_call C_things_of hr (aa_cons (ae_slice (ae_var 0) (ao_some (ae_op op_a_add (ae_var 2) ae_int)) ao_none) aa_nil)))
    (as_cons (as_if (at_cmp op_a_isN (ae_var 3) ae_non) (as_one (as_ret (ae_call C_hole_fits hr (aa_cons (ae_var 0) (aa_cons (ae_var 2) aa_nil))))) as_nil)
    (as_cons (as_if (aw_pt (aw_or (at_not (at_val (ae_call C_hand_fits hr (aa_cons (ae_ix (ae_var 0) (ae_var 2)) aa_nil)))) (aw_or1 (at_not (at_val (ae_call C_comes_ahead hr (aa_cons (ae_var 3) (aa_cons (ae_var 5) aa_nil)))))))) (as_one (as_ret ae_bl)) as_nil)
    (as_cons (as_if (aw_pt (aw_and (at_cmp (op_a_eq hr) (ae_var 1) ae_int) (aw_and1 (at_cmp (op_a_eq hr) (ae_var 2) ae_int)))) (as_one (as_ret (ae_and (ae_cmp op_a_isN (ae_var 4) ae_non) (ae_one (ae_or (ae_cmp (op_a_eq hr) (ae_var 5) (ae_tup aa_nil)) (ae_one (ae_cmp op_a_notN (ae_ix (ae_ix (ae_var 0) ae_int) ae_int) ae_non))))))) as_nil)
    (as_one (as_ret ae_bl)))))))
theorem sc_in_order : FnScope ["stand", "kind", "turn", "came", "cells", "place"] ["stand"] (defScope sInOrder) := ⟨rfl, rfl, rfl, by decide +kernel, rfl, by decide +kernel, by decide +kernel⟩
theorem d_in_order {cdv : Value} {A : Around} {outer : List Env} {s : Shared} {H : Hp} {E : XK} {f : Addr} (T : Txt mg) (C_fits_one : Cal P w K mg base 4 "fits_one" ["cells", "turn", "place"] sp_fits_one) (C_fits_two : Cal P w K mg base 5 "fits_two" ["cells", "turn", "place"] sp_fits_two) (C_has_room : Cal P w K mg base 2 "has_room" ["cells", "place"] sp_has_room) (hr : Room 5 (A.deeper (envOfC "in_order" (defScope sInOrder) s.heap.objs.size f cdv))) :
    PSs (cxOf CX0 P w K mg base ["stand", "kind", "turn", "came", "cells", "place"] "in_order" (defScope sInOrder) f cdv A outer s H E).nox (defBody sInOrder) (lowS a_in_order) :=
  (as_cons (as_asg (ae_var 0) (ag_tup (n := 4) rfl (ags_cons (ag_name 1 sc_in_order.nd) (ags_cons (ag_name 2 sc_in_order.nd) (ags_cons (ag_name 3 sc_in_order.nd) (ags_cons (ag_name 4 sc_in_order.nd) ags_nil))))))
    (as_cons (as_for PassesOwn.never rfl (ai_range1 T.range (aa_cons (ae_callB cal_len T.len PySem.boot_len (aa_cons (ae_var 4) aa_nil)) aa_nil)) (ag_name 5 sc_in_order.nd) (as_cons (as_if (at_not (at_val (ae_call C_has_room hr (aa_cons (ae_var 4) (aa_cons (ae_var 5) aa_nil))))) (as_one (as_ret ae_bl)) as_nil)
    (as_cons (as_if (aw_pt (aw_and (at_cmp (op_a_eq hr) (ae_var 1) ae_str) (aw_and1 (at_not (at_val (ae_call C_fits_two hr (aa_cons (ae_var 4) (aa_cons (ae_var 2) (aa_cons (ae_var 5) aa_nil))))))))) (as_one (as_ret ae_bl)) as_nil)
    (as_one (as_if (aw_pt (aw_and (at_cmp (op_a_eq hr) (ae_var 1) ae_str) (aw_and1 (at_not (at_val (ae_call C_fits_one hr (aa_cons (ae_var 4) (aa_cons (ae_var 2) (aa_cons (ae_var 5) aa_nil))))))))) (as_one (as_ret ae_bl)) as_nil)))))
    (as_one (as_ret ae_bl))))
theorem sc_entries_of : FnScope ["cells", "found", "first", "many", "keep", "hand", "thing", "own"] ["cells"] (defScope sEntriesOf) := ⟨rfl, rfl, rfl, by decide +kernel, rfl, by decide +kernel, by decide +kernel⟩
theorem d_entries_of {cdv : Value} {A : Around} {outer : List Env} {s : Shared} {H : Hp} {E : XK} {f : Addr} (T : Txt mg) (C_first_of : Cal P w K mg base 2 "first_of" ["things"] sp_first_of) (hr : Room 2 (A.deeper (envOfC "entries_of" (defScope sEntriesOf) s.heap.objs.size f cdv))) :
    PSs (cxOf CX0 P w K mg base ["cells", "found", "first", "many", "keep", "hand", "thing", "own"] "entries_of" (defScope sEntriesOf) f cdv A outer s H E).nox (defBody sEntriesOf) (lowS a_entries_of) :=
  (as_cons (as_set 1 sc_entries_of.nd (ae_lst aa_nil))
    (as_cons (as_set 2 sc_entries_of.nd ae_non)
    (as_cons (as_set 3 sc_entries_of.nd ae_int)
    (as_cons (as_for PassesOwn.never rfl (ai_seq (ae_revT (ae_var 0))) (ag_tup (n := 2) rfl (ags_cons (ag_name 4 sc_entries_of.nd) (ags_cons (ag_name 5 sc_entries_of.nd) ags_nil))) (as_cons (as_set 7 sc_entries_of.nd (ae_callTy cal_tuple T.tuple PyProof.Rows.boot_tuple (aa_cons (ae_lc 6 rfl sc_entries_of.nd (ai_seq (ae_tup (aa_cons (ae_var 4) (aa_cons (ae_var 5) aa_nil)))) (blkOk_by (N := ["cells", "found", "first", "many", "keep", "hand", "thing", "own"]) (sc := (defScope sEntriesOf)) (own := [("thing", 6)]) (by decide +kernel)) (fun _ _ _ _ _ => pg_name (i := 6) sc_entries_of.nd rfl (Or.inl rfl)) (fun _ _ _ _ _ => (apts_one (at_cmp op_a_notN (ae_var 6) ae_non))) (fun _ _ _ _ _ => (ae_var 6))) aa_nil)))
    (as_cons (as_augAdd 3 sc_entries_of.nd (ae_callB cal_len T.len PySem.boot_len (aa_cons (ae_var 7) aa_nil)))
    (as_cons (as_set 1 sc_entries_of.nd (ae_op op_a_add (ae_lst (aa_cons (ae_tup (aa_cons (ae_var 2) (aa_cons (ae_var 3) aa_nil))) aa_nil)) (ae_var 1)))
    (as_cons (as_if (at_cmp op_a_notN (ae_var 2) ae_non) (as_one (as_set 7 sc_entries_of.nd (ae_op op_a_add (ae_var 7) (ae_tup (aa_cons (ae_var 2) aa_nil))))) as_nil)
    (as_one (as_set 2 sc_entries_of.nd (ae_call C_first_of hr (aa_cons (ae_var 7) aa_nil)))))))))
    (as_one (as_ret (ae_callTy cal_tuple T.tuple PyProof.Rows.boot_tuple (aa_cons (ae_var 1) aa_nil))))))))
theorem sc_is_entry : FnScope ["thing"] ["thing"] (defScope sIsEntry) := ⟨rfl, rfl, rfl, by decide +kernel, rfl, by decide +kernel, by decide +kernel⟩
theorem d_is_entry {cdv : Value} {A : Around} {outer : List Env} {s : Shared} {H : Hp} {E : XK} {f : Addr} (T : Txt mg) (C_is_thing : Cal P w K mg base 2 "is_thing" ["thing"] sp_is_thing) (hr : Room 2 (A.deeper (envOfC "is_entry" (defScope sIsEntry) s.heap.objs.size f cdv))) :
    PSs (cxOf CX0 P w K mg base ["thing"] "is_entry" (defScope sIsEntry) f cdv A outer s H E).nox (defBody sIsEntry) (lowS a_is_entry) :=
  (as_cons (as_if (aw_pt (aw_or (at_not (at_val (ae_callB cal_isTup T.isinstance PyProof.Rows.boot_isinstance (aa_cons (ae_var 0) (aa_cons (ae_ty T.tuple PyProof.Rows.boot_tuple) aa_nil))))) (aw_or1 (at_cmp (op_a_ne hr) (ae_callB cal_len T.len PySem.boot_len (aa_cons (ae_var 0) aa_nil)) ae_int)))) (as_one (as_ret ae_bl)) as_nil)
    (as_cons (as_if (aw_pt (aw_or (at_not (at_val (ae_callB cal_isInt T.isinstance PyProof.Rows.boot_isinstance (aa_cons (ae_ix (ae_var 0) ae_int) (aa_cons (ae_ty T.int PyProof.Rows.boot_int) aa_nil))))) (aw_or1 (at_val (ae_callB cal_isBool T.isinstance PyProof.Rows.boot_isinstance (aa_cons (ae_ix (ae_var 0) ae_int) (aa_cons (ae_ty T.bool PyProof.Rows.boot_bool) aa_nil))))))) (as_one (as_ret ae_bl)) as_nil)
    (as_one (as_ret (ae_or (ae_cmp op_a_isN (ae_ix (ae_var 0) ae_int) ae_non) (ae_one (ae_call C_is_thing hr (aa_cons (ae_ix (ae_var 0) ae_int) aa_nil))))))))
theorem sc_right_order : FnScope ["stand", "thing", "entry"] ["stand", "thing"] (defScope sRightOrder) := ⟨rfl, rfl, rfl, by decide +kernel, rfl, by decide +kernel, by decide +kernel⟩
theorem d_right_order {cdv : Value} {A : Around} {outer : List Env} {s : Shared} {H : Hp} {E : XK} {f : Addr} (T : Txt mg) (C_in_order : Cal P w K mg base 6 "in_order" ["stand"] sp_in_order) (C_entries_of : Cal P w K mg base 3 "entries_of" ["cells"] sp_entries_of) (C_is_entry : Cal P w K mg base 3 "is_entry" ["thing"] sp_is_entry) (hr : Room 6 (A.deeper (envOfC "right_order" (defScope sRightOrder) s.heap.objs.size f cdv))) :
    PSs (cxOf CX0 P w K mg base ["stand", "thing", "entry"] "right_order" (defScope sRightOrder) f cdv A outer s H E).nox (defBody sRightOrder) (lowS a_right_order) :=
  (as_cons (as_if (aw_pt (aw_or (at_not (at_val (ae_callB cal_isTup T.isinstance PyProof.Rows.boot_isinstance (aa_cons (ae_var 1) (aa_cons (ae_ty T.tuple PyProof.Rows.boot_tuple) aa_nil))))) (aw_or1 (at_cmp (op_a_ne hr) (ae_lc 2 rfl sc_right_order.nd (ai_seq (ae_var 1)) (blkOk_by (N := ["stand", "thing", "entry"]) (sc := (defScope sRightOrder)) (own := [("entry", 2)]) (by decide +kernel)) (fun _ _ _ _ _ => pg_name (i := 2) sc_right_order.nd rfl (Or.inl rfl)) (fun _ _ _ _ _ => (apts_one (at_not (at_val (ae_call C_is_entry hr (aa_cons (ae_var 2) aa_nil)))))) (fun _ _ _ _ _ => (ae_var 2))) (ae_lst aa_nil))))) (as_one (as_ret ae_bl)) as_nil)
    (as_one (as_ret (ae_and (ae_cmp (op_a_eq hr) (ae_var 1) (ae_call C_entries_of hr (aa_cons (ae_ix (ae_var 0) ae_int) aa_nil))) (ae_one (ae_call C_in_order hr (aa_cons (ae_var 0) aa_nil)))))))
theorem sc_law_next : FnScope ["_law_drawn", "_law_cells", "_law_many", "_law_rests", "_law_at", "_law_digits", "_law_primes", "_law_mixed"] ["_law_drawn"] (defScope sLawNext) := ⟨rfl, rfl, rfl, by decide +kernel, rfl, by decide +kernel, by decide +kernel⟩
theorem d_law_next {cdv : Value} {A : Around} {outer : List Env} {s : Shared} {H : Hp} {E : XK} {f : Addr} (T : Txt mg)  (hr : Room 0 (A.deeper (envOfC "_law_next" (defScope sLawNext) s.heap.objs.size f cdv))) :
    PSs (cxOf CX0 P w K mg base ["_law_drawn", "_law_cells", "_law_many", "_law_rests", "_law_at", "_law_digits", "_law_primes", "_law_mixed"] "_law_next" (defScope sLawNext) f cdv A outer s H E).nox (defBody sLawNext) (lowS a_law_next) :=
  (as_cons (as_asg (ae_var 0) (ag_tup (n := 3) rfl (ags_cons (ag_name 1 sc_law_next.nd) (ags_cons (ag_name 2 sc_law_next.nd) (ags_cons (ag_name 3 sc_law_next.nd) ags_nil)))))
    (as_cons (as_set 4 sc_law_next.nd (ae_op op_a_mod (ae_var 2) (ae_callB cal_len T.len PySem.boot_len (aa_cons (ae_var 1) aa_nil))))
    (as_cons (as_asg (ae_op op_a_add (ae_var 2) ae_int) (ag_sub (ae_var 0) ae_int))
    (as_cons (as_if (at_cmp op_a_gt (ae_ix (ae_var 3) (ae_var 4)) ae_int) (as_cons (as_set 5 sc_law_next.nd (ae_op op_a_mod (ae_ix (ae_var 3) (ae_var 4)) ae_int))
    (as_cons (as_asg (ae_op op_a_fdiv (ae_ix (ae_var 3) (ae_var 4)) ae_int) (ag_sub (ae_var 3) (ae_var 4)))
    (as_one (as_ret (ae_var 5))))) as_nil)
    (as_cons (as_set 6 sc_law_next.nd (ae_lst (aa_cons ae_int (aa_cons ae_int (aa_cons ae_int (aa_cons ae_int (aa_cons ae_int (aa_cons ae_int (aa_cons ae_int aa_nil)))))))))
    (as_cons (as_set 7 sc_law_next.nd (ae_op op_a_mod (ae_op op_a_pow (ae_op op_a_add (ae_op op_a_add (ae_op op_a_mod (ae_ix (ae_var 1) (ae_var 4)) ae_int) (ae_op op_a_mulA ae_int (ae_var 2))) ae_int) ae_int) (ae_ix (ae_var 6) (ae_op op_a_mod (ae_var 2) ae_int))))
    (as_one (as_ret (ae_op op_a_mod (ae_op op_a_pow (ae_op op_a_add (ae_var 7) (ae_op op_a_mulA ae_int (ae_var 2))) ae_int) ae_int)))))))))
theorem sc_law_number : FnScope ["_law_drawn", "_law_sort", "_law_own"] ["_law_drawn", "_law_sort"] (defScope sLawNumber) := ⟨rfl, rfl, rfl, by decide +kernel, rfl, by decide +kernel, by decide +kernel⟩
theorem d_law_number {cdv : Value} {A : Around} {outer : List Env} {s : Shared} {H : Hp} {E : XK} {f : Addr} (T : Txt mg) (C_law_next : Cal P w K mg base 1 "_law_next" ["_law_drawn"] sp_law_next) (hr : Room 1 (A.deeper (envOfC "_law_number" (defScope sLawNumber) s.heap.objs.size f cdv))) :
    PSs (cxOf CX0 P w K mg base ["_law_drawn", "_law_sort", "_law_own"] "_law_number" (defScope sLawNumber) f cdv A outer s H E).nox (defBody sLawNumber) (lowS a_law_number) :=
  (as_cons (as_set 2 sc_law_number.nd (ae_call C_law_next hr (aa_cons (ae_var 0) aa_nil)))
    (as_cons (as_if (at_cmp (op_a_eq hr) (ae_op op_a_mod (ae_var 1) ae_int) ae_int) (as_one (as_ret (ae_op op_a_mod (ae_var 2) ae_int))) as_nil)
    (as_cons (as_if (at_cmp (op_a_eq hr) (ae_op op_a_mod (ae_var 1) ae_int) ae_int) (as_one (as_ret (ae_op op_a_mod (ae_var 2) ae_int))) as_nil)
    (as_cons (as_if (at_cmp (op_a_eq hr) (ae_op op_a_mod (ae_var 1) ae_int) ae_int) (as_one (as_ret (ae_op op_a_sub (ae_op op_a_pow ae_int ae_int) (ae_op op_a_mod (ae_var 2) ae_int)))) as_nil)
    (as_one (as_ret (ae_op op_a_mod (ae_op op_a_add (ae_op op_a_mulA (ae_var 2) ae_int) (ae_call C_law_next hr (aa_cons (ae_var 0) aa_nil))) (ae_op op_a_add (ae_op op_a_pow ae_int ae_int) ae_int))))))))
theorem sc_law_in_cells : FnScope ["_law_cells", "_law_found", "_law_cell", "_law_thing"] ["_law_cells"] (defScope sLawInCells) := ⟨rfl, rfl, rfl, by decide +kernel, rfl, by decide +kernel, by decide +kernel⟩
theorem d_law_in_cells {cdv : Value} {A : Around} {outer : List Env} {s : Shared} {H : Hp} {E : XK} {f : Addr} (T : Txt mg)  (hr : Room 0 (A.deeper (envOfC "_law_in_cells" (defScope sLawInCells) s.heap.objs.size f cdv))) :
    PSs (cxOf CX0 P w K mg base ["_law_cells", "_law_found", "_law_cell", "_law_thing"] "_law_in_cells" (defScope sLawInCells) f cdv A outer s H E).nox (defBody sLawInCells) (lowS a_law_in_cells) :=
  (as_cons (as_set 1 sc_law_in_cells.nd (ae_lst aa_nil))
    (as_cons (as_for PassesOwn.never rfl (ai_seq (ae_var 0)) (ag_name 2 sc_law_in_cells.nd) (as_one (as_expr (ae_extend (ae_var 1) (aa_cons (ae_lc 3 rfl sc_law_in_cells.nd (ai_seq (ae_var 2)) (blkOk_by (N := ["_law_cells", "_law_found", "_law_cell", "_law_thing"]) (sc := (defScope sLawInCells)) (own := [("_law_thing", 3)]) (by decide +kernel)) (fun _ _ _ _ _ => pg_name (i := 3) sc_law_in_cells.nd rfl (Or.inl rfl)) (fun _ _ _ _ _ => (apts_one (at_cmp op_a_notN (ae_var 3) ae_non))) (fun _ _ _ _ _ => (ae_var 3))) aa_nil)))))
    (as_one (as_ret (ae_var 1)))))
theorem sc_law_three : FnScope ["_law_things", "_law_many", "_law_thing", "_law_own"] ["_law_things", "_law_many"] (defScope sLawThree) := ⟨rfl, rfl, rfl, by decide +kernel, rfl, by decide +kernel, by decide +kernel⟩
theorem d_law_three {cdv : Value} {A : Around} {outer : List Env} {s : Shared} {H : Hp} {E : XK} {f : Addr} (T : Txt mg)  (hr : Room 0 (A.deeper (envOfC "_law_three" (defScope sLawThree) s.heap.objs.size f cdv))) :
    PSs (cxOf CX0 P w K mg base ["_law_things", "_law_many", "_law_thing", "_law_own"] "_law_three" (defScope sLawThree) f cdv A outer s H E).nox (defBody sLawThree) (lowS a_law_three) :=
  (as_cons (as_set 3 sc_law_three.nd (ae_callB cal_sorted T.sorted PyProof.Rows.boot_sorted (aa_cons (ae_lc 2 rfl sc_law_three.nd (ai_seq (ae_var 0)) (blkOk_by (N := ["_law_things", "_law_many", "_law_thing", "_law_own"]) (sc := (defScope sLawThree)) (own := [("_law_thing", 2)]) (by decide +kernel)) (fun _ _ _ _ _ => pg_name (i := 2) sc_law_three.nd rfl (Or.inl rfl)) (fun _ _ _ _ _ => (apts_one (at_cmp op_a_notN (ae_var 2) ae_non))) (fun _ _ _ _ _ => (ae_var 2))) aa_nil)))
    (as_one (as_ret (ae_op op_a_add (ae_var 3) (ae_op op_a_mulA (ae_lst (aa_cons ae_non aa_nil)) (ae_op op_a_sub (ae_var 1) (ae_callB cal_len T.len PySem.boot_len (aa_cons (ae_var 3) aa_nil))))))))
theorem sc_law_two_moved : FnScope ["_law_cells", "_law_turn", "_law_fallen", "_law_cell", "_law_found", "_law_near", "_law_far", "_law_own", "_law_thing"] ["_law_cells", "_law_turn", "_law_fallen"] (defScope sLawTwoMoved) := ⟨rfl, rfl, rfl, by decide +kernel, rfl, by decide +kernel, by decide +kernel⟩
theorem d_law_two_moved {cdv : Value} {A : Around} {outer : List Env} {s : Shared} {H : Hp} {E : XK} {f : Addr} (T : Txt mg) (C_law_three : Cal P w K mg base 1 "_law_three" ["_law_things", "_law_many"] sp_law_three) (hr : Room 1 (A.deeper (envOfC "_law_two_moved" (defScope sLawTwoMoved) s.heap.objs.size f cdv))) :
    PSs (cxOf CX0 P w K mg base ["_law_cells", "_law_turn", "_law_fallen", "_law_cell", "_law_found", "_law_near", "_law_far", "_law_own", "_law_thing"] "_law_two_moved" (defScope sLawTwoMoved) f cdv A outer s H E).nox (defBody sLawTwoMoved) (lowS a_law_two_moved) :=
  (as_cons (as_setLc 4 3 rfl sc_law_two_moved.nd rfl rfl (sw_true rfl rfl rfl (by decide +kernel)) (ai_seq (ae_var 0)) (blkOk_by (N := ["_law_cells", "_law_turn", "_law_fallen", "_law_cell", "_law_found", "_law_near", "_law_far", "_law_own", "_law_thing"]) (sc := (defScope sLawTwoMoved)) (own := [("_law_cell", 3)]) (by decide +kernel)) (fun _ _ _ _ _ => pg_name (i := 3) sc_law_two_moved.nd rfl (Or.inl rfl)) (fun _ _ _ _ _ => apts_nil) (fun _ _ _ _ _ => (ae_callTy cal_list T.list PyProof.Rows.boot_list (aa_cons (ae_var 3) aa_nil))))
    (as_cons (as_for PassesOwn.never rfl (ai_range3 T.range (aa_cons (ae_var 1) (aa_cons (ae_callB cal_len T.len PySem.boot_len (aa_cons (ae_var 4) aa_nil)) (aa_cons ae_int aa_nil)))) (ag_name 5 sc_law_two_moved.nd) (as_cons (as_set 6 sc_law_two_moved.nd (ae_lst (aa_cons ae_non (aa_cons ae_non aa_nil))))
    (as_cons (as_if (at_cmp (op_a_lt hr) (ae_op op_a_add (ae_var 5) ae_int) (ae_callB cal_len T.len PySem.boot_len (aa_cons (ae_var 4) aa_nil))) (as_one (as_set 6 sc_law_two_moved.nd (ae_ix (ae_var 4) (ae_op op_a_add (ae_var 5) ae_int)))) as_nil)
    (as_one (as_if (at_cmp op_a_isN (ae_ix (ae_var 6) ae_int) ae_non) (as_cons (as_set 7 sc_law_two_moved.nd (ae_call C_law_three hr (aa_cons (ae_lst (aa_cons (ae_ix (ae_ix (ae_var 4) (ae_var 5)) ae_int) (aa_cons (ae_ix (ae_ix (ae_var 4) (ae_var 5)) ae_int) (aa_cons (ae_ix (ae_var 6) ae_int) aa_nil)))) (aa_cons ae_int aa_nil))))
    (as_cons (as_asg (ae_ix (ae_var 7) ae_int) (ag_sub (ae_ix (ae_var 4) (ae_var 5)) ae_int))
    (as_cons (as_asg ae_non (ag_sub (ae_ix (ae_var 4) (ae_var 5)) ae_int))
    (as_cons (as_asg (ae_ix (ae_var 7) ae_int) (ag_sub (ae_var 6) ae_int))
    (as_cons (as_asg (ae_ix (ae_var 7) ae_int) (ag_sub (ae_var 6) ae_int))
    (as_one (as_if (at_cmp (op_a_eq hr) (ae_op op_a_add (ae_var 5) ae_int) (ae_callB cal_len T.len PySem.boot_len (aa_cons (ae_var 4) aa_nil))) (as_one (as_expr (ae_extend (ae_var 2) (aa_cons (ae_lc 8 rfl sc_law_two_moved.nd (ai_seq (ae_var 6)) (blkOk_by (N := ["_law_cells", "_law_turn", "_law_fallen", "_law_cell", "_law_found", "_law_near", "_law_far", "_law_own", "_law_thing"]) (sc := (defScope sLawTwoMoved)) (own := [("_law_thing", 8)]) (by decide +kernel)) (fun _ _ _ _ _ => pg_name (i := 8) sc_law_two_moved.nd rfl (Or.inl rfl)) (fun _ _ _ _ _ => (apts_one (at_cmp op_a_notN (ae_var 8) ae_non))) (fun _ _ _ _ _ => (ae_var 8))) aa_nil)))) as_nil))))))) as_nil)))))
    (as_one (as_ret (ae_callTy cal_tuple T.tuple PyProof.Rows.boot_tuple (aa_cons (ae_lc 3 rfl sc_law_two_moved.nd (ai_seq (ae_var 4)) (blkOk_by (N := ["_law_cells", "_law_turn", "_law_fallen", "_law_cell", "_law_found", "_law_near", "_law_far", "_law_own", "_law_thing"]) (sc := (defScope sLawTwoMoved)) (own := [("_law_cell", 3)]) (by decide +kernel)) (fun _ _ _ _ _ => pg_name (i := 3) sc_law_two_moved.nd rfl (Or.inl rfl)) (fun _ _ _ _ _ => apts_nil) (fun _ _ _ _ _ => (ae_callTy cal_tuple T.tuple PyProof.Rows.boot_tuple (aa_cons (ae_var 3) aa_nil)))) aa_nil))))))
theorem sc_law_one_moved : FnScope ["_law_cells", "_law_hand", "_law_fallen", "_law_found", "_law_many", "_law_place", "_law_coming", "_law_keep"] ["_law_cells", "_law_hand", "_law_fallen"] (defScope sLawOneMoved) := ⟨rfl, rfl, rfl, by decide +kernel, rfl, by decide +kernel, by decide +kernel⟩
theorem d_law_one_moved {cdv : Value} {A : Around} {outer : List Env} {s : Shared} {H : Hp} {E : XK} {f : Addr} (T : Txt mg) (C_law_three : Cal P w K mg base 1 "_law_three" ["_law_things", "_law_many"] sp_law_three) (hr : Room 1 (A.deeper (envOfC "_law_one_moved" (defScope sLawOneMoved) s.heap.objs.size f cdv))) :
    PSs (cxOf CX0 P w K mg base ["_law_cells", "_law_hand", "_law_fallen", "_law_found", "_law_many", "_law_place", "_law_coming", "_law_keep"] "_law_one_moved" (defScope sLawOneMoved) f cdv A outer s H E).nox (defBody sLawOneMoved) (lowS a_law_one_moved) :=
  (as_cons (as_set 3 sc_law_one_moved.nd (ae_lst aa_nil))
    (as_cons (as_set 4 sc_law_one_moved.nd (ae_callB cal_len T.len PySem.boot_len (aa_cons (ae_var 0) aa_nil)))
    (as_cons (as_for PassesOwn.never rfl (ai_range1 T.range (aa_cons (ae_var 4) aa_nil)) (ag_name 5 sc_law_one_moved.nd) (as_cons (as_set 6 sc_law_one_moved.nd (ae_var 1))
    (as_cons (as_if (at_cmp op_a_gt (ae_var 5) ae_int) (as_one (as_set 6 sc_law_one_moved.nd (ae_ix (ae_ix (ae_var 0) (ae_op op_a_sub (ae_var 5) ae_int)) ae_int))) as_nil)
    (as_cons (as_set 7 sc_law_one_moved.nd (ae_ix (ae_ix (ae_var 0) (ae_var 5)) ae_int))
    (as_cons (as_if (aw_pt (aw_and (at_cmp op_a_isN (ae_var 7) ae_non) (aw_and1 (at_cmp (op_a_lt hr) (ae_op op_a_add (ae_var 5) ae_int) (ae_var 4))))) (as_one (as_set 7 sc_law_one_moved.nd (ae_ix (ae_ix (ae_var 0) (ae_op op_a_add (ae_var 5) ae_int)) ae_int))) (as_one (as_if (aw_pt (aw_and (at_cmp op_a_notN (ae_var 7) ae_non) (aw_and (at_cmp op_a_gt (ae_var 5) ae_int) (aw_and1 (at_cmp op_a_isN (ae_ix (ae_ix (ae_var 0) (ae_op op_a_sub (ae_var 5) ae_int)) ae_int) ae_non))))) (as_one (as_set 7 sc_law_one_moved.nd ae_non)) as_nil)))
    (as_one (as_expr (ae_append (ae_var 3) (aa_cons (ae_callTy cal_tuple T.tuple PyProof.Rows.boot_tuple (aa_cons (ae_call C_law_three hr (aa_cons (ae_lst (aa_cons (ae_var 6) (aa_cons (ae_var 7) aa_nil))) (aa_cons ae_int aa_nil))) aa_nil)) aa_nil)))))))))
    (as_cons (as_if (at_cmp op_a_notN (ae_ix (ae_ix (ae_var 0) ae_neg) ae_int) ae_non) (as_one (as_expr (ae_append (ae_var 2) (aa_cons (ae_ix (ae_ix (ae_var 0) ae_neg) ae_int) aa_nil)))) as_nil)
    (as_one (as_ret (ae_callTy cal_tuple T.tuple PyProof.Rows.boot_tuple (aa_cons (ae_var 3) aa_nil))))))))
theorem sc_law_too_soon : FnScope ["_law_stand", "_law_ask"] ["_law_stand", "_law_ask"] (defScope sLawTooSoon) := ⟨rfl, rfl, rfl, by decide +kernel, rfl, by decide +kernel, by decide +kernel⟩
theorem d_law_too_soon {cdv : Value} {A : Around} {outer : List Env} {s : Shared} {H : Hp} {E : XK} {f : Addr} (T : Txt mg)  (hr : Room 0 (A.deeper (envOfC "_law_too_soon" (defScope sLawTooSoon) s.heap.objs.size f cdv))) :
    PSs (cxOf CX0 P w K mg base ["_law_stand", "_law_ask"] "_law_too_soon" (defScope sLawTooSoon) f cdv A outer s H E).nox (defBody sLawTooSoon) (lowS a_law_too_soon) :=
  (as_cons (as_if (aw_pt (aw_or (at_cmp (op_a_eq hr) (ae_ix (ae_var 0) ae_int) ae_int) (aw_or1 (at_cmp (op_a_eq hr) (ae_ix (ae_var 1) ae_int) ae_str)))) (as_one (as_ret ae_bl)) as_nil)
    (as_one (as_ret (ae_or (ae_cmp (op_a_eq hr) (ae_ix (ae_var 0) ae_int) ae_str) (ae_one (ae_cmp (op_a_ne hr) (ae_ix (ae_var 1) ae_int) ae_str))))))
theorem sc_law_taken : FnScope ["_law_stand", "_law_cells"] ["_law_stand"] (defScope sLawTaken) := ⟨rfl, rfl, rfl, by decide +kernel, rfl, by decide +kernel, by decide +kernel⟩
theorem d_law_taken {cdv : Value} {A : Around} {outer : List Env} {s : Shared} {H : Hp} {E : XK} {f : Addr} (T : Txt mg) (C_law_in_cells : Cal P w K mg base 1 "_law_in_cells" ["_law_cells"] sp_law_in_cells) (hr : Room 1 (A.deeper (envOfC "_law_taken" (defScope sLawTaken) s.heap.objs.size f cdv))) :
    PSs (cxOf CX0 P w K mg base ["_law_stand", "_law_cells"] "_law_taken" (defScope sLawTaken) f cdv A outer s H E).nox (defBody sLawTaken) (lowS a_law_taken) :=
  (as_cons (as_set 1 sc_law_taken.nd (ae_ix (ae_var 0) ae_int))
    (as_cons (as_if (at_cmp (op_a_eq hr) (ae_call C_law_in_cells hr (aa_cons (ae_var 1) aa_nil)) (ae_lst aa_nil)) (as_one (as_ret (ae_tup (aa_cons ae_str (aa_cons (ae_var 1) aa_nil))))) as_nil)
    (as_cons (as_if (at_cmp op_a_isN (ae_ix (ae_ix (ae_var 1) ae_int) ae_int) ae_non) (as_one (as_ret (ae_tup (aa_cons ae_str (aa_cons (ae_var 1) aa_nil))))) as_nil)
    (as_one (as_ret (ae_tup (aa_cons (ae_ix (ae_ix (ae_var 1) ae_int) ae_int) (aa_cons (ae_op op_a_add (ae_tup (aa_cons (ae_tup (aa_cons ae_non (aa_cons (ae_ix (ae_ix (ae_var 1) ae_int) ae_int) aa_nil))) aa_nil)) (ae_slice (ae_var 1) (ao_some ae_int) ao_none)) aa_nil))))))))
theorem sc_law_beat : FnScope ["_law_stand", "_law_ask", "_law_kind", "_law_turn", "_law_came", "_law_cells", "_law_fallen", "_law_answer", "_law_hand", "_law_told"] ["_law_stand", "_law_ask"] (defScope sLawBeat) := ⟨rfl, rfl, rfl, by decide +kernel, rfl, by decide +kernel, by decide +kernel⟩
theorem d_law_beat {cdv : Value} {A : Around} {outer : List Env} {s : Shared} {H : Hp} {E : XK} {f : Addr} (T : Txt mg) (C_law_two_moved : Cal P w K mg base 2 "_law_two_moved" ["_law_cells", "_law_turn", "_law_fallen"] sp_law_two_moved) (C_law_one_moved : Cal P w K mg base 2 "_law_one_moved" ["_law_cells", "_law_hand", "_law_fallen"] sp_law_one_moved) (C_law_in_cells : Cal P w K mg base 1 "_law_in_cells" ["_law_cells"] sp_law_in_cells) (C_law_taken : Cal P w K mg base 2 "_law_taken" ["_law_stand"] sp_law_taken) (hr : Room 2 (A.deeper (envOfC "_law_beat" (defScope sLawBeat) s.heap.objs.size f cdv))) :
    PSs (cxOf CX0 P w K mg base ["_law_stand", "_law_ask", "_law_kind", "_law_turn", "_law_came", "_law_cells", "_law_fallen", "_law_answer", "_law_hand", "_law_told"] "_law_beat" (defScope sLawBeat) f cdv A outer s H E).nox (defBody sLawBeat) (lowS a_law_beat) :=
  (as_cons (as_asg (ae_var 0) (ag_tup (n := 4) rfl (ags_cons (ag_name 2 sc_law_beat.nd) (ags_cons (ag_name 3 sc_law_beat.nd) (ags_cons (ag_name 4 sc_law_beat.nd) (ags_cons (ag_name 5 sc_law_beat.nd) ags_nil))))))
    (as_cons (as_set 6 sc_law_beat.nd (ae_lst aa_nil))
    (as_cons (as_set 7 sc_law_beat.nd ae_non)
    (as_cons (as_set 8 sc_law_beat.nd ae_non)
    (as_cons (as_if (at_cmp op_a_in (ae_ix (ae_var 1) ae_int) (ae_lst (aa_cons ae_str (aa_cons ae_str aa_nil)))) (as_one (as_asg (ae_call C_law_taken hr (aa_cons (ae_var 0) aa_nil)) (ag_tup (n := 2) rfl (ags_cons (ag_name 7 sc_law_beat.nd) (ags_cons (ag_name 5 sc_law_beat.nd) ags_nil))))) as_nil)
    (as_cons (as_if (at_cmp op_a_in (ae_ix (ae_var 1) ae_int) (ae_lst (aa_cons ae_str (aa_cons ae_str aa_nil)))) (as_cons (as_set 9 sc_law_beat.nd ae_str)
    (as_cons (as_if (at_cmp (op_a_lt hr) (ae_callB cal_len T.len PySem.boot_len (aa_cons (ae_call C_law_in_cells hr (aa_cons (ae_var 5) aa_nil)) aa_nil)) (ae_callB cal_len T.len PySem.boot_len (aa_cons (ae_var 5) aa_nil))) (as_cons (as_set 8 sc_law_beat.nd (ae_tup (aa_cons (ae_ix (ae_var 1) ae_int) (aa_cons (ae_var 4) aa_nil))))
    (as_cons (as_set 9 sc_law_beat.nd (ae_var 4))
    (as_one (as_set 4 sc_law_beat.nd (ae_op op_a_add (ae_var 4) ae_int))))) as_nil)
    (as_one (as_set 7 sc_law_beat.nd (ae_ix (ae_lst (aa_cons (ae_var 9) (aa_cons (ae_tup (aa_cons (ae_var 7) (aa_cons (ae_var 9) aa_nil))) aa_nil))) (ae_callTy cal_int T.int PyProof.Rows.boot_int (aa_cons (ae_cmp (op_a_eq hr) (ae_ix (ae_var 1) ae_int) ae_str) aa_nil))))))) as_nil)
    (as_cons (as_if (at_cmp (op_a_eq hr) (ae_var 2) ae_str) (as_one (as_ret (ae_tup (aa_cons (ae_var 7) (aa_cons (ae_var 6) (aa_cons (ae_tup (aa_cons ae_str (aa_cons (ae_callTy cal_int T.int PyProof.Rows.boot_int (aa_cons (ae_cmp (op_a_ne hr) (ae_ix (ae_var 1) ae_int) ae_str) aa_nil)) (aa_cons (ae_var 4) (aa_cons (ae_call C_law_one_moved hr (aa_cons (ae_var 5) (aa_cons (ae_var 8) (aa_cons (ae_var 6) aa_nil)))) aa_nil))))) aa_nil)))))) as_nil)
    (as_cons (as_if (at_cmp op_a_notN (ae_var 8) ae_non) (as_cons (as_if (at_cmp op_a_notN (ae_ix (ae_ix (ae_var 5) ae_int) ae_int) ae_non) (as_one (as_expr (ae_append (ae_var 6) (aa_cons (ae_ix (ae_ix (ae_var 5) ae_int) ae_int) aa_nil)))) as_nil)
    (as_one (as_set 5 sc_law_beat.nd (ae_op op_a_add (ae_tup (aa_cons (ae_tup (aa_cons (ae_ix (ae_ix (ae_var 5) ae_int) ae_int) (aa_cons (ae_var 8) aa_nil))) aa_nil)) (ae_slice (ae_var 5) (ao_some ae_int) ao_none))))) as_nil)
    (as_one (as_ret (ae_tup (aa_cons (ae_var 7) (aa_cons (ae_var 6) (aa_cons (ae_tup (aa_cons ae_str (aa_cons (ae_op op_a_sub ae_int (ae_var 3)) (aa_cons (ae_var 4) (aa_cons (ae_call C_law_two_moved hr (aa_cons (ae_var 5) (aa_cons (ae_var 3) (aa_cons (ae_var 6) aa_nil)))) aa_nil))))) aa_nil))))))))))))))
theorem sc_law_empty : FnScope ["_law_kind", "_law_many"] ["_law_kind", "_law_many"] (defScope sLawEmpty) := ⟨rfl, rfl, rfl, by decide +kernel, rfl, by decide +kernel, by decide +kernel⟩
theorem d_law_empty {cdv : Value} {A : Around} {outer : List Env} {s : Shared} {H : Hp} {E : XK} {f : Addr} (T : Txt mg)  (hr : Room 0 (A.deeper (envOfC "_law_empty" (defScope sLawEmpty) s.heap.objs.size f cdv))) :
    PSs (cxOf CX0 P w K mg base ["_law_kind", "_law_many"] "_law_empty" (defScope sLawEmpty) f cdv A outer s H E).nox (defBody sLawEmpty) (lowS a_law_empty) :=
  (as_one (as_ret (ae_tup (aa_cons (ae_var 0) (aa_cons ae_int (aa_cons ae_int (aa_cons (ae_op op_a_mulA (ae_tup (aa_cons (ae_tup (aa_cons ae_non (aa_cons ae_non aa_nil))) aa_nil)) (ae_var 1)) aa_nil)))))))
theorem sc_law_least_beyond : FnScope ["_law_cells", "_law_place"] ["_law_cells", "_law_place"] (defScope sLawLeastBeyond) := ⟨rfl, rfl, rfl, by decide +kernel, rfl, by decide +kernel, by decide +kernel⟩
theorem d_law_least_beyond {cdv : Value} {A : Around} {outer : List Env} {s : Shared} {H : Hp} {E : XK} {f : Addr} (T : Txt mg) (C_law_in_cells : Cal P w K mg base 1 "_law_in_cells" ["_law_cells"] sp_law_in_cells) (hr : Room 1 (A.deeper (envOfC "_law_least_beyond" (defScope sLawLeastBeyond) s.heap.objs.size f cdv))) :
    PSs (cxOf CX0 P w K mg base ["_law_cells", "_law_place"] "_law_least_beyond" (defScope sLawLeastBeyond) f cdv A outer s H E).nox (defBody sLawLeastBeyond) (lowS a_law_least_beyond) :=
  (as_one (as_ret (ae_minD rfl rfl hr T.min (ae_call C_law_in_cells hr (aa_cons (ae_slice (ae_var 0) (ao_some (ae_op op_a_add (ae_var 1) ae_int)) ao_none) aa_nil)))))
theorem sc_law_leads : FnScope ["_law_cells", "_law_place", "_law_least"] ["_law_cells", "_law_place"] (defScope sLawLeads) := ⟨rfl, rfl, rfl, by decide +kernel, rfl, by decide +kernel, by decide +kernel⟩
theorem d_law_leads {cdv : Value} {A : Around} {outer : List Env} {s : Shared} {H : Hp} {E : XK} {f : Addr} (T : Txt mg) (C_law_least_beyond : Cal P w K mg base 2 "_law_least_beyond" ["_law_cells", "_law_place"] sp_law_least_beyond) (hr : Room 2 (A.deeper (envOfC "_law_leads" (defScope sLawLeads) s.heap.objs.size f cdv))) :
    PSs (cxOf CX0 P w K mg base ["_law_cells", "_law_place", "_law_least"] "_law_leads" (defScope sLawLeads) f cdv A outer s H E).nox (defBody sLawLeads) (lowS a_law_leads) :=
  (as_cons (as_set 2 sc_law_leads.nd (ae_call C_law_least_beyond hr (aa_cons (ae_var 0) (aa_cons (ae_var 1) aa_nil))))
    (as_cons (as_if (at_cmp op_a_isN (ae_ix (ae_ix (ae_var 0) (ae_var 1)) ae_int) ae_non) (as_one (as_ret (ae_cmp op_a_isN (ae_var 2) ae_non))) as_nil)
    (as_one (as_ret (ae_or (ae_cmp op_a_isN (ae_var 2) ae_non) (ae_one (ae_cmp (op_a_lt hr) (ae_ix (ae_ix (ae_var 0) (ae_var 1)) ae_int) (ae_var 2))))))))
theorem sc_law_in_order : FnScope ["_law_stand", "_law_kind", "_law_turn", "_law_came", "_law_cells", "_law_place", "_law_cell"] ["_law_stand"] (defScope sLawInOrder) := ⟨rfl, rfl, rfl, by decide +kernel, rfl, by decide +kernel, by decide +kernel⟩
theorem d_law_in_order {cdv : Value} {A : Around} {outer : List Env} {s : Shared} {H : Hp} {E : XK} {f : Addr} (T : Txt mg) (C_law_one_cell : Cal P w K mg base 4 "_law_one_cell" ["_law_stand", "_law_place"] sp_law_one_cell) (C_law_leads : Cal P w K mg base 3 "_law_leads" ["_law_cells", "_law_place"] sp_law_leads) (C_law_in_cells : Cal P w K mg base 1 "_law_in_cells" ["_law_cells"] sp_law_in_cells) (hr : Room 4 (A.deeper (envOfC "_law_in_order" (defScope sLawInOrder) s.heap.objs.size f cdv))) :
    PSs (cxOf CX0 P w K mg base ["_law_stand", "_law_kind", "_law_turn", "_law_came", "_law_cells", "_law_place", "_law_cell"] "_law_in_order" (defScope sLawInOrder) f cdv A outer s H E).nox (defBody sLawInOrder) (lowS a_law_in_order) :=
  (as_cons (as_asg (ae_var 0) (ag_tup (n := 4) rfl (ags_cons (ag_name 1 sc_law_in_order.nd) (ags_cons (ag_name 2 sc_law_in_order.nd) (ags_cons (ag_name 3 sc_law_in_order.nd) (ags_cons (ag_name 4 sc_law_in_order.nd) ags_nil))))))
    (as_cons (as_for PassesOwn.never rfl (ai_enum T.enumerate (aa_cons (ae_var 4) aa_nil)) (ag_tup (n := 2) rfl (ags_cons (ag_name 5 sc_law_in_order.nd) (ags_cons (ag_name 6 sc_law_in_order.nd) ags_nil))) (as_cons (as_if (at_cmp op_a_gt (ae_callB cal_len T.len PySem.boot_len (aa_cons (ae_call C_law_in_cells hr (aa_cons (ae_slice (ae_var 4) (ao_some (ae_var 5)) ao_none) aa_nil)) aa_nil)) (ae_op op_a_sub (ae_callB cal_len T.len PySem.boot_len (aa_cons (ae_var 4) aa_nil)) (ae_var 5))) (as_one (as_ret ae_bl)) as_nil)
    (as_cons (as_if (aw_pt (aw_and (at_cmp op_a_notN (ae_ix (ae_var 6) ae_int) ae_non) (aw_and1 (aw_pt (aw_or (at_cmp op_a_isN (ae_ix (ae_var 6) ae_int) ae_non) (aw_or1 (at_cmp (op_a_lt hr) (ae_ix (ae_var 6) ae_int) (ae_ix (ae_var 6) ae_int)))))))) (as_one (as_ret ae_bl)) as_nil)
    (as_cons (as_if (aw_pt (aw_and (at_cmp (op_a_eq hr) (ae_var 1) ae_str) (aw_and1 (aw_pt (aw_or (at_cmp (op_a_ne hr) (ae_op op_a_mod (ae_var 5) ae_int) (ae_var 2)) (aw_or1 (at_cmp (op_a_eq hr) (ae_var 5) ae_int))))))) (as_one (as_if (aw_pt (aw_or (at_cmp op_a_notN (ae_ix (ae_var 6) ae_int) ae_non) (aw_or1 (at_not (at_val (ae_call C_law_leads hr (aa_cons (ae_var 4) (aa_cons (ae_var 5) aa_nil)))))))) (as_one (as_ret ae_bl)) as_nil)) as_nil)
    (as_one (as_if (aw_pt (aw_and (at_cmp (op_a_eq hr) (ae_var 1) ae_str) (aw_and1 (at_not (at_val (ae_call C_law_one_cell hr (aa_cons (ae_var 0) (aa_cons (ae_var 5) aa_nil)))))))) (as_one (as_ret ae_bl)) as_nil))))))
    (as_one (as_ret ae_bl))))
theorem sc_law_one_cell : FnScope ["_law_stand", "_law_place", "_law_kind", "_law_turn", "_law_came", "_law_cells", "_law_keep", "_law_hand", "_law_beyond"] ["_law_stand", "_law_place"] (defScope sLawOneCell) := ⟨rfl, rfl, rfl, by decide +kernel, rfl, by decide +kernel, by decide +kernel⟩
theorem d_law_one_cell {cdv : Value} {A : Around} {outer : List Env} {s : Shared} {H : Hp} {E : XK} {f : Addr} (T : Txt mg) (C_law_leads : Cal P w K mg base 3 "_law_leads" ["_law_cells", "_law_place"] sp_law_leads) (C_law_in_cells : Cal P w K mg base 1 "_law_in_cells" ["_law_cells"] sp_law_in_cells) (hr : Room 3 (A.deeper (envOfC "_law_one_cell" (defScope sLawOneCell) s.heap.objs.size f cdv))) :
    PSs (cxOf CX0 P w K mg base ["_law_stand", "_law_place", "_law_kind", "_law_turn", "_law_came", "_law_cells", "_law_keep", "_law_hand", "_law_beyond"] "_law_one_cell" (defScope sLawOneCell) f cdv A outer s H E).nox (defBody sLawOneCell) (lowS a_law_one_cell) :=
  (as_cons (as_asg (ae_var 0) (ag_tup (n := 4) rfl (ags_cons (ag_name 2 sc_law_one_cell.nd) (ags_cons (ag_name 3 sc_law_one_cell.nd) (ags_cons (ag_name 4 sc_law_one_cell.nd) (ags_cons (ag_name 5 sc_law_one_cell.nd) ags_nil))))))
    (as_cons (as_asg (ae_ix (ae_var 5) (ae_var 1)) (ag_tup (n := 2) rfl (ags_cons (ag_name 6 sc_law_one_cell.nd) (ags_cons (ag_name 7 sc_law_one_cell.nd) ags_nil))))
    (as_cons (as_set 8 sc_law_one_cell.nd (ae_call C_law_in_cells hr (aa_cons (ae_slice (ae_var 5) (ao_some (ae_op op_a_add (ae_var 1) ae_int)) ao_none) aa_nil)))
    (as_cons (as_if (aw_pt (aw_and (at_cmp op_a_notN (ae_var 6) ae_non) (aw_and1 (at_not (at_val (ae_call C_law_leads hr (aa_cons (ae_var 5) (aa_cons (ae_var 1) aa_nil)))))))) (as_one (as_ret ae_bl)) as_nil)
    (as_cons (as_if (aw_pt (aw_and (at_cmp op_a_isN (ae_var 6) ae_non) (aw_and1 (aw_pt (aw_or (aw_pt (aw_and (at_cmp (op_a_eq hr) (ae_var 1) ae_int) (aw_and1 (at_cmp (op_a_ne hr) (ae_var 8) (ae_lst aa_nil))))) (aw_or1 (aw_pt (aw_and (at_cmp (op_a_ne hr) (ae_var 8) (ae_lst aa_nil)) (aw_and1 (at_cmp op_a_isN (ae_ix (ae_ix (ae_var 5) (ae_op op_a_add (ae_var 1) ae_int)) ae_int) ae_non)))))))))) (as_one (as_ret ae_bl)) as_nil)
    (as_cons (as_if (aw_pt (aw_and (at_cmp (op_a_eq hr) (ae_var 3) ae_int) (aw_and1 (at_cmp (op_a_eq hr) (ae_var 1) ae_int)))) (as_one (as_ret (ae_and (ae_cmp op_a_isN (ae_var 7) ae_non) (ae_one (ae_or (ae_cmp (op_a_eq hr) (ae_var 8) (ae_lst aa_nil)) (ae_one (ae_cmp op_a_notN (ae_ix (ae_ix (ae_var 5) ae_int) ae_int) ae_non))))))) as_nil)
    (as_one (as_ret ae_bl))))))))
theorem sc_law_tickets : FnScope ["_law_drawn", "_law_many", "_law_way", "_law_free", "_law_k", "_law_found", "_law_turn"] ["_law_drawn", "_law_many"] (defScope sLawTickets) := ⟨rfl, rfl, rfl, by decide +kernel, rfl, by decide +kernel, by decide +kernel⟩
theorem d_law_tickets {cdv : Value} {A : Around} {outer : List Env} {s : Shared} {H : Hp} {E : XK} {f : Addr} (T : Txt mg) (C_law_next : Cal P w K mg base 1 "_law_next" ["_law_drawn"] sp_law_next) (hr : Room 1 (A.deeper (envOfC "_law_tickets" (defScope sLawTickets) s.heap.objs.size f cdv))) :
    PSs (cxOf CX0 P w K mg base ["_law_drawn", "_law_many", "_law_way", "_law_free", "_law_k", "_law_found", "_law_turn"] "_law_tickets" (defScope sLawTickets) f cdv A outer s H E).nox (defBody sLawTickets) (lowS a_law_tickets) :=
  (as_cons (as_set 2 sc_law_tickets.nd (ae_op op_a_mod (ae_call C_law_next hr (aa_cons (ae_var 0) aa_nil)) ae_int))
    (as_cons (as_set 3 sc_law_tickets.nd (ae_listRg rfl T.list T.range (ae_op op_a_add (ae_var 1) (ae_ix (ae_lst (aa_cons ae_int (aa_cons ae_int (aa_cons ae_int (aa_cons ae_int aa_nil))))) (ae_var 2)))))
    (as_cons (as_if (at_cmp (op_a_eq hr) (ae_var 2) ae_int) (as_one (as_setLc 3 4 rfl sc_law_tickets.nd rfl rfl (sw_true rfl rfl rfl (by decide +kernel)) (ai_range1 T.range (aa_cons (ae_op op_a_add (ae_var 1) ae_int) aa_nil)) (blkOk_by (N := ["_law_drawn", "_law_many", "_law_way", "_law_free", "_law_k", "_law_found", "_law_turn"]) (sc := (defScope sLawTickets)) (own := [("_law_k", 4)]) (by decide +kernel)) (fun _ _ _ _ _ => pg_name (i := 4) sc_law_tickets.nd rfl (Or.inl rfl)) (fun _ _ _ _ _ => apts_nil) (fun _ _ _ _ _ => (ae_op op_a_add (ae_op op_a_mulA ae_int (ae_var 4)) (ae_op op_a_mod (ae_call C_law_next hr (aa_cons (ae_var 0) aa_nil)) ae_int))))) as_nil)
    (as_cons (as_set 5 sc_law_tickets.nd (ae_lst aa_nil))
    (as_cons (as_for PassesOwn.never rfl (ai_range1 T.range (aa_cons (ae_var 1) aa_nil)) (ag_name 6 sc_law_tickets.nd) (as_one (as_expr (ae_append (ae_var 5) (aa_cons (ae_popAt (ae_var 3) (aa_cons (ae_op op_a_mod (ae_call C_law_next hr (aa_cons (ae_var 0) aa_nil)) (ae_callB cal_len T.len PySem.boot_len (aa_cons (ae_var 3) aa_nil))) aa_nil)) aa_nil)))))
    (as_one (as_ret (ae_tup (aa_cons (ae_var 5) (aa_cons (ae_ix (ae_lst (aa_cons (ae_var 1) (aa_cons (ae_op op_a_add (ae_var 1) ae_int) (aa_cons (ae_op op_a_add (ae_var 1) ae_int) (aa_cons (ae_op op_a_sub (ae_op op_a_pow ae_int ae_int) ae_int) aa_nil))))) (ae_var 2)) aa_nil))))))))))
theorem sc_law_made_things : FnScope ["_law_drawn", "_law_many", "_law_sort", "_law_tickets_here", "_law_came", "_law_ticket"] ["_law_drawn", "_law_many"] (defScope sLawMadeThings) := ⟨rfl, rfl, rfl, by decide +kernel, rfl, by decide +kernel, by decide +kernel⟩
theorem d_law_made_things {cdv : Value} {A : Around} {outer : List Env} {s : Shared} {H : Hp} {E : XK} {f : Addr} (T : Txt mg) (C_law_number : Cal P w K mg base 2 "_law_number" ["_law_drawn", "_law_sort"] sp_law_number) (C_law_tickets : Cal P w K mg base 2 "_law_tickets" ["_law_drawn", "_law_many"] sp_law_tickets) (C_law_next : Cal P w K mg base 1 "_law_next" ["_law_drawn"] sp_law_next) (hr : Room 2 (A.deeper (envOfC "_law_made_things" (defScope sLawMadeThings) s.heap.objs.size f cdv))) :
    PSs (cxOf CX0 P w K mg base ["_law_drawn", "_law_many", "_law_sort", "_law_tickets_here", "_law_came", "_law_ticket"] "_law_made_things" (defScope sLawMadeThings) f cdv A outer s H E).nox (defBody sLawMadeThings) (lowS a_law_made_things) :=
  (as_cons (as_set 2 sc_law_made_things.nd (ae_call C_law_next hr (aa_cons (ae_var 0) aa_nil)))
    (as_cons (as_asg (ae_call C_law_tickets hr (aa_cons (ae_var 0) (aa_cons (ae_var 1) aa_nil))) (ag_tup (n := 2) rfl (ags_cons (ag_name 3 sc_law_made_things.nd) (ags_cons (ag_name 4 sc_law_made_things.nd) ags_nil))))
    (as_one (as_ret (ae_tup (aa_cons (ae_callB cal_sorted T.sorted PyProof.Rows.boot_sorted (aa_cons (ae_lc 5 rfl sc_law_made_things.nd (ai_seq (ae_var 3)) (blkOk_by (N := ["_law_drawn", "_law_many", "_law_sort", "_law_tickets_here", "_law_came", "_law_ticket"]) (sc := (defScope sLawMadeThings)) (own := [("_law_ticket", 5)]) (by decide +kernel)) (fun _ _ _ _ _ => pg_name (i := 5) sc_law_made_things.nd rfl (Or.inl rfl)) (fun _ _ _ _ _ => apts_nil) (fun _ _ _ _ _ => (ae_tup (aa_cons (ae_call C_law_number hr (aa_cons (ae_var 0) (aa_cons (ae_var 2) aa_nil))) (aa_cons (ae_var 5) aa_nil))))) aa_nil)) (aa_cons (ae_var 4) aa_nil)))))))
theorem sc_law_made_two : FnScope ["_law_drawn", "_law_left", "_law_turn", "_law_place", "_law_many", "_law_least", "_law_most", "_law_own", "_law_k"] ["_law_drawn", "_law_left", "_law_turn", "_law_place", "_law_many"] (defScope sLawMadeTwo) := ⟨rfl, rfl, rfl, by decide +kernel, rfl, by decide +kernel, by decide +kernel⟩
theorem d_law_made_two {cdv : Value} {A : Around} {outer : List Env} {s : Shared} {H : Hp} {E : XK} {f : Addr} (T : Txt mg) (C_law_next : Cal P w K mg base 1 "_law_next" ["_law_drawn"] sp_law_next) (hr : Room 1 (A.deeper (envOfC "_law_made_two" (defScope sLawMadeTwo) s.heap.objs.size f cdv))) :
    PSs (cxOf CX0 P w K mg base ["_law_drawn", "_law_left", "_law_turn", "_law_place", "_law_many", "_law_least", "_law_most", "_law_own", "_law_k"] "_law_made_two" (defScope sLawMadeTwo) f cdv A outer s H E).nox (defBody sLawMadeTwo) (lowS a_law_made_two) :=
  (as_cons (as_if (at_cmp (op_a_eq hr) (ae_var 1) (ae_lst aa_nil)) (as_one (as_ret (ae_tup (aa_cons ae_non (aa_cons ae_non aa_nil))))) as_nil)
    (as_cons (as_if (aw_pt (aw_or (at_cmp (op_a_eq hr) (ae_var 3) ae_int) (aw_or1 (at_cmp (op_a_ne hr) (ae_op op_a_mod (ae_var 3) ae_int) (ae_var 2))))) (as_one (as_ret (ae_tup (aa_cons (ae_popAt (ae_var 1) (aa_cons ae_int aa_nil)) (aa_cons ae_non aa_nil))))) as_nil)
    (as_cons (as_set 5 sc_law_made_two.nd (ae_callB (cal_max2 rfl) T.max PyProof.Rows.boot_max (aa_cons ae_int (aa_cons (ae_op op_a_sub (ae_callB cal_len T.len PySem.boot_len (aa_cons (ae_var 1) aa_nil)) (ae_op op_a_sub (ae_op op_a_sub (ae_var 4) (ae_var 3)) ae_int)) aa_nil))))
    (as_cons (as_set 6 sc_law_made_two.nd (ae_callB (cal_min2 rfl) T.min PyProof.Rows.boot_min (aa_cons ae_int (aa_cons (ae_callB cal_len T.len PySem.boot_len (aa_cons (ae_var 1) aa_nil)) aa_nil))))
    (as_cons (as_set 7 sc_law_made_two.nd (ae_lst aa_nil))
    (as_cons (as_for PassesOwn.never rfl (ai_range1 T.range (aa_cons (ae_op op_a_add (ae_var 5) (ae_op op_a_mod (ae_call C_law_next hr (aa_cons (ae_var 0) aa_nil)) (ae_op op_a_add (ae_op op_a_sub (ae_var 6) (ae_var 5)) ae_int))) aa_nil)) (ag_name 8 sc_law_made_two.nd) (as_one (as_expr (ae_append (ae_var 7) (aa_cons (ae_popAt (ae_var 1) (aa_cons (ae_op op_a_mod (ae_call C_law_next hr (aa_cons (ae_var 0) aa_nil)) (ae_callB cal_len T.len PySem.boot_len (aa_cons (ae_var 1) aa_nil))) aa_nil)) aa_nil)))))
    (as_cons (as_set 7 sc_law_made_two.nd (ae_op op_a_add (ae_callB cal_sorted T.sorted PyProof.Rows.boot_sorted (aa_cons (ae_var 7) aa_nil)) (ae_lst (aa_cons ae_non (aa_cons ae_non aa_nil)))))
    (as_one (as_ret (ae_tup (aa_cons (ae_ix (ae_var 7) ae_int) (aa_cons (ae_ix (ae_var 7) ae_int) aa_nil))))))))))))
theorem sc_law_made_one : FnScope ["_law_drawn", "_law_left", "_law_turn", "_law_cells", "_law_many", "_law_place", "_law_can", "_law_keep"] ["_law_drawn", "_law_left", "_law_turn", "_law_cells", "_law_many"] (defScope sLawMadeOne) := ⟨rfl, rfl, rfl, by decide +kernel, rfl, by decide +kernel, by decide +kernel⟩
theorem d_law_made_one {cdv : Value} {A : Around} {outer : List Env} {s : Shared} {H : Hp} {E : XK} {f : Addr} (T : Txt mg) (C_law_next : Cal P w K mg base 1 "_law_next" ["_law_drawn"] sp_law_next) (hr : Room 1 (A.deeper (envOfC "_law_made_one" (defScope sLawMadeOne) s.heap.objs.size f cdv))) :
    PSs (cxOf CX0 P w K mg base ["_law_drawn", "_law_left", "_law_turn", "_law_cells", "_law_many", "_law_place", "_law_can", "_law_keep"] "_law_made_one" (defScope sLawMadeOne) f cdv A outer s H E).nox (defBody sLawMadeOne) (lowS a_law_made_one) :=
  (as_cons (as_set 5 sc_law_made_one.nd (ae_callB cal_len T.len PySem.boot_len (aa_cons (ae_var 3) aa_nil)))
    (as_cons (as_if (at_cmp (op_a_eq hr) (ae_var 1) (ae_lst aa_nil)) (as_one (as_ret (ae_tup (aa_cons ae_non (aa_cons ae_non aa_nil))))) as_nil)
    (as_cons (as_set 6 sc_law_made_one.nd (ae_and (ae_cmp op_a_gt (ae_var 5) ae_int) (ae_and (ae_cmp op_a_notN (ae_ix (ae_ix (ae_var 3) ae_neg) ae_int) ae_non) (ae_and (ae_cmp (op_a_lt hr) (ae_callB cal_len T.len PySem.boot_len (aa_cons (ae_var 1) aa_nil)) (ae_op op_a_sub (ae_var 4) (ae_var 5))) (ae_one (ae_or (ae_cmp (op_a_eq hr) (ae_var 2) ae_int) (ae_one (ae_cmp op_a_gt (ae_var 5) ae_int))))))))
    (as_cons (as_if (aw_pt (aw_and (at_val (ae_var 6)) (aw_and1 (at_cmp (op_a_eq hr) (ae_op op_a_mod (ae_call C_law_next hr (aa_cons (ae_var 0) aa_nil)) ae_int) ae_int)))) (as_one (as_ret (ae_tup (aa_cons ae_non (aa_cons ae_non aa_nil))))) as_nil)
    (as_cons (as_set 7 sc_law_made_one.nd (ae_popAt (ae_var 1) (aa_cons ae_int aa_nil)))
    (as_cons (as_if (aw_pt (aw_and (at_cmp (op_a_ne hr) (ae_var 1) (ae_lst aa_nil)) (aw_and (aw_pt (aw_or (at_cmp (op_a_eq hr) (ae_var 2) ae_int) (aw_or1 (at_cmp op_a_gt (ae_var 5) ae_int)))) (aw_and1 (at_cmp (op_a_eq hr) (ae_op op_a_mod (ae_call C_law_next hr (aa_cons (ae_var 0) aa_nil)) ae_int) ae_int))))) (as_one (as_ret (ae_tup (aa_cons (ae_var 7) (aa_cons (ae_popAt (ae_var 1) (aa_cons (ae_op op_a_mod (ae_call C_law_next hr (aa_cons (ae_var 0) aa_nil)) (ae_callB cal_len T.len PySem.boot_len (aa_cons (ae_var 1) aa_nil))) aa_nil)) aa_nil))))) as_nil)
    (as_one (as_ret (ae_tup (aa_cons (ae_var 7) (aa_cons ae_non aa_nil)))))))))))
theorem sc_law_made_stand : FnScope ["_law_drawn", "_law_kind", "_law_many", "_law_turn", "_law_share", "_law_few", "_law_left", "_law_came", "_law_cells", "_law_place"] ["_law_drawn", "_law_kind", "_law_many"] (defScope sLawMadeStand) := ⟨rfl, rfl, rfl, by decide +kernel, rfl, by decide +kernel, by decide +kernel⟩
theorem d_law_made_stand {cdv : Value} {A : Around} {outer : List Env} {s : Shared} {H : Hp} {E : XK} {f : Addr} (T : Txt mg) (C_law_made_one : Cal P w K mg base 2 "_law_made_one" ["_law_drawn", "_law_left", "_law_turn", "_law_cells", "_law_many"] sp_law_made_one) (C_law_made_two : Cal P w K mg base 2 "_law_made_two" ["_law_drawn", "_law_left", "_law_turn", "_law_place", "_law_many"] sp_law_made_two) (C_law_made_things : Cal P w K mg base 3 "_law_made_things" ["_law_drawn", "_law_many"] sp_law_made_things) (C_law_next : Cal P w K mg base 1 "_law_next" ["_law_drawn"] sp_law_next) (hr : Room 3 (A.deeper (envOfC "_law_made_stand" (defScope sLawMadeStand) s.heap.objs.size f cdv))) :
    PSs (cxOf CX0 P w K mg base ["_law_drawn", "_law_kind", "_law_many", "_law_turn", "_law_share", "_law_few", "_law_left", "_law_came", "_law_cells", "_law_place"] "_law_made_stand" (defScope sLawMadeStand) f cdv A outer s H E).nox (defBody sLawMadeStand) (lowS a_law_made_stand) :=
  (as_cons (as_set 3 sc_law_made_stand.nd (ae_op op_a_mod (ae_call C_law_next hr (aa_cons (ae_var 0) aa_nil)) ae_int))
    (as_cons (as_set 4 sc_law_made_stand.nd (ae_op op_a_mod (ae_call C_law_next hr (aa_cons (ae_var 0) aa_nil)) ae_int))
    (as_cons (as_set 5 sc_law_made_stand.nd (ae_op op_a_mod (ae_call C_law_next hr (aa_cons (ae_var 0) aa_nil)) (ae_op op_a_add (ae_var 2) ae_int)))
    (as_cons (as_asg (ae_call C_law_made_things hr (aa_cons (ae_var 0) (aa_cons (ae_ix (ae_lst (aa_cons (ae_var 2) (aa_cons (ae_var 5) (aa_cons (ae_var 5) (aa_cons (ae_op op_a_fdiv (ae_op op_a_add (ae_var 2) ae_int) ae_int) aa_nil))))) (ae_var 4)) aa_nil))) (ag_tup (n := 2) rfl (ags_cons (ag_name 6 sc_law_made_stand.nd) (ags_cons (ag_name 7 sc_law_made_stand.nd) ags_nil))))
    (as_cons (as_set 8 sc_law_made_stand.nd (ae_lst aa_nil))
    (as_cons (as_for PassesOwn.never rfl (ai_range1 T.range (aa_cons (ae_var 2) aa_nil)) (ag_name 9 sc_law_made_stand.nd) (as_one (as_if (at_cmp (op_a_eq hr) (ae_var 1) ae_str) (as_one (as_expr (ae_append (ae_var 8) (aa_cons (ae_call C_law_made_one hr (aa_cons (ae_var 0) (aa_cons (ae_var 6) (aa_cons (ae_var 3) (aa_cons (ae_var 8) (aa_cons (ae_var 2) aa_nil)))))) aa_nil)))) (as_one (as_expr (ae_append (ae_var 8) (aa_cons (ae_call C_law_made_two hr (aa_cons (ae_var 0) (aa_cons (ae_var 6) (aa_cons (ae_var 3) (aa_cons (ae_var 9) (aa_cons (ae_var 2) aa_nil)))))) aa_nil)))))))
    (as_one (as_ret (ae_tup (aa_cons (ae_var 1) (aa_cons (ae_var 3) (aa_cons (ae_var 7) (aa_cons (ae_callTy cal_tuple T.tuple PyProof.Rows.boot_tuple (aa_cons (ae_var 8) aa_nil)) aa_nil)))))))))))))
theorem sc_law_laid : FnScope ["_law_kind", "_law_turn", "_law_came", "_law_places", "_law_at", "_law_cells"] ["_law_kind", "_law_turn", "_law_came", "_law_places"] (defScope sLawLaid) := ⟨rfl, rfl, rfl, by decide +kernel, rfl, by decide +kernel, by decide +kernel⟩
theorem d_law_laid {cdv : Value} {A : Around} {outer : List Env} {s : Shared} {H : Hp} {E : XK} {f : Addr} (T : Txt mg)  (hr : Room 0 (A.deeper (envOfC "_law_laid" (defScope sLawLaid) s.heap.objs.size f cdv))) :
    PSs (cxOf CX0 P w K mg base ["_law_kind", "_law_turn", "_law_came", "_law_places", "_law_at", "_law_cells"] "_law_laid" (defScope sLawLaid) f cdv A outer s H E).nox (defBody sLawLaid) (lowS a_law_laid) :=
  (as_cons (as_setLc 5 4 rfl sc_law_laid.nd rfl rfl (sw_true rfl rfl rfl (by decide +kernel)) (ai_range3 T.range (aa_cons ae_int (aa_cons (ae_callB cal_len T.len PySem.boot_len (aa_cons (ae_var 3) aa_nil)) (aa_cons ae_int aa_nil)))) (blkOk_by (N := ["_law_kind", "_law_turn", "_law_came", "_law_places", "_law_at", "_law_cells"]) (sc := (defScope sLawLaid)) (own := [("_law_at", 4)]) (by decide +kernel)) (fun _ _ _ _ _ => pg_name (i := 4) sc_law_laid.nd rfl (Or.inl rfl)) (fun _ _ _ _ _ => apts_nil) (fun _ _ _ _ _ => (ae_tup (aa_cons (ae_ix (ae_var 3) (ae_var 4)) (aa_cons (ae_ix (ae_var 3) (ae_op op_a_add (ae_var 4) ae_int)) aa_nil)))))
    (as_one (as_ret (ae_tup (aa_cons (ae_var 0) (aa_cons (ae_var 1) (aa_cons (ae_var 2) (aa_cons (ae_callTy cal_tuple T.tuple PyProof.Rows.boot_tuple (aa_cons (ae_var 5) aa_nil)) aa_nil))))))))
theorem sc_law_strewn : FnScope ["_law_drawn", "_law_kind", "_law_many", "_law_turn", "_law_things", "_law_came", "_law_places", "_law_thing", "_law_at", "_law_free"] ["_law_drawn", "_law_kind", "_law_many"] (defScope sLawStrewn) := ⟨rfl, rfl, rfl, by decide +kernel, rfl, by decide +kernel, by decide +kernel⟩
theorem d_law_strewn {cdv : Value} {A : Around} {outer : List Env} {s : Shared} {H : Hp} {E : XK} {f : Addr} (T : Txt mg) (C_law_laid : Cal P w K mg base 1 "_law_laid" ["_law_kind", "_law_turn", "_law_came", "_law_places"] sp_law_laid) (C_law_next : Cal P w K mg base 1 "_law_next" ["_law_drawn"] sp_law_next) (C_law_made_things : Cal P w K mg base 3 "_law_made_things" ["_law_drawn", "_law_many"] sp_law_made_things) (hr : Room 3 (A.deeper (envOfC "_law_strewn" (defScope sLawStrewn) s.heap.objs.size f cdv))) :
    PSs (cxOf CX0 P w K mg base ["_law_drawn", "_law_kind", "_law_many", "_law_turn", "_law_things", "_law_came", "_law_places", "_law_thing", "_law_at", "_law_free"] "_law_strewn" (defScope sLawStrewn) f cdv A outer s H E).nox (defBody sLawStrewn) (lowS a_law_strewn) :=
  (as_cons (as_set 3 sc_law_strewn.nd (ae_op op_a_mod (ae_call C_law_next hr (aa_cons (ae_var 0) aa_nil)) ae_int))
    (as_cons (as_asg (ae_call C_law_made_things hr (aa_cons (ae_var 0) (aa_cons (ae_op op_a_mod (ae_call C_law_next hr (aa_cons (ae_var 0) aa_nil)) (ae_op op_a_add (ae_var 2) ae_int)) aa_nil))) (ag_tup (n := 2) rfl (ags_cons (ag_name 4 sc_law_strewn.nd) (ags_cons (ag_name 5 sc_law_strewn.nd) ags_nil))))
    (as_cons (as_set 6 sc_law_strewn.nd (ae_op op_a_mulA (ae_lst (aa_cons ae_non aa_nil)) (ae_op op_a_mulA ae_int (ae_var 2))))
    (as_cons (as_for PassesOwn.never rfl (ai_seq (ae_slice (ae_var 4) ao_none (ao_some (ae_op op_a_mulA ae_int (ae_var 2))))) (ag_name 7 sc_law_strewn.nd) (as_cons (as_setLc 9 8 rfl sc_law_strewn.nd rfl rfl (sw_true rfl rfl rfl (by decide +kernel)) (ai_range1 T.range (aa_cons (ae_op op_a_mulA ae_int (ae_var 2)) aa_nil)) (blkOk_by (N := ["_law_drawn", "_law_kind", "_law_many", "_law_turn", "_law_things", "_law_came", "_law_places", "_law_thing", "_law_at", "_law_free"]) (sc := (defScope sLawStrewn)) (own := [("_law_at", 8)]) (by decide +kernel)) (fun _ _ _ _ _ => pg_name (i := 8) sc_law_strewn.nd rfl (Or.inl rfl)) (fun _ _ _ _ _ => (apts_one (at_cmp op_a_isN (ae_ix (ae_var 6) (ae_var 8)) ae_non))) (fun _ _ _ _ _ => (ae_var 8)))
    (as_one (as_asg (ae_var 7) (ag_sub (ae_var 6) (ae_ix (ae_var 9) (ae_op op_a_mod (ae_call C_law_next hr (aa_cons (ae_var 0) aa_nil)) (ae_callB cal_len T.len PySem.boot_len (aa_cons (ae_var 9) aa_nil)))))))))
    (as_one (as_ret (ae_call C_law_laid hr (aa_cons (ae_var 1) (aa_cons (ae_var 3) (aa_cons (ae_var 5) (aa_cons (ae_var 6) aa_nil)))))))))))
theorem sc_law_bent : FnScope ["_law_drawn", "_law_stand", "_law_kind", "_law_turn", "_law_came", "_law_cells", "_law_way", "_law_places", "_law_cell", "_law_one", "_law_other"] ["_law_drawn", "_law_stand"] (defScope sLawBent) := ⟨rfl, rfl, rfl, by decide +kernel, rfl, by decide +kernel, by decide +kernel⟩
theorem d_law_bent {cdv : Value} {A : Around} {outer : List Env} {s : Shared} {H : Hp} {E : XK} {f : Addr} (T : Txt mg) (C_law_laid : Cal P w K mg base 1 "_law_laid" ["_law_kind", "_law_turn", "_law_came", "_law_places"] sp_law_laid) (C_law_next : Cal P w K mg base 1 "_law_next" ["_law_drawn"] sp_law_next) (C_law_number : Cal P w K mg base 2 "_law_number" ["_law_drawn", "_law_sort"] sp_law_number) (hr : Room 2 (A.deeper (envOfC "_law_bent" (defScope sLawBent) s.heap.objs.size f cdv))) :
    PSs (cxOf CX0 P w K mg base ["_law_drawn", "_law_stand", "_law_kind", "_law_turn", "_law_came", "_law_cells", "_law_way", "_law_places", "_law_cell", "_law_one", "_law_other"] "_law_bent" (defScope sLawBent) f cdv A outer s H E).nox (defBody sLawBent) (lowS a_law_bent) :=
  (as_cons (as_asg (ae_var 1) (ag_tup (n := 4) rfl (ags_cons (ag_name 2 sc_law_bent.nd) (ags_cons (ag_name 3 sc_law_bent.nd) (ags_cons (ag_name 4 sc_law_bent.nd) (ags_cons (ag_name 5 sc_law_bent.nd) ags_nil))))))
    (as_cons (as_set 6 sc_law_bent.nd (ae_op op_a_mod (ae_call C_law_next hr (aa_cons (ae_var 0) aa_nil)) ae_int))
    (as_cons (as_set 7 sc_law_bent.nd (ae_lst aa_nil))
    (as_cons (as_for PassesOwn.never rfl (ai_seq (ae_var 5)) (ag_name 8 sc_law_bent.nd) (as_one (as_set 7 sc_law_bent.nd (ae_op op_a_add (ae_var 7) (ae_callTy cal_list T.list PyProof.Rows.boot_list (aa_cons (ae_var 8) aa_nil))))))
    (as_cons (as_set 9 sc_law_bent.nd (ae_op op_a_mod (ae_call C_law_next hr (aa_cons (ae_var 0) aa_nil)) (ae_callB cal_len T.len PySem.boot_len (aa_cons (ae_var 7) aa_nil))))
    (as_cons (as_set 10 sc_law_bent.nd (ae_op op_a_mod (ae_call C_law_next hr (aa_cons (ae_var 0) aa_nil)) (ae_callB cal_len T.len PySem.boot_len (aa_cons (ae_var 7) aa_nil))))
    (as_cons (as_if (at_cmp (op_a_eq hr) (ae_var 6) ae_int) (as_one (as_ret (ae_tup (aa_cons (ae_var 2) (aa_cons (ae_op op_a_sub ae_int (ae_var 3)) (aa_cons (ae_var 4) (aa_cons (ae_var 5) aa_nil))))))) as_nil)
    (as_cons (as_if (at_cmp (op_a_eq hr) (ae_var 6) ae_int) (as_one (as_ret (ae_tup (aa_cons (ae_ix (ae_lst (aa_cons ae_str (aa_cons ae_str aa_nil))) (ae_callTy cal_int T.int PyProof.Rows.boot_int (aa_cons (ae_cmp (op_a_eq hr) (ae_var 2) ae_str) aa_nil))) (aa_cons (ae_var 3) (aa_cons (ae_var 4) (aa_cons (ae_var 5) aa_nil))))))) as_nil)
    (as_cons (as_if (at_cmp (op_a_eq hr) (ae_var 6) ae_int) (as_one (as_asg ae_non (ag_sub (ae_var 7) (ae_var 9)))) as_nil)
    (as_cons (as_if (aw_pt (aw_and (at_cmp op_a_gt (ae_var 6) ae_int) (aw_and1 (at_cmp (op_a_lt hr) (ae_var 6) ae_int)))) (as_cons (as_set 10 sc_law_bent.nd (ae_ix (ae_lst (aa_cons (ae_op op_a_sub (ae_op op_a_add (ae_op op_a_mulA (ae_op op_a_fdiv (ae_var 9) ae_int) ae_int) ae_int) (ae_op op_a_mod (ae_var 9) ae_int)) (aa_cons (ae_var 10) (aa_cons (ae_op op_a_mod (ae_op op_a_add (ae_var 9) ae_int) (ae_callB cal_len T.len PySem.boot_len (aa_cons (ae_var 7) aa_nil))) aa_nil)))) (ae_op op_a_sub (ae_var 6) ae_int)))
    (as_one (as_asg (ae_tup (aa_cons (ae_ix (ae_var 7) (ae_var 10)) (aa_cons (ae_ix (ae_var 7) (ae_var 9)) aa_nil))) (ag_tup (n := 2) rfl (ags_cons (ag_sub (ae_var 7) (ae_var 9)) (ags_cons (ag_sub (ae_var 7) (ae_var 10)) ags_nil)))))) as_nil)
    (as_cons (as_if (at_cmp op_a_gt (ae_var 6) ae_int) (as_one (as_asg (ae_tup (aa_cons (ae_call C_law_number hr (aa_cons (ae_var 0) (aa_cons (ae_call C_law_next hr (aa_cons (ae_var 0) aa_nil)) aa_nil))) (aa_cons (ae_var 4) aa_nil))) (ag_sub (ae_var 7) (ae_var 9)))) as_nil)
    (as_one (as_ret (ae_call C_law_laid hr (aa_cons (ae_var 2) (aa_cons (ae_var 3) (aa_cons (ae_op op_a_add (ae_var 4) (ae_callTy cal_int T.int PyProof.Rows.boot_int (aa_cons (ae_cmp op_a_gt (ae_var 6) ae_int) aa_nil))) (aa_cons (ae_var 7) aa_nil))))))))))))))))))
theorem sc_law_entries : FnScope ["_law_cells", "_law_found", "_law_place"] ["_law_cells"] (defScope sLawEntries) := ⟨rfl, rfl, rfl, by decide +kernel, rfl, by decide +kernel, by decide +kernel⟩
theorem d_law_entries {cdv : Value} {A : Around} {outer : List Env} {s : Shared} {H : Hp} {E : XK} {f : Addr} (T : Txt mg) (C_law_in_cells : Cal P w K mg base 1 "_law_in_cells" ["_law_cells"] sp_law_in_cells) (C_law_least_beyond : Cal P w K mg base 2 "_law_least_beyond" ["_law_cells", "_law_place"] sp_law_least_beyond) (hr : Room 2 (A.deeper (envOfC "_law_entries" (defScope sLawEntries) s.heap.objs.size f cdv))) :
    PSs (cxOf CX0 P w K mg base ["_law_cells", "_law_found", "_law_place"] "_law_entries" (defScope sLawEntries) f cdv A outer s H E).nox (defBody sLawEntries) (lowS a_law_entries) :=
  (as_cons (as_set 1 sc_law_entries.nd (ae_lst aa_nil))
    (as_cons (as_for PassesOwn.never rfl (ai_range1 T.range (aa_cons (ae_callB cal_len T.len PySem.boot_len (aa_cons (ae_var 0) aa_nil)) aa_nil)) (ag_name 2 sc_law_entries.nd) (as_one (as_expr (ae_append (ae_var 1) (aa_cons (ae_tup (aa_cons (ae_call C_law_least_beyond hr (aa_cons (ae_var 0) (aa_cons (ae_var 2) aa_nil))) (aa_cons (ae_callB cal_len T.len PySem.boot_len (aa_cons (ae_call C_law_in_cells hr (aa_cons (ae_slice (ae_var 0) (ao_some (ae_var 2)) ao_none) aa_nil)) aa_nil)) aa_nil))) aa_nil)))))
    (as_one (as_ret (ae_callTy cal_tuple T.tuple PyProof.Rows.boot_tuple (aa_cons (ae_var 1) aa_nil))))))
theorem sc_law_asked : FnScope ["_law_drawn", "_law_stand", "_law_numbers", "_law_way", "_law_number_here", "_law_ask"] ["_law_drawn", "_law_stand", "_law_numbers"] (defScope sLawAsked) := ⟨rfl, rfl, rfl, by decide +kernel, rfl, by decide +kernel, by decide +kernel⟩
theorem d_law_asked {cdv : Value} {A : Around} {outer : List Env} {s : Shared} {H : Hp} {E : XK} {f : Addr} (T : Txt mg) (C_law_too_soon : Cal P w K mg base 1 "_law_too_soon" ["_law_stand", "_law_ask"] sp_law_too_soon) (C_law_number : Cal P w K mg base 2 "_law_number" ["_law_drawn", "_law_sort"] sp_law_number) (C_law_next : Cal P w K mg base 1 "_law_next" ["_law_drawn"] sp_law_next) (hr : Room 2 (A.deeper (envOfC "_law_asked" (defScope sLawAsked) s.heap.objs.size f cdv))) :
    PSs (cxOf CX0 P w K mg base ["_law_drawn", "_law_stand", "_law_numbers", "_law_way", "_law_number_here", "_law_ask"] "_law_asked" (defScope sLawAsked) f cdv A outer s H E).nox (defBody sLawAsked) (lowS a_law_asked) :=
  (as_cons (as_set 3 sc_law_asked.nd (ae_op op_a_mod (ae_call C_law_next hr (aa_cons (ae_var 0) aa_nil)) ae_int))
    (as_cons (as_set 4 sc_law_asked.nd (ae_call C_law_number hr (aa_cons (ae_var 0) (aa_cons (ae_var 2) aa_nil))))
    (as_cons (as_set 5 sc_law_asked.nd (ae_ix (ae_lst (aa_cons (ae_tup (aa_cons ae_str aa_nil)) (aa_cons (ae_tup (aa_cons ae_str aa_nil)) (aa_cons (ae_tup (aa_cons ae_str (aa_cons (ae_var 4) aa_nil))) (aa_cons (ae_tup (aa_cons ae_str (aa_cons (ae_var 4) aa_nil))) aa_nil))))) (ae_callB (cal_min2 rfl) T.min PyProof.Rows.boot_min (aa_cons (ae_var 3) (aa_cons ae_int aa_nil)))))
    (as_cons (as_if (at_val (ae_call C_law_too_soon hr (aa_cons (ae_var 1) (aa_cons (ae_var 5) aa_nil)))) (as_one (as_ret (ae_tup (aa_cons ae_str aa_nil)))) as_nil)
    (as_one (as_ret (ae_var 5)))))))
theorem sc_law_come_to : FnScope ["_law_drawn", "_law_kind", "_law_many", "_law_beats", "_law_numbers", "_law_found", "_law_turn"] ["_law_drawn", "_law_kind", "_law_many", "_law_beats"] (defScope sLawComeTo) := ⟨rfl, rfl, rfl, by decide +kernel, rfl, by decide +kernel, by decide +kernel⟩
theorem d_law_come_to {cdv : Value} {A : Around} {outer : List Env} {s : Shared} {H : Hp} {E : XK} {f : Addr} (T : Txt mg) (C_law_asked : Cal P w K mg base 3 "_law_asked" ["_law_drawn", "_law_stand", "_law_numbers"] sp_law_asked) (C_law_beat : Cal P w K mg base 3 "_law_beat" ["_law_stand", "_law_ask"] sp_law_beat) (C_law_empty : Cal P w K mg base 1 "_law_empty" ["_law_kind", "_law_many"] sp_law_empty) (C_law_next : Cal P w K mg base 1 "_law_next" ["_law_drawn"] sp_law_next) (hr : Room 3 (A.deeper (envOfC "_law_come_to" (defScope sLawComeTo) s.heap.objs.size f cdv))) :
    PSs (cxOf CX0 P w K mg base ["_law_drawn", "_law_kind", "_law_many", "_law_beats", "_law_numbers", "_law_found", "_law_turn"] "_law_come_to" (defScope sLawComeTo) f cdv A outer s H E).nox (defBody sLawComeTo) (lowS a_law_come_to) :=
  (as_cons (as_set 4 sc_law_come_to.nd (ae_call C_law_next hr (aa_cons (ae_var 0) aa_nil)))
    (as_cons (as_set 5 sc_law_come_to.nd (ae_lst (aa_cons (ae_call C_law_empty hr (aa_cons (ae_var 1) (aa_cons (ae_var 2) aa_nil))) aa_nil)))
    (as_cons (as_for PassesOwn.never rfl (ai_range1 T.range (aa_cons (ae_var 3) aa_nil)) (ag_name 6 sc_law_come_to.nd) (as_one (as_expr (ae_append (ae_var 5) (aa_cons (ae_ix (ae_call C_law_beat hr (aa_cons (ae_ix (ae_var 5) ae_neg) (aa_cons (ae_call C_law_asked hr (aa_cons (ae_var 0) (aa_cons (ae_ix (ae_var 5) ae_neg) (aa_cons (ae_var 4) aa_nil)))) aa_nil))) ae_int) aa_nil)))))
    (as_one (as_ret (ae_var 5))))))
theorem sc_law_like : FnScope ["_law_one", "_law_other", "_law_x", "_law_y"] ["_law_one", "_law_other"] (defScope sLawLike) := ⟨rfl, rfl, rfl, by decide +kernel, rfl, by decide +kernel, by decide +kernel⟩
theorem d_law_like {cdv : Value} {A : Around} {outer : List Env} {s : Shared} {H : Hp} {E : XK} {f : Addr} (T : Txt mg)  {k : Nat} {spr : ASp} (Cr : Cal P w K mg base k "_law_like" ["_law_one", "_law_other"] spr) (hr : Room k (A.deeper (envOfC "_law_like" (defScope sLawLike) s.heap.objs.size f cdv))) :
    PSs (cxOf CX0 P w K mg base ["_law_one", "_law_other", "_law_x", "_law_y"] "_law_like" (defScope sLawLike) f cdv A outer s H E).nox (defBody sLawLike) (lowS (a_law_like spr)) :=
  (as_cons (as_if (at_val (ae_callB cal_isTup T.isinstance PyProof.Rows.boot_isinstance (aa_cons (ae_var 1) (aa_cons (ae_ty T.tuple PyProof.Rows.boot_tuple) aa_nil)))) (as_cons (as_if (aw_pt (aw_or (at_not (at_val (ae_callB cal_isTup T.isinstance PyProof.Rows.boot_isinstance (aa_cons (ae_var 0) (aa_cons (ae_ty T.tuple PyProof.Rows.boot_tuple) aa_nil))))) (aw_or1 (at_cmp (op_a_ne hr) (ae_callB cal_len T.len PySem.boot_len (aa_cons (ae_var 0) aa_nil)) (ae_callB cal_len T.len PySem.boot_len (aa_cons (ae_var 1) aa_nil)))))) (as_one (as_ret ae_bl)) as_nil)
    (as_one (as_ret (ae_cmp (op_a_eq hr) (ae_lc2 2 3 rfl sc_law_like.nd (ai_zip T.zip (aa_cons (ae_var 0) (aa_cons (ae_var 1) aa_nil))) (blkOk_by (N := ["_law_one", "_law_other", "_law_x", "_law_y"]) (sc := (defScope sLawLike)) (own := [("_law_x", 2), ("_law_y", 3)]) (by decide +kernel)) (fun _ _ _ _ _ => pg_tup rfl (pgs_cons (pg_name (i := 2) sc_law_like.nd rfl (Or.inl rfl)) (pgs_cons (pg_name (i := 3) sc_law_like.nd rfl (Or.inl rfl)) pgs_nil))) (fun _ _ _ _ _ => (apts_one (at_not (at_val (ae_call (hk := Nat.le_refl _) Cr hr (aa_cons (ae_var 2) (aa_cons (ae_var 3) aa_nil))))))) (fun _ _ _ _ _ => ae_int)) (ae_lst aa_nil))))) as_nil)
    (as_cons (as_if (aw_pt (aw_or (at_cmp op_a_isN (ae_var 1) ae_non) (aw_or1 (at_val (ae_callB cal_isStr T.isinstance PyProof.Rows.boot_isinstance (aa_cons (ae_var 1) (aa_cons (ae_ty T.str PyProof.Rows.boot_str) aa_nil))))))) (as_one (as_ret (ae_cmp (op_a_eq hr) (ae_var 0) (ae_var 1)))) as_nil)
    (as_one (as_ret (ae_and (ae_callB cal_isInt T.isinstance PyProof.Rows.boot_isinstance (aa_cons (ae_var 0) (aa_cons (ae_ty T.int PyProof.Rows.boot_int) aa_nil))) (ae_and (ae_not (ae_callB cal_isBool T.isinstance PyProof.Rows.boot_isinstance (aa_cons (ae_var 0) (aa_cons (ae_ty T.bool PyProof.Rows.boot_bool) aa_nil)))) (ae_one (ae_cmp (op_a_eq hr) (ae_var 0) (ae_var 1)))))))))
theorem sc_law_all_stands : FnScope ["_law_drawn", "_law_kind", "_law_many", "_law_k", "_law_found", "_law_stand"] ["_law_drawn"] (defScope sLawAllStands) := ⟨rfl, rfl, rfl, by decide +kernel, rfl, by decide +kernel, by decide +kernel⟩
theorem d_law_all_stands {cdv : Value} {A : Around} {outer : List Env} {s : Shared} {H : Hp} {E : XK} {f : Addr} (T : Txt mg) (C_law_come_to : Cal P w K mg base 4 "_law_come_to" ["_law_drawn", "_law_kind", "_law_many", "_law_beats"] sp_law_come_to) (C_law_bent : Cal P w K mg base 3 "_law_bent" ["_law_drawn", "_law_stand"] sp_law_bent) (C_law_strewn : Cal P w K mg base 4 "_law_strewn" ["_law_drawn", "_law_kind", "_law_many"] sp_law_strewn) (C_law_made_stand : Cal P w K mg base 4 "_law_made_stand" ["_law_drawn", "_law_kind", "_law_many"] sp_law_made_stand) (C_law_empty : Cal P w K mg base 1 "_law_empty" ["_law_kind", "_law_many"] sp_law_empty) (C_law_next : Cal P w K mg base 1 "_law_next" ["_law_drawn"] sp_law_next) (hr : Room 4 (A.deeper (envOfC "_law_all_stands" (defScope sLawAllStands) s.heap.objs.size f cdv))) :
    PSs (cxOf CX0 P w K mg base ["_law_drawn", "_law_kind", "_law_many", "_law_k", "_law_found", "_law_stand"] "_law_all_stands" (defScope sLawAllStands) f cdv A outer s H E).nox (defBody sLawAllStands) (lowS a_law_all_stands) :=
  (as_cons (as_set 1 sc_law_all_stands.nd (ae_ix (ae_lst (aa_cons ae_str (aa_cons ae_str aa_nil))) (ae_op op_a_mod (ae_call C_law_next hr (aa_cons (ae_var 0) aa_nil)) ae_int)))
    (as_cons (as_set 2 sc_law_all_stands.nd (ae_op op_a_add ae_int (ae_op op_a_mod (ae_call C_law_next hr (aa_cons (ae_var 0) aa_nil)) (ae_ix (ae_lst (aa_cons ae_int (aa_cons ae_int (aa_cons ae_int (aa_cons ae_int aa_nil))))) (ae_op op_a_mod (ae_call C_law_next hr (aa_cons (ae_var 0) aa_nil)) ae_int)))))
    (as_cons (as_set 4 sc_law_all_stands.nd (ae_op op_a_add (ae_lc 3 rfl sc_law_all_stands.nd (ai_range1 T.range (aa_cons ae_int aa_nil)) (blkOk_by (N := ["_law_drawn", "_law_kind", "_law_many", "_law_k", "_law_found", "_law_stand"]) (sc := (defScope sLawAllStands)) (own := [("_law_k", 3)]) (by decide +kernel)) (fun _ _ _ _ _ => pg_name (i := 3) sc_law_all_stands.nd rfl (Or.inl rfl)) (fun _ _ _ _ _ => apts_nil) (fun _ _ _ _ _ => (ae_call C_law_made_stand hr (aa_cons (ae_var 0) (aa_cons (ae_var 1) (aa_cons (ae_var 2) aa_nil)))))) (ae_lst (aa_cons (ae_call C_law_empty hr (aa_cons (ae_var 1) (aa_cons (ae_var 2) aa_nil))) aa_nil))))
    (as_cons (as_set 4 sc_law_all_stands.nd (ae_op op_a_add (ae_op op_a_add (ae_var 4) (ae_lc 5 rfl sc_law_all_stands.nd (ai_seq (ae_var 4)) (blkOk_by (N := ["_law_drawn", "_law_kind", "_law_many", "_law_k", "_law_found", "_law_stand"]) (sc := (defScope sLawAllStands)) (own := [("_law_stand", 5)]) (by decide +kernel)) (fun _ _ _ _ _ => pg_name (i := 5) sc_law_all_stands.nd rfl (Or.inl rfl)) (fun _ _ _ _ _ => apts_nil) (fun _ _ _ _ _ => (ae_call C_law_bent hr (aa_cons (ae_var 0) (aa_cons (ae_var 5) aa_nil)))))) (ae_lst (aa_cons (ae_call C_law_strewn hr (aa_cons (ae_var 0) (aa_cons (ae_var 1) (aa_cons (ae_var 2) aa_nil)))) aa_nil))))
    (as_cons (as_expr (ae_append (ae_var 4) (aa_cons (ae_call C_law_bent hr (aa_cons (ae_var 0) (aa_cons (ae_ix (ae_var 4) ae_int) aa_nil))) aa_nil)))
    (as_one (as_ret (ae_op op_a_add (ae_var 4) (ae_stepL (ae_call C_law_come_to hr (aa_cons (ae_var 0) (aa_cons (ae_var 1) (aa_cons (ae_var 2) (aa_cons ae_int aa_nil))))))))))))))
theorem sc_law_seen : FnScope ["_law_stand", "_law_paper", "_law_kind", "_law_turn", "_law_came", "_law_cells", "_law_place", "_law_entry", "_law_is_first"] ["_law_stand", "_law_paper"] (defScope sLawSeen) := ⟨rfl, rfl, rfl, by decide +kernel, rfl, by decide +kernel, by decide +kernel⟩
theorem d_law_seen {cdv : Value} {A : Around} {outer : List Env} {s : Shared} {H : Hp} {E : XK} {f : Addr} (T : Txt mg)  (hr : Room 0 (A.deeper (envOfC "_law_seen" (defScope sLawSeen) s.heap.objs.size f cdv))) :
    PSs (cxOf CX0 P w K mg base ["_law_stand", "_law_paper", "_law_kind", "_law_turn", "_law_came", "_law_cells", "_law_place", "_law_entry", "_law_is_first"] "_law_seen" (defScope sLawSeen) f cdv A outer s H E).nox (defBody sLawSeen) (lowS a_law_seen) :=
  (as_cons (as_asg (ae_var 0) (ag_tup (n := 4) rfl (ags_cons (ag_name 2 sc_law_seen.nd) (ags_cons (ag_name 3 sc_law_seen.nd) (ags_cons (ag_name 4 sc_law_seen.nd) (ags_cons (ag_name 5 sc_law_seen.nd) ags_nil))))))
    (as_cons (as_for PassesOwn.never rfl (ai_enum T.enumerate (aa_cons (ae_var 1) aa_nil)) (ag_tup (n := 2) rfl (ags_cons (ag_name 6 sc_law_seen.nd) (ags_cons (ag_name 7 sc_law_seen.nd) ags_nil))) (as_cons (as_set 8 sc_law_seen.nd (ae_or (ae_cmp (op_a_eq hr) (ae_var 6) ae_int) (ae_one (ae_cmp (op_a_ne hr) (ae_op op_a_mod (ae_var 6) ae_int) (ae_var 3)))))
    (as_cons (as_if (at_cmp (op_a_eq hr) (ae_var 2) ae_str) (as_one (as_set 8 sc_law_seen.nd (ae_cmp op_a_notN (ae_ix (ae_ix (ae_var 5) (ae_var 6)) ae_int) ae_non))) as_nil)
    (as_cons (as_if (at_cmp op_a_gt (ae_ix (ae_var 7) ae_int) (ae_op op_a_sub (ae_callB cal_len T.len PySem.boot_len (aa_cons (ae_var 5) aa_nil)) (ae_var 6))) (as_one (as_ret ae_bl)) as_nil)
    (as_one (as_if (aw_pt (aw_and (at_val (ae_var 8)) (aw_and (at_cmp op_a_notN (ae_ix (ae_var 7) ae_int) ae_non) (aw_and1 (aw_pt (aw_or (at_cmp op_a_isN (ae_ix (ae_ix (ae_var 5) (ae_var 6)) ae_int) ae_non) (aw_or1 (at_not (at_cmp (op_a_lt hr) (ae_ix (ae_ix (ae_var 5) (ae_var 6)) ae_int) (ae_ix (ae_var 7) ae_int)))))))))) (as_one (as_ret ae_bl)) as_nil))))))
    (as_one (as_ret ae_bl))))
theorem sc_law_truth : FnScope ["_law_told", "_law_due"] ["_law_told", "_law_due"] (defScope sLawTruth) := ⟨rfl, rfl, rfl, by decide +kernel, rfl, by decide +kernel, by decide +kernel⟩
theorem d_law_truth {cdv : Value} {A : Around} {outer : List Env} {s : Shared} {H : Hp} {E : XK} {f : Addr} (T : Txt mg)  (hr : Room 0 (A.deeper (envOfC "_law_truth" (defScope sLawTruth) s.heap.objs.size f cdv))) :
    PSs (cxOf CX0 P w K mg base ["_law_told", "_law_due"] "_law_truth" (defScope sLawTruth) f cdv A outer s H E).nox (defBody sLawTruth) (lowS a_law_truth) :=
  (as_one (as_ret (ae_and (ae_callB cal_isBool T.isinstance PyProof.Rows.boot_isinstance (aa_cons (ae_var 0) (aa_cons (ae_ty T.bool PyProof.Rows.boot_bool) aa_nil))) (ae_one (ae_cmp (op_a_eq hr) (ae_var 0) (ae_var 1))))))
end
end LS
set_option Elab.async false
set_option linter.all false
set_option maxRecDepth 100000
set_option maxHeartbeats 4000000
namespace LS
open PySem PySem.Spec PyProof.Rows L2 LA LE
section
variable {P : Program} {w : World} {K : PySem.W.Frag} {mg : Str → Option Value} {base : Heap}
theorem c_is_number {f : Addr} {fd : FuncData} (F : FunD K "is_number" "is_number" (defArgs sIsNumber) (defBody sIsNumber) (defScope sIsNumber) [] [] f fd) (gm : mg "is_number" = some (.ref f)) (T : Txt mg)  : Cal P w K mg base 1 "is_number" ["thing", "most"] sp_is_number :=
  fn_A (a := a_is_number) F gm sc_is_number (fun _ _ _ _ _ _ us hl => match us, hl with | [_, _], _ => rfl) len_is_number (fun _ _ _ _ _ _ hr => d_is_number T  hr) r_is_number
theorem c_is_thing {f : Addr} {fd : FuncData} (F : FunD K "is_thing" "is_thing" (defArgs sIsThing) (defBody sIsThing) (defScope sIsThing) [] [] f fd) (gm : mg "is_thing" = some (.ref f)) (T : Txt mg) (C_is_number : Cal P w K mg base 1 "is_number" ["thing", "most"] sp_is_number) : Cal P w K mg base 2 "is_thing" ["thing"] sp_is_thing :=
  fn_A (a := a_is_thing) F gm sc_is_thing (fun _ _ _ _ _ _ us hl => match us, hl with | [_], _ => rfl) len_is_thing (fun _ _ _ _ _ _ hr => d_is_thing T C_is_number hr) r_is_thing
theorem c_comes_before {f : Addr} {fd : FuncData} (F : FunD K "comes_before" "comes_before" (defArgs sComesBefore) (defBody sComesBefore) (defScope sComesBefore) [] [] f fd) (gm : mg "comes_before" = some (.ref f)) (T : Txt mg)  : Cal P w K mg base 1 "comes_before" ["one", "other"] sp_comes_before :=
  fn_A (a := a_comes_before) F gm sc_comes_before (fun _ _ _ _ _ _ us hl => match us, hl with | [_, _], _ => rfl) len_comes_before (fun _ _ _ _ _ _ hr => d_comes_before T  hr) r_comes_before
theorem c_first_of {f : Addr} {fd : FuncData} (F : FunD K "first_of" "first_of" (defArgs sFirstOf) (defBody sFirstOf) (defScope sFirstOf) [] [] f fd) (gm : mg "first_of" = some (.ref f)) (T : Txt mg) (C_comes_before : Cal P w K mg base 1 "comes_before" ["one", "other"] sp_comes_before) : Cal P w K mg base 2 "first_of" ["things"] sp_first_of :=
  fn_A (a := a_first_of) F gm sc_first_of (fun _ _ _ _ _ _ us hl => match us, hl with | [_], _ => rfl) len_first_of (fun _ _ _ _ _ _ hr => d_first_of T C_comes_before hr) r_first_of
theorem c_things_of {f : Addr} {fd : FuncData} (F : FunD K "things_of" "things_of" (defArgs sThingsOf) (defBody sThingsOf) (defScope sThingsOf) [] [] f fd) (gm : mg "things_of" = some (.ref f)) (T : Txt mg)  : Cal P w K mg base 1 "things_of" ["cells"] sp_things_of :=
  fn_A (a := a_things_of) F gm sc_things_of (fun _ _ _ _ _ _ us hl => match us, hl with | [_], _ => rfl) len_things_of (fun _ _ _ _ _ _ hr => d_things_of T  hr) r_things_of
theorem c_comes_ahead {f : Addr} {fd : FuncData} (F : FunD K "comes_ahead" "comes_ahead" (defArgs sComesAhead) (defBody sComesAhead) (defScope sComesAhead) [] [] f fd) (gm : mg "comes_ahead" = some (.ref f)) (T : Txt mg) (C_comes_before : Cal P w K mg base 1 "comes_before" ["one", "other"] sp_comes_before) (C_first_of : Cal P w K mg base 2 "first_of" ["things"] sp_first_of) : Cal P w K mg base 3 "comes_ahead" ["keep", "others"] sp_comes_ahead :=
  fn_A (a := a_comes_ahead) F gm sc_comes_ahead (fun _ _ _ _ _ _ us hl => match us, hl with | [_, _], _ => rfl) len_comes_ahead (fun _ _ _ _ _ _ hr => d_comes_ahead T C_comes_before C_first_of hr) r_comes_ahead
theorem c_has_room {f : Addr} {fd : FuncData} (F : FunD K "has_room" "has_room" (defArgs sHasRoom) (defBody sHasRoom) (defScope sHasRoom) [] [] f fd) (gm : mg "has_room" = some (.ref f)) (T : Txt mg) (C_things_of : Cal P w K mg base 1 "things_of" ["cells"] sp_things_of) : Cal P w K mg base 2 "has_room" ["cells", "place"] sp_has_room :=
  fn_A (a := a_has_room) F gm sc_has_room (fun _ _ _ _ _ _ us hl => match us, hl with | [_, _], _ => rfl) len_has_room (fun _ _ _ _ _ _ hr => d_has_room T C_things_of hr) r_has_room
theorem c_hand_fits {f : Addr} {fd : FuncData} (F : FunD K "hand_fits" "hand_fits" (defArgs sHandFits) (defBody sHandFits) (defScope sHandFits) [] [] f fd) (gm : mg "hand_fits" = some (.ref f)) (T : Txt mg) (C_comes_before : Cal P w K mg base 1 "comes_before" ["one", "other"] sp_comes_before) : Cal P w K mg base 2 "hand_fits" ["cell"] sp_hand_fits :=
  fn_A (a := a_hand_fits) F gm sc_hand_fits (fun _ _ _ _ _ _ us hl => match us, hl with | [_], _ => rfl) len_hand_fits (fun _ _ _ _ _ _ hr => d_hand_fits T C_comes_before hr) r_hand_fits
theorem c_leads {f : Addr} {fd : FuncData} (F : FunD K "leads" "leads" (defArgs sLeads) (defBody sLeads) (defScope sLeads) [] [] f fd) (gm : mg "leads" = some (.ref f)) (T : Txt mg) (C_things_of : Cal P w K mg base 1 "things_of" ["cells"] sp_things_of) (C_comes_ahead : Cal P w K mg base 3 "comes_ahead" ["keep", "others"] sp_comes_ahead) : Cal P w K mg base 4 "leads" ["cells", "place"] sp_leads :=
  fn_A (a := a_leads) F gm sc_leads (fun _ _ _ _ _ _ us hl => match us, hl with | [_, _], _ => rfl) len_leads (fun _ _ _ _ _ _ hr => d_leads T C_things_of C_comes_ahead hr) r_leads
theorem c_fits_two {f : Addr} {fd : FuncData} (F : FunD K "fits_two" "fits_two" (defArgs sFitsTwo) (defBody sFitsTwo) (defScope sFitsTwo) [] [] f fd) (gm : mg "fits_two" = some (.ref f)) (T : Txt mg) (C_hand_fits : Cal P w K mg base 2 "hand_fits" ["cell"] sp_hand_fits) (C_leads : Cal P w K mg base 4 "leads" ["cells", "place"] sp_leads) : Cal P w K mg base 5 "fits_two" ["cells", "turn", "place"] sp_fits_two :=
  fn_A (a := a_fits_two) F gm sc_fits_two (fun _ _ _ _ _ _ us hl => match us, hl with | [_, _, _], _ => rfl) len_fits_two (fun _ _ _ _ _ _ hr => d_fits_two T C_hand_fits C_leads hr) r_fits_two
theorem c_hole_fits {f : Addr} {fd : FuncData} (F : FunD K "hole_fits" "hole_fits" (defArgs sHoleFits) (defBody sHoleFits) (defScope sHoleFits) [] [] f fd) (gm : mg "hole_fits" = some (.ref f)) (T : Txt mg) (C_things_of : Cal P w K mg base 1 "things_of" ["cells"] sp_things_of) : Cal P w K mg base 2 "hole_fits" ["cells", "place"] sp_hole_fits :=
  fn_A (a := a_hole_fits) F gm sc_hole_fits (fun _ _ _ _ _ _ us hl => match us, hl with | [_, _], _ => rfl) len_hole_fits (fun _ _ _ _ _ _ hr => d_hole_fits T C_things_of hr) r_hole_fits
theorem c_fits_one {f : Addr} {fd : FuncData} (F : FunD K "fits_one" "fits_one" (defArgs sFitsOne) (defBody sFitsOne) (defScope sFitsOne) [] [] f fd) (gm : mg "fits_one" = some (.ref f)) (T : Txt mg) (C_comes_ahead : Cal P w K mg base 3 "comes_ahead" ["keep", "others"] sp_comes_ahead) (C_hand_fits : Cal P w K mg base 2 "hand_fits" ["cell"] sp_hand_fits) (C_hole_fits : Cal P w K mg base 2 "hole_fits" ["cells", "place"] sp_hole_fits) (C_things_of : Cal P w K mg base 1 "things_of" ["cells"] sp_things_of) : Cal P w K mg base 4 "fits_one" ["cells", "turn", "place"] sp_fits_one :=
  fn_A (a := a_fits_one) F gm sc_fits_one (fun _ _ _ _ _ _ us hl => match us, hl with | [_, _, _], _ => rfl) len_fits_one (fun _ _ _ _ _ _ hr => d_fits_one T C_comes_ahead C_hand_fits C_hole_fits C_things_of hr) r_fits_one
theorem c_in_order {f : Addr} {fd : FuncData} (F : FunD K "in_order" "in_order" (defArgs sInOrder) (defBody sInOrder) (defScope sInOrder) [] [] f fd) (gm : mg "in_order" = some (.ref f)) (T : Txt mg) (C_fits_one : Cal P w K mg base 4 "fits_one" ["cells", "turn", "place"] sp_fits_one) (C_fits_two : Cal P w K mg base 5 "fits_two" ["cells", "turn", "place"] sp_fits_two) (C_has_room : Cal P w K mg base 2 "has_room" ["cells", "place"] sp_has_room) : Cal P w K mg base 6 "in_order" ["stand"] sp_in_order :=
  fn_A (a := a_in_order) F gm sc_in_order (fun _ _ _ _ _ _ us hl => match us, hl with | [_], _ => rfl) len_in_order (fun _ _ _ _ _ _ hr => d_in_order T C_fits_one C_fits_two C_has_room hr) r_in_order
theorem c_entries_of {f : Addr} {fd : FuncData} (F : FunD K "entries_of" "entries_of" (defArgs sEntriesOf) (defBody sEntriesOf) (defScope sEntriesOf) [] [] f fd) (gm : mg "entries_of" = some (.ref f)) (T : Txt mg) (C_first_of : Cal P w K mg base 2 "first_of" ["things"] sp_first_of) : Cal P w K mg base 3 "entries_of" ["cells"] sp_entries_of :=
  fn_A (a := a_entries_of) F gm sc_entries_of (fun _ _ _ _ _ _ us hl => match us, hl with | [_], _ => rfl) len_entries_of (fun _ _ _ _ _ _ hr => d_entries_of T C_first_of hr) r_entries_of
theorem c_is_entry {f : Addr} {fd : FuncData} (F : FunD K "is_entry" "is_entry" (defArgs sIsEntry) (defBody sIsEntry) (defScope sIsEntry) [] [] f fd) (gm : mg "is_entry" = some (.ref f)) (T : Txt mg) (C_is_thing : Cal P w K mg base 2 "is_thing" ["thing"] sp_is_thing) : Cal P w K mg base 3 "is_entry" ["thing"] sp_is_entry :=
  fn_A (a := a_is_entry) F gm sc_is_entry (fun _ _ _ _ _ _ us hl => match us, hl with | [_], _ => rfl) len_is_entry (fun _ _ _ _ _ _ hr => d_is_entry T C_is_thing hr) r_is_entry
theorem c_right_order {f : Addr} {fd : FuncData} (F : FunD K "right_order" "right_order" (defArgs sRightOrder) (defBody sRightOrder) (defScope sRightOrder) [] [] f fd) (gm : mg "right_order" = some (.ref f)) (T : Txt mg) (C_in_order : Cal P w K mg base 6 "in_order" ["stand"] sp_in_order) (C_entries_of : Cal P w K mg base 3 "entries_of" ["cells"] sp_entries_of) (C_is_entry : Cal P w K mg base 3 "is_entry" ["thing"] sp_is_entry) : Cal P w K mg base 7 "right_order" ["stand", "thing"] sp_right_order :=
  fn_A (a := a_right_order) F gm sc_right_order (fun _ _ _ _ _ _ us hl => match us, hl with | [_, _], _ => rfl) len_right_order (fun _ _ _ _ _ _ hr => d_right_order T C_in_order C_entries_of C_is_entry hr) r_right_order
theorem c_law_next {f : Addr} {fd : FuncData} (F : FunD K "_law_next" "_law_next" (defArgs sLawNext) (defBody sLawNext) (defScope sLawNext) [] [] f fd) (gm : mg "_law_next" = some (.ref f)) (T : Txt mg)  : Cal P w K mg base 1 "_law_next" ["_law_drawn"] sp_law_next :=
  fn_A (a := a_law_next) F gm sc_law_next (fun _ _ _ _ _ _ us hl => match us, hl with | [_], _ => rfl) len_law_next (fun _ _ _ _ _ _ hr => d_law_next T  hr) r_law_next
theorem c_law_number {f : Addr} {fd : FuncData} (F : FunD K "_law_number" "_law_number" (defArgs sLawNumber) (defBody sLawNumber) (defScope sLawNumber) [] [] f fd) (gm : mg "_law_number" = some (.ref f)) (T : Txt mg) (C_law_next : Cal P w K mg base 1 "_law_next" ["_law_drawn"] sp_law_next) : Cal P w K mg base 2 "_law_number" ["_law_drawn", "_law_sort"] sp_law_number :=
  fn_A (a := a_law_number) F gm sc_law_number (fun _ _ _ _ _ _ us hl => match us, hl with | [_, _], _ => rfl) len_law_number (fun _ _ _ _ _ _ hr => d_law_number T C_law_next hr) r_law_number
theorem c_law_in_cells {f : Addr} {fd : FuncData} (F : FunD K "_law_in_cells" "_law_in_cells" (defArgs sLawInCells) (defBody sLawInCells) (defScope sLawInCells) [] [] f fd) (gm : mg "_law_in_cells" = some (.ref f)) (T : Txt mg)  : Cal P w K mg base 1 "_law_in_cells" ["_law_cells"] sp_law_in_cells :=
  fn_A (a := a_law_in_cells) F gm sc_law_in_cells (fun _ _ _ _ _ _ us hl => match us, hl with | [_], _ => rfl) len_law_in_cells (fun _ _ _ _ _ _ hr => d_law_in_cells T  hr) r_law_in_cells
theorem c_law_three {f : Addr} {fd : FuncData} (F : FunD K "_law_three" "_law_three" (defArgs sLawThree) (defBody sLawThree) (defScope sLawThree) [] [] f fd) (gm : mg "_law_three" = some (.ref f)) (T : Txt mg)  : Cal P w K mg base 1 "_law_three" ["_law_things", "_law_many"] sp_law_three :=
  fn_A (a := a_law_three) F gm sc_law_three (fun _ _ _ _ _ _ us hl => match us, hl with | [_, _], _ => rfl) len_law_three (fun _ _ _ _ _ _ hr => d_law_three T  hr) r_law_three
theorem c_law_two_moved {f : Addr} {fd : FuncData} (F : FunD K "_law_two_moved" "_law_two_moved" (defArgs sLawTwoMoved) (defBody sLawTwoMoved) (defScope sLawTwoMoved) [] [] f fd) (gm : mg "_law_two_moved" = some (.ref f)) (T : Txt mg) (C_law_three : Cal P w K mg base 1 "_law_three" ["_law_things", "_law_many"] sp_law_three) : Cal P w K mg base 2 "_law_two_moved" ["_law_cells", "_law_turn", "_law_fallen"] sp_law_two_moved :=
  fn_A (a := a_law_two_moved) F gm sc_law_two_moved (fun _ _ _ _ _ _ us hl => match us, hl with | [_, _, _], _ => rfl) len_law_two_moved (fun _ _ _ _ _ _ hr => d_law_two_moved T C_law_three hr) r_law_two_moved
theorem c_law_one_moved {f : Addr} {fd : FuncData} (F : FunD K "_law_one_moved" "_law_one_moved" (defArgs sLawOneMoved) (defBody sLawOneMoved) (defScope sLawOneMoved) [] [] f fd) (gm : mg "_law_one_moved" = some (.ref f)) (T : Txt mg) (C_law_three : Cal P w K mg base 1 "_law_three" ["_law_things", "_law_many"] sp_law_three) : Cal P w K mg base 2 "_law_one_moved" ["_law_cells", "_law_hand", "_law_fallen"] sp_law_one_moved :=
  fn_A (a := a_law_one_moved) F gm sc_law_one_moved (fun _ _ _ _ _ _ us hl => match us, hl with | [_, _, _], _ => rfl) len_law_one_moved (fun _ _ _ _ _ _ hr => d_law_one_moved T C_law_three hr) r_law_one_moved
theorem c_law_too_soon {f : Addr} {fd : FuncData} (F : FunD K "_law_too_soon" "_law_too_soon" (defArgs sLawTooSoon) (defBody sLawTooSoon) (defScope sLawTooSoon) [] [] f fd) (gm : mg "_law_too_soon" = some (.ref f)) (T : Txt mg)  : Cal P w K mg base 1 "_law_too_soon" ["_law_stand", "_law_ask"] sp_law_too_soon :=
  fn_A (a := a_law_too_soon) F gm sc_law_too_soon (fun _ _ _ _ _ _ us hl => match us, hl with | [_, _], _ => rfl) len_law_too_soon (fun _ _ _ _ _ _ hr => d_law_too_soon T  hr) r_law_too_soon
theorem c_law_taken {f : Addr} {fd : FuncData} (F : FunD K "_law_taken" "_law_taken" (defArgs sLawTaken) (defBody sLawTaken) (defScope sLawTaken) [] [] f fd) (gm : mg "_law_taken" = some (.ref f)) (T : Txt mg) (C_law_in_cells : Cal P w K mg base 1 "_law_in_cells" ["_law_cells"] sp_law_in_cells) : Cal P w K mg base 2 "_law_taken" ["_law_stand"] sp_law_taken :=
  fn_A (a := a_law_taken) F gm sc_law_taken (fun _ _ _ _ _ _ us hl => match us, hl with | [_], _ => rfl) len_law_taken (fun _ _ _ _ _ _ hr => d_law_taken T C_law_in_cells hr) r_law_taken
theorem c_law_beat {f : Addr} {fd : FuncData} (F : FunD K "_law_beat" "_law_beat" (defArgs sLawBeat) (defBody sLawBeat) (defScope sLawBeat) [] [] f fd) (gm : mg "_law_beat" = some (.ref f)) (T : Txt mg) (C_law_two_moved : Cal P w K mg base 2 "_law_two_moved" ["_law_cells", "_law_turn", "_law_fallen"] sp_law_two_moved) (C_law_one_moved : Cal P w K mg base 2 "_law_one_moved" ["_law_cells", "_law_hand", "_law_fallen"] sp_law_one_moved) (C_law_in_cells : Cal P w K mg base 1 "_law_in_cells" ["_law_cells"] sp_law_in_cells) (C_law_taken : Cal P w K mg base 2 "_law_taken" ["_law_stand"] sp_law_taken) : Cal P w K mg base 3 "_law_beat" ["_law_stand", "_law_ask"] sp_law_beat :=
  fn_A (a := a_law_beat) F gm sc_law_beat (fun _ _ _ _ _ _ us hl => match us, hl with | [_, _], _ => rfl) len_law_beat (fun _ _ _ _ _ _ hr => d_law_beat T C_law_two_moved C_law_one_moved C_law_in_cells C_law_taken hr) r_law_beat
theorem c_law_empty {f : Addr} {fd : FuncData} (F : FunD K "_law_empty" "_law_empty" (defArgs sLawEmpty) (defBody sLawEmpty) (defScope sLawEmpty) [] [] f fd) (gm : mg "_law_empty" = some (.ref f)) (T : Txt mg)  : Cal P w K mg base 1 "_law_empty" ["_law_kind", "_law_many"] sp_law_empty :=
  fn_A (a := a_law_empty) F gm sc_law_empty (fun _ _ _ _ _ _ us hl => match us, hl with | [_, _], _ => rfl) len_law_empty (fun _ _ _ _ _ _ hr => d_law_empty T  hr) r_law_empty
theorem c_law_least_beyond {f : Addr} {fd : FuncData} (F : FunD K "_law_least_beyond" "_law_least_beyond" (defArgs sLawLeastBeyond) (defBody sLawLeastBeyond) (defScope sLawLeastBeyond) [] [] f fd) (gm : mg "_law_least_beyond" = some (.ref f)) (T : Txt mg) (C_law_in_cells : Cal P w K mg base 1 "_law_in_cells" ["_law_cells"] sp_law_in_cells) : Cal P w K mg base 2 "_law_least_beyond" ["_law_cells", "_law_place"] sp_law_least_beyond :=
  fn_A (a := a_law_least_beyond) F gm sc_law_least_beyond (fun _ _ _ _ _ _ us hl => match us, hl with | [_, _], _ => rfl) len_law_least_beyond (fun _ _ _ _ _ _ hr => d_law_least_beyond T C_law_in_cells hr) r_law_least_beyond
theorem c_law_leads {f : Addr} {fd : FuncData} (F : FunD K "_law_leads" "_law_leads" (defArgs sLawLeads) (defBody sLawLeads) (defScope sLawLeads) [] [] f fd) (gm : mg "_law_leads" = some (.ref f)) (T : Txt mg) (C_law_least_beyond : Cal P w K mg base 2 "_law_least_beyond" ["_law_cells", "_law_place"] sp_law_least_beyond) : Cal P w K mg base 3 "_law_leads" ["_law_cells", "_law_place"] sp_law_leads :=
  fn_A (a := a_law_leads) F gm sc_law_leads (fun _ _ _ _ _ _ us hl => match us, hl with | [_, _], _ => rfl) len_law_leads (fun _ _ _ _ _ _ hr => d_law_leads T C_law_least_beyond hr) r_law_leads
theorem c_law_in_order {f : Addr} {fd : FuncData} (F : FunD K "_law_in_order" "_law_in_order" (defArgs sLawInOrder) (defBody sLawInOrder) (defScope sLawInOrder) [] [] f fd) (gm : mg "_law_in_order" = some (.ref f)) (T : Txt mg) (C_law_one_cell : Cal P w K mg base 4 "_law_one_cell" ["_law_stand", "_law_place"] sp_law_one_cell) (C_law_leads : Cal P w K mg base 3 "_law_leads" ["_law_cells", "_law_place"] sp_law_leads) (C_law_in_cells : Cal P w K mg base 1 "_law_in_cells" ["_law_cells"] sp_law_in_cells) : Cal P w K mg base 5 "_law_in_order" ["_law_stand"] sp_law_in_order :=
  fn_A (a := a_law_in_order) F gm sc_law_in_order (fun _ _ _ _ _ _ us hl => match us, hl with | [_], _ => rfl) len_law_in_order (fun _ _ _ _ _ _ hr => d_law_in_order T C_law_one_cell C_law_leads C_law_in_cells hr) r_law_in_order
theorem c_law_one_cell {f : Addr} {fd : FuncData} (F : FunD K "_law_one_cell" "_law_one_cell" (defArgs sLawOneCell) (defBody sLawOneCell) (defScope sLawOneCell) [] [] f fd) (gm : mg "_law_one_cell" = some (.ref f)) (T : Txt mg) (C_law_leads : Cal P w K mg base 3 "_law_leads" ["_law_cells", "_law_place"] sp_law_leads) (C_law_in_cells : Cal P w K mg base 1 "_law_in_cells" ["_law_cells"] sp_law_in_cells) : Cal P w K mg base 4 "_law_one_cell" ["_law_stand", "_law_place"] sp_law_one_cell :=
  fn_A (a := a_law_one_cell) F gm sc_law_one_cell (fun _ _ _ _ _ _ us hl => match us, hl with | [_, _], _ => rfl) len_law_one_cell (fun _ _ _ _ _ _ hr => d_law_one_cell T C_law_leads C_law_in_cells hr) r_law_one_cell
theorem c_law_tickets {f : Addr} {fd : FuncData} (F : FunD K "_law_tickets" "_law_tickets" (defArgs sLawTickets) (defBody sLawTickets) (defScope sLawTickets) [] [] f fd) (gm : mg "_law_tickets" = some (.ref f)) (T : Txt mg) (C_law_next : Cal P w K mg base 1 "_law_next" ["_law_drawn"] sp_law_next) : Cal P w K mg base 2 "_law_tickets" ["_law_drawn", "_law_many"] sp_law_tickets :=
  fn_A (a := a_law_tickets) F gm sc_law_tickets (fun _ _ _ _ _ _ us hl => match us, hl with | [_, _], _ => rfl) len_law_tickets (fun _ _ _ _ _ _ hr => d_law_tickets T C_law_next hr) r_law_tickets
theorem c_law_made_things {f : Addr} {fd : FuncData} (F : FunD K "_law_made_things" "_law_made_things" (defArgs sLawMadeThings) (defBody sLawMadeThings) (defScope sLawMadeThings) [] [] f fd) (gm : mg "_law_made_things" = some (.ref f)) (T : Txt mg) (C_law_number : Cal P w K mg base 2 "_law_number" ["_law_drawn", "_law_sort"] sp_law_number) (C_law_tickets : Cal P w K mg base 2 "_law_tickets" ["_law_drawn", "_law_many"] sp_law_tickets) (C_law_next : Cal P w K mg base 1 "_law_next" ["_law_drawn"] sp_law_next) : Cal P w K mg base 3 "_law_made_things" ["_law_drawn", "_law_many"] sp_law_made_things :=
  fn_A (a := a_law_made_things) F gm sc_law_made_things (fun _ _ _ _ _ _ us hl => match us, hl with | [_, _], _ => rfl) len_law_made_things (fun _ _ _ _ _ _ hr => d_law_made_things T C_law_number C_law_tickets C_law_next hr) r_law_made_things
theorem c_law_made_two {f : Addr} {fd : FuncData} (F : FunD K "_law_made_two" "_law_made_two" (defArgs sLawMadeTwo) (defBody sLawMadeTwo) (defScope sLawMadeTwo) [] [] f fd) (gm : mg "_law_made_two" = some (.ref f)) (T : Txt mg) (C_law_next : Cal P w K mg base 1 "_law_next" ["_law_drawn"] sp_law_next) : Cal P w K mg base 2 "_law_made_two" ["_law_drawn", "_law_left", "_law_turn", "_law_place", "_law_many"] sp_law_made_two :=
  fn_A (a := a_law_made_two) F gm sc_law_made_two (fun _ _ _ _ _ _ us hl => match us, hl with | [_, _, _, _, _], _ => rfl) len_law_made_two (fun _ _ _ _ _ _ hr => d_law_made_two T C_law_next hr) r_law_made_two
theorem c_law_made_one {f : Addr} {fd : FuncData} (F : FunD K "_law_made_one" "_law_made_one" (defArgs sLawMadeOne) (defBody sLawMadeOne) (defScope sLawMadeOne) [] [] f fd) (gm : mg "_law_made_one" = some (.ref f)) (T : Txt mg) (C_law_next : Cal P w K mg base 1 "_law_next" ["_law_drawn"] sp_law_next) : Cal P w K mg base 2 "_law_made_one" ["_law_drawn", "_law_left", "_law_turn", "_law_cells", "_law_many"] sp_law_made_one :=
  fn_A (a := a_law_made_one) F gm sc_law_made_one (fun _ _ _ _ _ _ us hl => match us, hl with | [_, _, _, _, _], _ => rfl) len_law_made_one (fun _ _ _ _ _ _ hr => d_law_made_one T C_law_next hr) r_law_made_one
theorem c_law_made_stand {f : Addr} {fd : FuncData} (F : FunD K "_law_made_stand" "_law_made_stand" (defArgs sLawMadeStand) (defBody sLawMadeStand) (defScope sLawMadeStand) [] [] f fd) (gm : mg "_law_made_stand" = some (.ref f)) (T : Txt mg) (C_law_made_one : Cal P w K mg base 2 "_law_made_one" ["_law_drawn", "_law_left", "_law_turn", "_law_cells", "_law_many"] sp_law_made_one) (C_law_made_two : Cal P w K mg base 2 "_law_made_two" ["_law_drawn", "_law_left", "_law_turn", "_law_place", "_law_many"] sp_law_made_two) (C_law_made_things : Cal P w K mg base 3 "_law_made_things" ["_law_drawn", "_law_many"] sp_law_made_things) (C_law_next : Cal P w K mg base 1 "_law_next" ["_law_drawn"] sp_law_next) : Cal P w K mg base 4 "_law_made_stand" ["_law_drawn", "_law_kind", "_law_many"] sp_law_made_stand :=
  fn_A (a := a_law_made_stand) F gm sc_law_made_stand (fun _ _ _ _ _ _ us hl => match us, hl with | [_, _, _], _ => rfl) len_law_made_stand (fun _ _ _ _ _ _ hr => d_law_made_stand T C_law_made_one C_law_made_two C_law_made_things C_law_next hr) r_law_made_stand
theorem c_law_laid {f : Addr} {fd : FuncData} (F : FunD K "_law_laid" "_law_laid" (defArgs sLawLaid) (defBody sLawLaid) (defScope sLawLaid) [] [] f fd) (gm : mg "_law_laid" = some (.ref f)) (T : Txt mg)  : Cal P w K mg base 1 "_law_laid" ["_law_kind", "_law_turn", "_law_came", "_law_places"] sp_law_laid :=
  fn_A (a := a_law_laid) F gm sc_law_laid (fun _ _ _ _ _ _ us hl => match us, hl with | [_, _, _, _], _ => rfl) len_law_laid (fun _ _ _ _ _ _ hr => d_law_laid T  hr) r_law_laid
theorem c_law_strewn {f : Addr} {fd : FuncData} (F : FunD K "_law_strewn" "_law_strewn" (defArgs sLawStrewn) (defBody sLawStrewn) (defScope sLawStrewn) [] [] f fd) (gm : mg "_law_strewn" = some (.ref f)) (T : Txt mg) (C_law_laid : Cal P w K mg base 1 "_law_laid" ["_law_kind", "_law_turn", "_law_came", "_law_places"] sp_law_laid) (C_law_next : Cal P w K mg base 1 "_law_next" ["_law_drawn"] sp_law_next) (C_law_made_things : Cal P w K mg base 3 "_law_made_things" ["_law_drawn", "_law_many"] sp_law_made_things) : Cal P w K mg base 4 "_law_strewn" ["_law_drawn", "_law_kind", "_law_many"] sp_law_strewn :=
  fn_A (a := a_law_strewn) F gm sc_law_strewn (fun _ _ _ _ _ _ us hl => match us, hl with | [_, _, _], _ => rfl) len_law_strewn (fun _ _ _ _ _ _ hr => d_law_strewn T C_law_laid C_law_next C_law_made_things hr) r_law_strewn
theorem c_law_bent {f : Addr} {fd : FuncData} (F : FunD K "_law_bent" "_law_bent" (defArgs sLawBent) (defBody sLawBent) (defScope sLawBent) [] [] f fd) (gm : mg "_law_bent" = some (.ref f)) (T : Txt mg) (C_law_laid : Cal P w K mg base 1 "_law_laid" ["_law_kind", "_law_turn", "_law_came", "_law_places"] sp_law_laid) (C_law_next : Cal P w K mg base 1 "_law_next" ["_law_drawn"] sp_law_next) (C_law_number : Cal P w K mg base 2 "_law_number" ["_law_drawn", "_law_sort"] sp_law_number) : Cal P w K mg base 3 "_law_bent" ["_law_drawn", "_law_stand"] sp_law_bent :=
  fn_A (a := a_law_bent) F gm sc_law_bent (fun _ _ _ _ _ _ us hl => match us, hl with | [_, _], _ => rfl) len_law_bent (fun _ _ _ _ _ _ hr => d_law_bent T C_law_laid C_law_next C_law_number hr) r_law_bent
theorem c_law_entries {f : Addr} {fd : FuncData} (F : FunD K "_law_entries" "_law_entries" (defArgs sLawEntries) (defBody sLawEntries) (defScope sLawEntries) [] [] f fd) (gm : mg "_law_entries" = some (.ref f)) (T : Txt mg) (C_law_in_cells : Cal P w K mg base 1 "_law_in_cells" ["_law_cells"] sp_law_in_cells) (C_law_least_beyond : Cal P w K mg base 2 "_law_least_beyond" ["_law_cells", "_law_place"] sp_law_least_beyond) : Cal P w K mg base 3 "_law_entries" ["_law_cells"] sp_law_entries :=
  fn_A (a := a_law_entries) F gm sc_law_entries (fun _ _ _ _ _ _ us hl => match us, hl with | [_], _ => rfl) len_law_entries (fun _ _ _ _ _ _ hr => d_law_entries T C_law_in_cells C_law_least_beyond hr) r_law_entries
theorem c_law_asked {f : Addr} {fd : FuncData} (F : FunD K "_law_asked" "_law_asked" (defArgs sLawAsked) (defBody sLawAsked) (defScope sLawAsked) [] [] f fd) (gm : mg "_law_asked" = some (.ref f)) (T : Txt mg) (C_law_too_soon : Cal P w K mg base 1 "_law_too_soon" ["_law_stand", "_law_ask"] sp_law_too_soon) (C_law_number : Cal P w K mg base 2 "_law_number" ["_law_drawn", "_law_sort"] sp_law_number) (C_law_next : Cal P w K mg base 1 "_law_next" ["_law_drawn"] sp_law_next) : Cal P w K mg base 3 "_law_asked" ["_law_drawn", "_law_stand", "_law_numbers"] sp_law_asked :=
  fn_A (a := a_law_asked) F gm sc_law_asked (fun _ _ _ _ _ _ us hl => match us, hl with | [_, _, _], _ => rfl) len_law_asked (fun _ _ _ _ _ _ hr => d_law_asked T C_law_too_soon C_law_number C_law_next hr) r_law_asked
theorem c_law_come_to {f : Addr} {fd : FuncData} (F : FunD K "_law_come_to" "_law_come_to" (defArgs sLawComeTo) (defBody sLawComeTo) (defScope sLawComeTo) [] [] f fd) (gm : mg "_law_come_to" = some (.ref f)) (T : Txt mg) (C_law_asked : Cal P w K mg base 3 "_law_asked" ["_law_drawn", "_law_stand", "_law_numbers"] sp_law_asked) (C_law_beat : Cal P w K mg base 3 "_law_beat" ["_law_stand", "_law_ask"] sp_law_beat) (C_law_empty : Cal P w K mg base 1 "_law_empty" ["_law_kind", "_law_many"] sp_law_empty) (C_law_next : Cal P w K mg base 1 "_law_next" ["_law_drawn"] sp_law_next) : Cal P w K mg base 4 "_law_come_to" ["_law_drawn", "_law_kind", "_law_many", "_law_beats"] sp_law_come_to :=
  fn_A (a := a_law_come_to) F gm sc_law_come_to (fun _ _ _ _ _ _ us hl => match us, hl with | [_, _, _, _], _ => rfl) len_law_come_to (fun _ _ _ _ _ _ hr => d_law_come_to T C_law_asked C_law_beat C_law_empty C_law_next hr) r_law_come_to
theorem c_law_all_stands {f : Addr} {fd : FuncData} (F : FunD K "_law_all_stands" "_law_all_stands" (defArgs sLawAllStands) (defBody sLawAllStands) (defScope sLawAllStands) [] [] f fd) (gm : mg "_law_all_stands" = some (.ref f)) (T : Txt mg) (C_law_come_to : Cal P w K mg base 4 "_law_come_to" ["_law_drawn", "_law_kind", "_law_many", "_law_beats"] sp_law_come_to) (C_law_bent : Cal P w K mg base 3 "_law_bent" ["_law_drawn", "_law_stand"] sp_law_bent) (C_law_strewn : Cal P w K mg base 4 "_law_strewn" ["_law_drawn", "_law_kind", "_law_many"] sp_law_strewn) (C_law_made_stand : Cal P w K mg base 4 "_law_made_stand" ["_law_drawn", "_law_kind", "_law_many"] sp_law_made_stand) (C_law_empty : Cal P w K mg base 1 "_law_empty" ["_law_kind", "_law_many"] sp_law_empty) (C_law_next : Cal P w K mg base 1 "_law_next" ["_law_drawn"] sp_law_next) : Cal P w K mg base 5 "_law_all_stands" ["_law_drawn"] sp_law_all_stands :=
  fn_A (a := a_law_all_stands) F gm sc_law_all_stands (fun _ _ _ _ _ _ us hl => match us, hl with | [_], _ => rfl) len_law_all_stands (fun _ _ _ _ _ _ hr => d_law_all_stands T C_law_come_to C_law_bent C_law_strewn C_law_made_stand C_law_empty C_law_next hr) r_law_all_stands
theorem c_law_seen {f : Addr} {fd : FuncData} (F : FunD K "_law_seen" "_law_seen" (defArgs sLawSeen) (defBody sLawSeen) (defScope sLawSeen) [] [] f fd) (gm : mg "_law_seen" = some (.ref f)) (T : Txt mg)  : Cal P w K mg base 1 "_law_seen" ["_law_stand", "_law_paper"] sp_law_seen :=
  fn_A (a := a_law_seen) F gm sc_law_seen (fun _ _ _ _ _ _ us hl => match us, hl with | [_, _], _ => rfl) len_law_seen (fun _ _ _ _ _ _ hr => d_law_seen T  hr) r_law_seen
theorem c_law_truth {f : Addr} {fd : FuncData} (F : FunD K "_law_truth" "_law_truth" (defArgs sLawTruth) (defBody sLawTruth) (defScope sLawTruth) [] [] f fd) (gm : mg "_law_truth" = some (.ref f)) (T : Txt mg)  : Cal P w K mg base 1 "_law_truth" ["_law_told", "_law_due"] sp_law_truth :=
  fn_A (a := a_law_truth) F gm sc_law_truth (fun _ _ _ _ _ _ us hl => match us, hl with | [_, _], _ => rfl) len_law_truth (fun _ _ _ _ _ _ hr => d_law_truth T  hr) r_law_truth
end
end LS
set_option Elab.async false
set_option linter.all false
set_option maxRecDepth 100000
set_option maxHeartbeats 4000000
namespace LS
open PySem PySem.Spec PyProof.Rows L2 LA LE
local macro_rules | `(tactic| walk_at "la") => `(tactic| try simp only [aSeq, aIfS, aTest, aOp, aVar, aC, aRet, aNext, aDropS, aAsg, aAnd, aOr, aNot, aAndV, aOrV, aNotV, aChain, aCons, aNil, aCall, aCB, aTup, aLst, aMt, mt_ref, aSl, oSl_pre, oSl_pre1, oSl_0, aPart, aNoP, agName, agC, agE, agT_tup, agT_cell, agT_ent, agT_stand, aEnds, astart,
  List.map_cons, List.map_nil, List.length_cons, List.length_nil, List.cons_append, List.nil_append, List.getElem?_cons_zero, List.getElem?_cons_succ, List.set_cons_zero, List.set_cons_succ, List.replicate_succ, List.replicate_zero, Nat.reduceAdd, Nat.reduceSub, Nat.reduceLeDiff, Nat.zero_le, somex, somexx, blx, intx, tupx,
  at0, at1, at2, at3, oEq_ii, oEq_bb, oNe_ii, oNe_bb, oEq_one, oEq_two, oIx_tup, oIx_cell, oIx_cells, oIx_th, oIx_stand, oIx_ent, oLt_ii, oLt_th, oLt_opt, oLe_ii, oGt_ii, oGe_ii, oAdd_ii, oSub_ii, oMod_ii, oFdiv_ii, oMul_ii, oPow_ii, pow15, pow6, agT_ref, agSub, subx, oEq_ss, oNe_ss, decide_true, Int.reduceLT, Int.reduceLE, isN_non, isN_opt, notN_opt, isN_th, notN_th, cLen_tup, cLen_cells, cLen_ths, cInt_bl,
  isI_int, isB_int, isB_bl, isT_tup, isT_non, isT_int, isS_int, ite_tt, ite_ff, ite_not, ite_dec, Bool.not_true, Bool.not_false, nat0, nat1, nat2, nat3, true_and, ↓reduceIte, Option.isNone_none, Option.isNone_some, Option.isSome_none, Option.isSome_some, List.isEmpty_nil])
/-! ### the own error -/
structure NF (K : PySem.W.Frag) (mg : Str → Option Value) (C : Addr) : Prop where
  g : mg "NotFit" = some (.ref C)
  x : PySem.W.excIn K C He.veBase "ValueError.__new__" = true
  k : PySem.W.keepIn K (.ref C) = true
  b : PySem.W.subIn K (.ref C) (.type "BaseException") = some true
  t : PySem.W.typeIn K (.ref C) = some (.type "type")
  m : PySem.W.exmOne K (.ref C) (.ref C) = some true
/-- order_paper: the paper, or the error -/
def spPaper (C : Addr) : Sp := fun vs H Q E => ∃ (xs : List AV) (G : AH) (s : Stand) (Qa : AQ), RelG H G ∧ AVs H xs vs ∧ xs = [standV s] ∧ s.cells.length ≤ 900 ∧ KE H Q Qa ∧ (orderB s = true → Qa (entriesV (entries s.cells)) G) ∧ (orderB s = false → ∀ H', TK H H' → RelG H' G → E (.ref C) none H')
def sp_law_paper_of : ASp := fun xs G Q => ∃ s : Stand, s.cells.length ≤ 900 ∧ xs = [standV s] ∧ Q (if orderB s = true then entriesV (entries s.cells) else .non) G
theorem sc_order_paper : FnScope ["stand"] ["stand"] (defScope sOrderPaper) := ⟨rfl, rfl, rfl, by decide +kernel, rfl, by decide +kernel, by decide +kernel⟩
theorem sc_law_paper_of : FnScope ["_law_stand"] ["_law_stand"] (defScope sLawPaperOf) := ⟨rfl, rfl, rfl, by decide +kernel, rfl, by decide +kernel, by decide +kernel⟩
section
variable {P : Program} {w : World} {K : PySem.W.Frag} {mg : Str → Option Value} {base : Heap} {C : Addr}
theorem lk_len {C : Addr} : ∀ vs H Q E, spPaper C vs H Q E → vs.length = 1 := by
  rintro vs H Q E ⟨xs, G, s, Qa, rg, rx, rfl, _⟩
  rw [← rx.length]; rfl
theorem ok_order_paper {f : Addr} {fd : FuncData} (F : FunD K "order_paper" "order_paper" (defArgs sOrderPaper) (defBody sOrderPaper) (defScope sOrderPaper) [] [] f fd) (T : Txt mg) (N : NF K mg C)
    (C_in_order : Cal P w K mg base 6 "in_order" ["stand"] sp_in_order) (C_entries_of : Cal P w K mg base 3 "entries_of" ["cells"] sp_entries_of) : FnOk P w K mg base (L2.CX P w) 7 f fd ["stand"] (spPaper C) := by
  refine F.ok sc_order_paper lk_len fun cdv A outer s H vs Q E hr h => ?_
  refine ⟨tSeq (tIfS (lowT (aNot (aTest (aCall sp_in_order (aCons (aVar 0) aNil))))) (fun _ _ H' => E (.ref C) none H') tNext) (lowS (aRet (aCall sp_entries_of (aCons (aOp oIx (aVar 0) (aC (.int 3))) aNil)))), ?_, ?_⟩
  · exact pss_cons (ps_if (at_not (at_val (ae_call C_in_order hr (aa_cons (ae_var 0) aa_nil)))) (pss_one (ps_raise rfl (takes_of rfl rfl rfl rfl) (pmk_own PySem.F.excBase_ValueError N.x N.g N.k (raises_own N.b N.t) (by exact rfl)))) pss_nil)
      (as_one (as_ret (ae_call C_entries_of hr (aa_cons (ae_ix (ae_var 0) ae_int) aa_nil))))
  · obtain ⟨xs, G, st, Qa, rg, rx, rfl, hl, k, h1, h2⟩ := h
    show lowT _ _ _ _
    refine ⟨astart 1 [standV st], G, fun b G' => b = (!orderB st) ∧ G' = G, relS_start (N := ["stand"]) rx, rg, ?_, ?_⟩
    · walk_at "la"
      refine i_in_order hl ?_
      walk_at "la"
    · rintro b G' H' tk rg' ⟨rfl, rfl⟩
      cases ho : orderB st with
      | false => exact h2 ho H' tk rg'
      | true =>
        show lowS _ _ _ _
        refine ⟨astart 1 [standV st], G', { nx := fun _ _ => False, rt := Qa }, (relS_start (N := ["stand"]) rx).mono tk, rg', ?_, ⟨fun _ _ _ _ _ _ _ z => z.elim, k.mono tk, fun _ _ _ _ _ _ _ z => z.elim, fun _ _ _ _ _ _ _ z => z.elim⟩⟩
        walk_at "la"
        exact i_entries_of hl (h1 ho)
theorem c_law_paper_of {f fP : Addr} {fd fdP : FuncData} (F : FunD K "_law_paper_of" "_law_paper_of" (defArgs sLawPaperOf) (defBody sLawPaperOf) (defScope sLawPaperOf) [] [] f fd) (gm : mg "_law_paper_of" = some (.ref f)) (T : Txt mg) (N : NF K mg C)
    (FP : FunD K "order_paper" "order_paper" (defArgs sOrderPaper) (defBody sOrderPaper) (defScope sOrderPaper) [] [] fP fdP) (gP : mg "order_paper" = some (.ref fP)) (GP : FnOk P w K mg base (L2.CX P w) 7 fP fdP ["stand"] (spPaper C)) :
    Cal P w K mg base 8 "_law_paper_of" ["_law_stand"] sp_law_paper_of := by
  have bd : Binds K fd ["_law_stand"] [] := F.bindsN fun _ _ _ _ _ _ us hl => match us, hl with | [_], _ => rfl
  have bP : Binds K fdP ["stand"] [] := FP.bindsN fun _ _ _ _ _ _ us hl => match us, hl with | [_], _ => rfl
  refine ⟨f, fd, F.ok sc_law_paper_of (fun vs H Q E h => ?_) (fun cdv A outer s H vs Q E hr h => ?_), gm, F.kp, bd⟩
  · obtain ⟨xs, G, Qa, rg, rx, ⟨s, hl, rfl, q⟩, k⟩ := h
    rw [← rx.length]; rfl
  · obtain ⟨xs, G, Qa, rg, rx, ⟨s, hl, rfl, q⟩, k⟩ := h
    refine ⟨fun D σ H => tRet (tCallS (spPaper C) (WE (wOnly K (.ref C) (fun _ _ _ => lowS (aRet (aC .non))) (fun _ _ _ _ => False) D)) (lowA (aCons (aVar 0) aNil))) D σ H, ?_, ?_⟩
    · exact pss_one (ps_try_only (tb := fun W => tRet (tCallS (spPaper C) (WE W) (lowA (aCons (aVar 0) aNil)))) (ts := fun _ _ _ => lowS (aRet (aC .non))) (Wout := fun _ _ _ _ => False) rfl rfl ⟨rfl, by decide, Or.inl N.g⟩ takes0
        (fun W pn xe tk _ => pss_one (ps_ret (by exact (pe_callS GP hr rfl gP FP.kp bP (fun σ => passAt tk σ) (by exact (aa_cons (ae_var 0) aa_nil))))))
        (fun _ _ _ _ _ _ _ => as_one (as_ret ae_non)))
    · show lowA _ _ _ _
      refine ⟨astart 1 [standV s], G, fun xs' G' => xs' = [standV s] ∧ G' = G, relS_start (N := ["_law_stand"]) rx, rg, ⟨standV s, rfl, rfl, rfl⟩, ?_⟩
      rintro xs' G' vs' H' tk rg' rx' ⟨rfl, rfl⟩
      refine ⟨_, G', s, Qa, rg', rx', rfl, hl, k.mono tk, fun ho => by rw [ho] at q; exact q, fun ho H2 tk2 rg2 => ?_⟩
      rw [ho] at q
      refine ⟨true, N.m, fun _ a ha => ?_, fun z => nomatch z⟩
      exact ⟨astart 1 [standV s], G', { nx := fun _ _ => False, rt := Qa }, (relS_start (N := ["_law_stand"]) rx).mono (tk.trans tk2), rg2, q, ⟨fun _ _ _ _ _ _ _ z => z.elim, k.mono (tk.trans tk2), fun _ _ _ _ _ _ _ z => z.elim, fun _ _ _ _ _ _ _ z => z.elim⟩⟩
end
end LS
set_option Elab.async false
set_option linter.all false
set_option maxRecDepth 100000
set_option maxHeartbeats 4000000
namespace LS
open PySem PySem.Spec PyProof.Rows L2 LA LE
local macro_rules | `(tactic| walk_at "la") => `(tactic| try simp only [aSeq, aIfS, aTest, aOp, aVar, aC, aRet, aNext, aDropS, aAsg, aAnd, aOr, aNot, aAndV, aOrV, aNotV, aChain, aCons, aNil, aCall, aCB, aTup, aLst, aMt, mt_ref, aSl, oSl_pre, oSl_pre1, oSl_0, aPart, aNoP, agName, agC, agE, agT_tup, agT_cell, agT_ent, agT_stand, aEnds, astart,
  List.map_cons, List.map_nil, List.length_cons, List.length_nil, List.cons_append, List.nil_append, List.getElem?_cons_zero, List.getElem?_cons_succ, List.set_cons_zero, List.set_cons_succ, List.replicate_succ, List.replicate_zero, Nat.reduceAdd, Nat.reduceSub, Nat.reduceLeDiff, Nat.zero_le, somex, somexx, blx, intx, tupx,
  at0, at1, at2, at3, oEq_ii, oEq_bb, oNe_ii, oNe_bb, oEq_one, oEq_two, oIx_tup, oIx_cell, oIx_cells, oIx_th, oIx_stand, oIx_ent, oLt_ii, oLt_th, oLt_opt, oLe_ii, oGt_ii, oGe_ii, oAdd_ii, oSub_ii, oMod_ii, oFdiv_ii, oMul_ii, oPow_ii, pow15, pow6, agT_ref, agSub, subx, oEq_ss, oNe_ss, decide_true, Int.reduceLT, Int.reduceLE, isN_non, isN_opt, notN_opt, isN_th, notN_th, cLen_tup, cLen_cells, cLen_ths, cInt_bl,
  isI_int, isB_int, isB_bl, isT_tup, isT_non, isT_int, isS_int, ite_tt, ite_ff, ite_not, ite_dec, Bool.not_true, Bool.not_false, nat0, nat1, nat2, nat3, true_and, ↓reduceIte, Option.isNone_none, Option.isNone_some, Option.isSome_none, Option.isSome_some, List.isEmpty_nil])

section
variable {P : Program} {w : World} {K : PySem.W.Frag} {mg : Str → Option Value} {base : Heap}
/-! ### _law_like, by depth -/
theorem c_law_like {f : Addr} {fd : FuncData} (F : FunD K "_law_like" "_law_like" (defArgs sLawLike) (defBody sLawLike) (defScope sLawLike) [] [] f fd) (gm : mg "_law_like" = some (.ref f)) (T : Txt mg) : ∀ n : Nat, Cal P w K mg base (n + 1) "_law_like" ["_law_one", "_law_other"] (sp_law_like n)
  | 0 => by
    have bd : Binds K fd ["_law_one", "_law_other"] [] := F.bindsN fun _ _ _ _ _ _ us hl => match us, hl with | [_, _], _ => rfl
    have no : ∀ vs H Q E, lift (sp_law_like 0) vs H Q E → False := fun vs H Q E ⟨xs, G, Qa, rg, rx, ⟨x, e, z, q⟩, k⟩ => z
    exact ⟨f, fd, F.ok (k := 0) sc_law_like (fun vs H Q E h => (no vs H Q E h).elim) (fun cdv A outer s H vs Q E hr h => (no vs H Q E h).elim), gm, F.kp, bd⟩
  | n + 1 => fn_A (a := a_law_like (sp_law_like n)) F gm sc_law_like (fun _ _ _ _ _ _ us hl => match us, hl with | [_, _], _ => rfl) (len_law_like (n + 1)) (fun _ _ _ _ _ _ hr => d_law_like T (c_law_like F gm T n) hr) (r_law_like n)
/-! ### _law_draws -/
theorem sc_law_draws : FnScope ["_law_script", "_law_cells", "_law_cell"] ["_law_script"] (defScope sLawDraws) := ⟨rfl, rfl, rfl, by decide +kernel, rfl, by decide +kernel, by decide +kernel⟩
def a_law_draws : ATS :=
  (aRet (aLst (aCons (aVar 1) (aCons (aC (.int 0)) (aCons (aLc (aiSeq (aVar 1)) (stN 2) aYes (aOp oMulA (aVar 2) (aCB cInt (aCons (aOp oGe (aVar 2) (aOp oPow (aC (.int 10)) (aC (.int 18)))) aNil)))) aNil)))))
def spDraws (K : PySem.W.Frag) : Sp := fun vs H Q _ => ∃ (a : Addr) (ns : List Int), vs = [.ref a] ∧ SqL K H a (ns.map V.int) ∧ ∀ d c r G' H', TK H H' → RelG H' G' → Dr d c r 0 G' → Q (.ref d) H'
theorem ints_V {H : Hp} : ∀ us : List Int, AVs H (us.map AV.int) (us.map V.int)
  | [] => rfl
  | u :: us => ⟨.int u, us.map V.int, rfl, rfl, ints_V us⟩
theorem cut60 (ns : List Int) : cutV (ns.map V.int) none (some 60) = (ns.take 60).map V.int := by
  have h := acut_head (ns.map V.int) 60
  have e : cutV (ns.map V.int) none (some 60) = acut (ns.map V.int) none (some ((60 : Nat) : Int)) := rfl
  rw [e, h, List.map_take]
theorem cells60 (ns : List Int) : ∃ us : List Int, us ≠ [] ∧ us.length ≤ 60 ∧ ∀ b : Bool, b = decide (V.int ((ns.map V.int).length : Int) = V.int 0) → cutV (ns.map V.int) none (some 60) ++ (List.replicate ((if b then (1 : Int) else 0).toNat) [V.int 0]).flatten = us.map V.int := by
  cases ns with
  | nil =>
    refine ⟨[0], by simp, by simp, fun b hb => ?_⟩
    have hb : b = true := by rw [hb]; rfl
    subst hb
    rfl
  | cons n ns =>
    refine ⟨(n :: ns).take 60, by simp, List.length_take_le .., fun b hb => ?_⟩
    have hb : b = false := by
      rw [hb]
      refine decide_eq_false fun e => ?_
      injection e with e
      simp at e
      omega
    subst hb
    rw [cut60]
    simp
theorem draws_end {Q : AQ} {a p : Addr} {us : List Int} {G : AH} (hp : G p = some (us.map .int)) (hne : us ≠ []) (hl : us.length ≤ 60) (q : ∀ d c r G', Dr d c r 0 G' → Q (.ref d) G') :
    a_law_draws { nx := fun _ _ => False, rt := Q } [some (.ref a), some (.ref p), none] G := by
  unfold a_law_draws
  walk_at "la"
  refine lc_lst (us.map .int) (fun _ => true) (fun x => match x with | .int i => .int (i * (if decide ((10 : Int) ^ (18 : Int).toNat ≤ i) = true then 1 else 0)) | _ => .non) p hp (fun R q => ?_) (fun x hx G' R h => h) (fun x hx _ G' R h => ?_) (by simp; omega) (fun p2 hp2 => ?_)
  · walk_at "la"; exact q
  · obtain ⟨i, hi, rfl⟩ := List.mem_map.mp hx
    walk_at "la"
    refine ⟨⟨by decide, by decide, by decide⟩, .inr ?_, h⟩
    split <;> exact ⟨by decide, by decide⟩
  · intro p3 hp3
    have e : ((us.map AV.int).filter (fun _ => true)).map (fun x => match x with | .int i => AV.int (i * (if decide ((10 : Int) ^ (18 : Int).toNat ≤ i) = true then 1 else 0)) | _ => .non) = (us.map fun i => i * (if decide ((10 : Int) ^ (18 : Int).toNat ≤ i) = true then 1 else 0)).map AV.int := by
      rw [List.filter_eq_self.mpr (fun _ _ => rfl), List.map_map, List.map_map]
      rfl
    rw [e] at hp3 ⊢
    refine q p3 p p2 _ ⟨⟨(ane_of_none (aold hp hp2) hp3).symm, (ane_of_none aupd_same hp3).symm, ane_of_none hp hp2⟩, ⟨0, by decide, by decide, aupd_same⟩, ⟨us, _, aold (aold hp hp2) hp3, aold aupd_same hp3, hne, hl, by rw [List.length_map], fun y hy => ?_⟩⟩
    obtain ⟨i, hi, rfl⟩ := List.mem_map.mp hy
    split
    · rename_i h
      have := of_decide_eq_true h
      have e18 : (10 : Int) ^ (18 : Int).toNat = 1000000000000000000 := by decide
      omega
    · omega
theorem ok_law_draws {f : Addr} {fd : FuncData} (F : FunD K "_law_draws" "_law_draws" (defArgs sLawDraws) (defBody sLawDraws) (defScope sLawDraws) [] [] f fd) (T : Txt mg) : FnOk P w K mg base CX0 1 f fd ["_law_script"] (spDraws K) := by
  refine F.ok sc_law_draws (fun vs H Q E ⟨a, ns, e, _⟩ => by rw [e]; rfl) fun cdv A outer s H vs Q E hr h => ?_
  refine ⟨tSeq (tAsg (tOp rCat (tCB (fun xs H Q => ∃ p ys, xs = [.ref p] ∧ (SqL K H p ys ∨ SqT K H p ys) ∧ ∀ l, H l = none → Q (.ref l) (upd H l (.lst ys))) (tCons (tSl (rSlL K) (tVar 0) tNoPart (tPart (tC (.int 60)))) tNil))
      (tOp rRep (tLst (tCons (tC (.int 0)) tNil)) (tCB (fun xs H Q => (∃ i, xs = [.int i] ∧ Q (.int i) H) ∨ ∃ k, xs = [.bl k] ∧ Q (.int (if k then 1 else 0)) H) (tCons (tOp rEq (tCB (fun xs H Q => ∃ p ys, xs = [.ref p] ∧ (SqL K H p ys ∨ SqT K H p ys) ∧ Q (.int ys.length) H) (tCons (tVar 0) tNil)) (tC (.int 0))) tNil)))) (gName 1)) (lowS a_law_draws), PSs.nox ?_, ?_⟩
  · exact pss_cons (ps_set (i := 1) sc_law_draws.nd rfl (Or.inl rfl) (pe_op op_cat (pe_callTy call_list_of rfl T.list PyProof.Rows.boot_list (pa_cons (pe_slice sl_list (pv 0) po_none (po_some pe_int)) pa_nil))
        (pe_op op_rep (pe_lst (pa_cons pe_int pa_nil)) (pe_callTy call_int1 rfl T.int PyProof.Rows.boot_int (pa_cons (pe_cmpR op_eq (pe_callB call_len_seq rfl T.len PySem.boot_len (pa_cons (pv 0) pa_nil)) pe_int (nomark _)) pa_nil)))))
      (as_one (as_ret (ae_lst (aa_cons (ae_var 1) (aa_cons ae_int (aa_cons (ae_lc 2 rfl sc_law_draws.nd (ai_seq (ae_var 1)) (blkOk_by (N := ["_law_script", "_law_cells", "_law_cell"]) (sc := (defScope sLawDraws)) (own := [("_law_cell", 2)]) (by decide +kernel)) (fun _ _ _ _ _ => pg_name (i := 2) sc_law_draws.nd rfl (Or.inl rfl)) (fun _ _ _ _ _ => apts_nil) (fun _ _ _ _ _ => (ae_op op_a_mulA (ae_var 2) (ae_callTy cal_int T.int PyProof.Rows.boot_int (aa_cons (ae_cmp op_a_ge (ae_var 2) (ae_op op_a_pow ae_int ae_int)) aa_nil))))) aa_nil))))))
  · obtain ⟨a, ns, rfl, hS, q⟩ := h
    refine ⟨.ref a, rfl, 60, rfl, a, _, rfl, hS, fun p1 h1 => ?_⟩
    have E1 : Ext H (upd H p1 (.lst (cutV (ns.map V.int) none (some 60)))) := Ext.upd h1
    refine ⟨p1, _, rfl, .inl (SqL.of upd_same), fun p2 h2 => ?_⟩
    refine ⟨by show 1 ≤ sizeLine; decide, fun p3 h3 => ?_⟩
    have E3 := (E1.trans (Ext.upd (o := .lst (cutV (ns.map V.int) none (some 60))) h2)).trans (Ext.upd (o := .lst [.int 0]) h3)
    refine ⟨.ref a, rfl, a, _, rfl, .inl (hS.ext E3), rfl, .inr ⟨_, rfl, ?_⟩⟩
    obtain ⟨us, une, ul, uc⟩ := cells60 ns
    have uc := uc _ rfl
    have hk := int01 (decide (V.int ((ns.map V.int).length : Int) = V.int 0))
    generalize hkk : (if decide (V.int ((ns.map V.int).length : Int) = V.int 0) = true then (1 : Int) else 0) = k at uc hk
    refine ⟨p3, k, [.int 0], rfl, ?_, upd_same, by omega, by omega, ?_, fun p4 h4 => ?_⟩
    · rw [← hkk]
    · rcases hk with e | e <;> rw [e] <;> decide
    refine ⟨p2, p4, _, _, rfl, rfl, Ext.upd h4 _ _ (Ext.upd h3 _ _ upd_same), upd_same, ?_, fun p5 h5 => ?_⟩
    · rw [← List.length_append, uc, List.length_map]
      exact sz_of (by omega)
    rw [uc]
    show lowS a_law_draws _ _ _
    refine ⟨[some (.ref a), some (.ref p5), none], aupd (fun _ => none) p5 (us.map .int), { nx := fun _ _ => False, rt := fun x G' => ∃ d c r, x = .ref d ∧ Dr d c r 0 G' }, ⟨rfl, fun i x hx => ?_⟩, fun b xs hb => ?_, draws_end aupd_same une ul (fun d c r G' hD => ⟨d, c, r, rfl, hD⟩),
      ⟨fun _ _ _ _ _ _ _ z => z.elim, fun x G' v H' tk rg rx ⟨d, c, r, e, hD⟩ => ?_, fun _ _ _ _ _ _ _ z => z.elim, fun _ _ _ _ _ _ _ z => z.elim⟩⟩
    · match i, hx with
      | 0, hx =>
        cases hx
        exact ⟨.ref a, rfl, rfl⟩
      | 1, hx =>
        cases hx
        exact ⟨.ref p5, rfl, rfl⟩
      | 2, hx => simp at hx
      | i + 3, hx => simp at hx
    · by_cases z : b = p5
      · subst z
        rw [aupd_same] at hb
        cases hb
        exact ⟨us.map V.int, upd_same, ints_V us⟩
      · rw [aupd_ne z] at hb
        cases hb
    · subst e
      cases (show v = V.ref d from rx)
      exact q d c r G' H' (((((TK.new h1).trans (TK.new h2)).trans (TK.new h3)).trans (TK.new h4)).trans ((TK.new h5).trans tk)) rg hD
end
end LS
set_option Elab.async false
set_option linter.all false
set_option maxRecDepth 100000
set_option maxHeartbeats 4000000
namespace LS
open PySem PySem.Spec PyProof.Rows L2 LA LE
local macro_rules | `(tactic| walk_at "la") => `(tactic| try simp only [aSeq, aIfS, aTest, aOp, aVar, aC, aRet, aNext, aDropS, aAsg, aAnd, aOr, aNot, aAndV, aOrV, aNotV, aChain, aCons, aNil, aCall, aCB, aTup, aLst, aMt, mt_ref, aSl, oSl_pre, oSl_pre1, oSl_0, aPart, aNoP, agName, agC, agE, agT_tup, agT_cell, agT_ent, agT_stand, aEnds, astart,
  List.map_cons, List.map_nil, List.length_cons, List.length_nil, List.cons_append, List.nil_append, List.getElem?_cons_zero, List.getElem?_cons_succ, List.set_cons_zero, List.set_cons_succ, List.replicate_succ, List.replicate_zero, Nat.reduceAdd, Nat.reduceSub, Nat.reduceLeDiff, Nat.zero_le, somex, somexx, blx, intx, tupx,
  at0, at1, at2, at3, oEq_ii, oEq_bb, oNe_ii, oNe_bb, oEq_one, oEq_two, oIx_tup, oIx_cell, oIx_cells, oIx_th, oIx_stand, oIx_ent, oLt_ii, oLt_th, oLt_opt, oLe_ii, oGt_ii, oGe_ii, oAdd_ii, oSub_ii, oMod_ii, oFdiv_ii, oMul_ii, oPow_ii, pow15, pow6, agT_ref, agSub, subx, oEq_ss, oNe_ss, decide_true, Int.reduceLT, Int.reduceLE, isN_non, isN_opt, notN_opt, isN_th, notN_th, cLen_tup, cLen_cells, cLen_ths, cInt_bl,
  isI_int, isB_int, isB_bl, isT_tup, isT_non, isT_int, isS_int, ite_tt, ite_ff, ite_not, ite_dec, Bool.not_true, Bool.not_false, nat0, nat1, nat2, nat3, true_and, ↓reduceIte, Option.isNone_none, Option.isNone_some, Option.isSome_none, Option.isSome_some, List.isEmpty_nil])

def a_law : ATS :=
  (aSeq (aAsg (aCall sp_law_all_stands (aCons (aVar 1) aNil)) (agName 2))
  (aSeq (aAsg (aLc (aiSeq (aVar 2)) (stN 3) aYes (aCall sp_law_paper_of (aCons (aVar 3) aNil))) (agName 4))
  (aSeq (aFor (aiZip (aCons (aVar 2) (aCons (aVar 4) aNil))) (agTup 2 (agCons (agName 3) (agCons (agName 5) agNil))) (aSeq (aAsg (aCall sp_law_in_order (aCons (aVar 3) aNil)) (agName 6))
  (aSeq (aIfS (aOr (aNot (aTest (aCall sp_law_truth (aCons (aCall sp_in_order (aCons (aVar 3) aNil)) (aCons (aVar 6) aNil))))) (aTest (aOp oNe (aOp oNotN (aVar 5) (aC .non)) (aVar 6)))) (aRet (aC (.bl false))) aNext)
  (aSeq (aIfS (aAnd (aTest (aVar 6)) (aOr (aNot (aTest (aCall (sp_law_like 4) (aCons (aVar 5) (aCons (aCall sp_law_entries (aCons (aOp oIx (aVar 3) (aC (.int 3))) aNil)) aNil))))) (aNot (aTest (aCall sp_law_seen (aCons (aVar 3) (aCons (aVar 5) aNil))))))) (aRet (aC (.bl false))) aNext)
  (aFor (aiSeq (aVar 4)) (agName 7) (aIfS (aTest (aOp oNotN (aVar 7) (aC .non))) (aIfS (aNot (aTest (aCall sp_law_truth (aCons (aCall sp_right_order (aCons (aVar 3) (aCons (aVar 7) aNil))) (aCons (aAndV (aVar 6) (aOp oEq (aVar 7) (aCall sp_law_entries (aCons (aOp oIx (aVar 3) (aC (.int 3))) aNil)))) aNil))))) (aRet (aC (.bl false))) aNext) aNext))))))
  (aRet (aC (.bl true))))))

def paperV (s : Stand) : AV := if orderB s = true then entriesV (entries s.cells) else .non
theorem notN_paper {s : Stand} {G : AH} {Q : AQ} : oNotN (paperV s) .non G Q = Q (.bl (orderB s)) G := by
  unfold paperV
  cases orderB s <;> simp [oNotN, isNon, entriesV]
theorem i_law_paper_of {s : Stand} {G : AH} {Q : AQ} (hl : s.cells.length ≤ 900) (q : Q (paperV s) G) : sp_law_paper_of [standV s] G Q := ⟨s, hl, rfl, q⟩
/-- for x, y in zip(xs, ys), two lists that are kept -/
theorem for_zip {α : Type} (f g : α → AV) (ys : List α) (p q : Addr) (I : List α → List α → ASt → AH → Prop) {la : ATA} {tg : ATG} {sb : ATS} {D : AEnds} {S : ASt} {G : AH}
    (he : ∀ R : List AV → AH → Prop, R [.ref p, .ref q] G → la S G R) (hp : ∀ d r S G, I d r S G → G p = some (ys.map f) ∧ G q = some (ys.map g)) (h0 : I [] ys S G)
    (st : ∀ d y r S G, d ++ y :: r = ys → I d (y :: r) S G → tg (.tup [f y, g y]) S G fun S2 G2 => sb { D with nx := I (d ++ [y]) r, ct := I (d ++ [y]) r, bk := D.nx } S2 G2)
    (fin : ∀ S G, I ys [] S G → D.nx S G) : aFor (aiZip la) tg sb D S G := by
  apply he
  refine ⟨ys.map f, ys.map g, (hp _ _ _ _ h0).1, (hp _ _ _ _ h0).2, fun i S G => I (ys.take i) (ys.drop i) S G, ?_, fun _ _ _ _ h => hp _ _ _ _ h, fun i x S G hx h => ?_, fun S G h => ?_⟩
  · simpa using h0
  · obtain ⟨x1, x2, h1, h2, rfl⟩ := zipA_of hx
    rw [List.getElem?_map] at h1 h2
    cases e : ys[i]? with
    | none => rw [e] at h1; cases h1
    | some y =>
      rw [e] at h1 h2
      cases h1
      cases h2
      have hi := (List.getElem?_eq_some_iff.mp e).1
      have hd : ys.drop i = y :: ys.drop (i + 1) := by rw [List.drop_eq_getElem_cons hi, (List.getElem?_eq_some_iff.mp e).2]
      have h : I (ys.take i) (ys.drop i) S G := h
      rw [hd] at h
      have := st (ys.take i) y (ys.drop (i + 1)) S G (by rw [← hd, List.take_append_drop]) h
      rw [← take_snoc e] at this
      exact this
  · have h : I (ys.take (zipA (ys.map f) (ys.map g)).length) (ys.drop (zipA (ys.map f) (ys.map g)).length) S G := h
    rw [zipA_length, List.length_map, List.length_map, Nat.min_self, List.take_length, List.drop_length] at h
    exact fin S G h
theorem plain_opt (o : Option Th) : plainV 2 (optV o) := by
  cases o with
  | none => exact .inl rfl
  | some t =>
    refine .inr (.inr ⟨[.int t.1, .int t.2], rfl, by simp, fun y hy => ?_⟩)
    rcases List.mem_cons.mp hy with rfl | hy
    · exact .inr (.inl ⟨_, rfl⟩)
    · rw [List.mem_singleton.mp hy]
      exact .inr (.inl ⟨_, rfl⟩)
theorem plain_ents {es : List Entry} (h : es.length ≤ 900) : plainV 4 (entriesV es) := by
  refine .inr (.inr ⟨es.map entV, rfl, by rw [List.length_map]; omega, fun y hy => ?_⟩)
  obtain ⟨e, _, rfl⟩ := List.mem_map.mp hy
  refine .inr (.inr ⟨[optV e.1, .int (e.2 : Int)], rfl, by simp, fun y hy => ?_⟩)
  rcases List.mem_cons.mp hy with rfl | hy
  · exact plain_opt e.1
  · rw [List.mem_singleton.mp hy]
    exact .inr (.inl ⟨_, rfl⟩)
theorem i_law_seen {s : Stand} {G : AH} {Q : AQ} (hl : s.cells.length ≤ 900) (ho : orderB s = true) (q : Q (.bl true) G) : sp_law_seen [standV s, entriesV (entries s.cells)] G Q := ⟨s, hl, ho, rfl, q⟩
theorem i_law_like {x : AV} {n : Nat} {G : AH} {Q : AQ} (h : plainV n x) (q : Q (.bl true) G) : sp_law_like n [x, x] G Q := ⟨x, rfl, h, q⟩
theorem law_read {a d c r : Addr} {G : AH} {N : ASt → AH → Prop} (hD : Dr d c r 0 G) : a_law { nx := N, rt := fun x _ => x = .bl true } [some (.ref a), some (.ref d), none, none, none, none, none, none] G := by
  unfold a_law
  walk_at "la"
  refine ⟨d, c, r, rfl, hD, fun p ss G1 hp hl hok => ?_⟩
  have hfew : ∀ s ∈ ss, s.cells.length ≤ 900 := fun s hs => by
    have := (hok s hs).few
    omega
  refine lc_lstI standV ss p (fun p2 dn G' => G' = aupd G1 p2 (dn.map paperV)) hp (fun R q => ?_) (fun p2 dn G' hp2 e => by rw [e]; exact aold hp hp2) (fun p2 hp2 => rfl) (fun p2 dn y rr G' hp2 e h => ?_) (fun p2 G' hp2 h => ?_)
  · walk_at "la"; exact q
  · subst h
    have hdl : dn.length ≤ ss.length := by rw [← e]; simp
    unfold aTurn aYes
    walk_at "la"
    refine i_law_paper_of (hfew y (by rw [← e]; simp)) ?_
    refine ⟨_, aupd_same, by rw [List.length_map]; omega, ?_⟩
    rw [aupd_aupd, List.map_append]
    rfl
  · subst h
    have g1 : aupd G1 p2 (ss.map paperV) p = some (ss.map standV) := aold hp hp2
    have g2 : aupd G1 p2 (ss.map paperV) p2 = some (ss.map paperV) := aupd_same
    generalize aupd G1 p2 (ss.map paperV) = G2 at g1 g2
    refine for_zip standV paperV ss p p2 (fun dn rr S G' => G' = G2 ∧ ∃ l3 l5 l6 l7, S = [some (.ref a), some (.ref d), some (.ref p), l3, some (.ref p2), l5, l6, l7]) (fun R q => ?_) (fun dn rr S G' h => by rw [h.1]; exact ⟨g1, g2⟩) ⟨rfl, none, none, none, none, rfl⟩ (fun dn y rr S G' e h => ?_) (fun S G' h => ?_)
    · walk_at "la"; exact q
    · obtain ⟨rfl, l3, l5, l6, l7, rfl⟩ := h
      have hy : y ∈ ss := by rw [← e]; simp
      have oky := hok y hy
      have hyl := hfew y hy
      walk_at "la"
      refine i_law_in_order hyl ?_
      rw [law_same oky]
      walk_at "la"
      refine i_in_order hyl ?_
      refine i_law_truth ?_
      walk_at "la"
      rw [notN_paper]
      walk_at "la"
      -- the inner loop
      have inner : ∀ D : AEnds, (∀ l7, D.nx [some (.ref a), some (.ref d), some (.ref p), some (standV y), some (.ref p2), some (paperV y), some (.bl (orderB y)), l7] G') →
        aFor (aiSeq (aVar 4)) (agName 7) (aIfS (aTest (aOp oNotN (aVar 7) (aC .non))) (aIfS (aNot (aTest (aCall sp_law_truth (aCons (aCall sp_right_order (aCons (aVar 3) (aCons (aVar 7) aNil))) (aCons (aAndV (aVar 6) (aOp oEq (aVar 7) (aCall sp_law_entries (aCons (aOp oIx (aVar 3) (aC (.int 3))) aNil)))) aNil))))) (aRet (aC (.bl false))) aNext) aNext) D
          [some (.ref a), some (.ref d), some (.ref p), some (standV y), some (.ref p2), some (paperV y), some (.bl (orderB y)), l7] G' := by
        intro D hD
        refine for_lst paperV ss p2 (fun _ _ S G'' => G'' = G' ∧ ∃ l7, S = [some (.ref a), some (.ref d), some (.ref p), some (standV y), some (.ref p2), some (paperV y), some (.bl (orderB y)), l7]) (fun R q => ?_) (fun _ _ S G'' h => by rw [h.1]; exact g2) ⟨rfl, _, rfl⟩ (fun dn z rr S G'' e h => ?_) (fun S G'' h => ?_)
        · walk_at "la"; exact q
        · obtain ⟨rfl, l7, rfl⟩ := h
          have hz : z ∈ ss := by rw [← e]; simp
          have hzl := hfew z hz
          walk_at "la"
          rw [notN_paper]
          walk_at "la"
          cases hoz : orderB z with
          | false =>
            walk_at "la"
            exact ⟨_, rfl⟩
          | true =>
            have ez : paperV z = entriesV (entries z.cells) := by unfold paperV; rw [hoz]; rfl
            walk_at "la"
            rw [ez]
            refine i_right_order hyl (by rw [entries_len]; exact hzl) (okS_good (hok z hz) (by omega)) ?_
            cases hoy : orderB y with
            | false =>
              walk_at "la"
              refine i_law_truth ?_
              rw [Bool.and_false]
              walk_at "la"
              exact ⟨_, rfl⟩
            | true =>
              walk_at "la"
              refine i_law_entries hyl ?_
              refine eq_ents ?_
              refine i_law_truth ?_
              rw [Bool.and_true]
              walk_at "la"
              exact ⟨_, rfl⟩
        · obtain ⟨rfl, l7, rfl⟩ := h
          exact hD l7
      cases hoy : orderB y with
      | false =>
        rw [hoy] at inner
        walk_at "la"
        exact inner _ fun l7 => ⟨rfl, _, _, _, _, rfl⟩
      | true =>
        rw [hoy] at inner
        have ey : paperV y = entriesV (entries y.cells) := by unfold paperV; rw [hoy]; rfl
        walk_at "la"
        refine i_law_entries hyl ?_
        rw [ey]
        refine i_law_like (plain_ents (by rw [entries_len]; exact hyl)) ?_
        walk_at "la"
        refine i_law_seen hyl hoy ?_
        walk_at "la"
        rw [ey] at inner
        exact inner _ fun l7 => ⟨rfl, _, _, _, _, rfl⟩
    · obtain ⟨rfl, l3, l5, l6, l7, rfl⟩ := h
      walk_at "la"
end LS
set_option Elab.async false
set_option linter.all false
set_option maxRecDepth 100000
set_option maxHeartbeats 4000000
namespace LS
open PySem PySem.Spec PyProof.Rows L2 LA LE
theorem sc_law : FnScope ["_law_script", "_law_drawn", "_law_some", "_law_stand", "_law_papers", "_law_paper", "_law_due", "_law_other"] ["_law_script"] (defScope sLaw) := ⟨rfl, rfl, rfl, by decide +kernel, rfl, by decide +kernel, by decide +kernel⟩
def spLaw (K : PySem.W.Frag) : Sp := fun vs H Q _ => ∃ (a : Addr) (ns : List Int), vs = [.ref a] ∧ SqL K H a (ns.map V.int) ∧ ∀ H', Q (.bl true) H'
section
variable {P : Program} {w : World} {K : PySem.W.Frag} {mg : Str → Option Value} {base : Heap}
theorem ok_law {f fD : Addr} {fd fdD : FuncData} (F : FunD K "law" "law" (defArgs sLaw) (defBody sLaw) (defScope sLaw) [] [] f fd) (T : Txt mg)
    (FD : FunD K "_law_draws" "_law_draws" (defArgs sLawDraws) (defBody sLawDraws) (defScope sLawDraws) [] [] fD fdD) (gD : mg "_law_draws" = some (.ref fD))
    (C_law_entries : Cal P w K mg base 3 "_law_entries" ["_law_cells"] sp_law_entries)
    (C_right_order : Cal P w K mg base 7 "right_order" ["stand", "thing"] sp_right_order)
    (C_law_truth : Cal P w K mg base 1 "_law_truth" ["_law_told", "_law_due"] sp_law_truth)
    (C_law_seen : Cal P w K mg base 1 "_law_seen" ["_law_stand", "_law_paper"] sp_law_seen)
    (C_law_like : Cal P w K mg base 5 "_law_like" ["_law_one", "_law_other"] (sp_law_like 4))
    (C_in_order : Cal P w K mg base 6 "in_order" ["stand"] sp_in_order)
    (C_law_in_order : Cal P w K mg base 5 "_law_in_order" ["_law_stand"] sp_law_in_order)
    (C_law_paper_of : Cal P w K mg base 8 "_law_paper_of" ["_law_stand"] sp_law_paper_of)
    (C_law_all_stands : Cal P w K mg base 5 "_law_all_stands" ["_law_drawn"] sp_law_all_stands) : FnOk P w K mg base CX0 9 f fd ["_law_script"] (spLaw K) := by
  have GD : FnOk P w K mg base CX0 1 fD fdD ["_law_script"] (spDraws K) := ok_law_draws FD T
  have bD : Binds K fdD ["_law_script"] [] := FD.bindsN fun _ _ _ _ _ _ us hl => match us, hl with | [_], _ => rfl
  refine F.ok sc_law (fun vs H Q E ⟨a, ns, e, _⟩ => by rw [e]; rfl) fun cdv A outer s H vs Q E hr h => ?_
  refine ⟨tSeq (tAsg (tCall (spDraws K) [] E0 (tCons (tVar 0) tNil)) (gName 1)) (lowS a_law), PSs.nox ?_, ?_⟩
  · exact pss_cons (ps_set (i := 1) sc_law.nd rfl (Or.inl rfl) (pe_call GD (hr.mono (by decide)) rfl gD FD.kp bD .nil pass0 (pa_cons (pv 0) pa_nil)))
      (as_cons (as_set 2 sc_law.nd (ae_call C_law_all_stands hr (aa_cons (ae_var 1) aa_nil)))
    (as_cons (as_setLc 4 3 rfl sc_law.nd rfl rfl (sw_true rfl rfl rfl (by decide +kernel)) (ai_seq (ae_var 2)) (blkOk_by (N := ["_law_script", "_law_drawn", "_law_some", "_law_stand", "_law_papers", "_law_paper", "_law_due", "_law_other"]) (sc := (defScope sLaw)) (own := [("_law_stand", 3)]) (by decide +kernel)) (fun _ _ _ _ _ => pg_name (i := 3) sc_law.nd rfl (Or.inl rfl)) (fun _ _ _ _ _ => apts_nil) (fun _ _ _ _ _ => (ae_call C_law_paper_of hr (aa_cons (ae_var 3) aa_nil))))
    (as_cons (as_for PassesOwn.never rfl (ai_zip T.zip (aa_cons (ae_var 2) (aa_cons (ae_var 4) aa_nil))) (ag_tup (n := 2) rfl (ags_cons (ag_name 3 sc_law.nd) (ags_cons (ag_name 5 sc_law.nd) ags_nil))) (as_cons (as_set 6 sc_law.nd (ae_call C_law_in_order hr (aa_cons (ae_var 3) aa_nil)))
    (as_cons (as_if (aw_pt (aw_or (at_not (at_val (ae_call C_law_truth hr (aa_cons (ae_call C_in_order hr (aa_cons (ae_var 3) aa_nil)) (aa_cons (ae_var 6) aa_nil))))) (aw_or1 (at_cmp (op_a_ne hr) (ae_cmp op_a_notN (ae_var 5) ae_non) (ae_var 6))))) (as_one (as_ret ae_bl)) as_nil)
    (as_cons (as_if (aw_pt (aw_and (at_val (ae_var 6)) (aw_and1 (aw_pt (aw_or (at_not (at_val (ae_call C_law_like hr (aa_cons (ae_var 5) (aa_cons (ae_call C_law_entries hr (aa_cons (ae_ix (ae_var 3) ae_int) aa_nil)) aa_nil))))) (aw_or1 (at_not (at_val (ae_call C_law_seen hr (aa_cons (ae_var 3) (aa_cons (ae_var 5) aa_nil))))))))))) (as_one (as_ret ae_bl)) as_nil)
    (as_one (as_for PassesOwn.never rfl (ai_seq (ae_var 4)) (ag_name 7 sc_law.nd) (as_one (as_if (at_cmp op_a_notN (ae_var 7) ae_non) (as_one (as_if (at_not (at_val (ae_call C_law_truth hr (aa_cons (ae_call C_right_order hr (aa_cons (ae_var 3) (aa_cons (ae_var 7) aa_nil))) (aa_cons (ae_and (ae_var 6) (ae_one (ae_cmp (op_a_eq hr) (ae_var 7) (ae_call C_law_entries hr (aa_cons (ae_ix (ae_var 3) ae_int) aa_nil))))) aa_nil))))) (as_one (as_ret ae_bl)) as_nil)) as_nil))))))))
    (as_one (as_ret ae_bl)))))
  · obtain ⟨a, ns, rfl, hS, q⟩ := h
    refine ⟨.ref a, rfl, a, ns, rfl, hS, fun d c r G' H' tk rg hD => ?_⟩
    show lowS a_law _ _ _
    refine ⟨[some (.ref a), some (.ref d), none, none, none, none, none, none], G', { nx := fun _ _ => False, rt := fun x _ => x = .bl true }, ⟨rfl, fun i x hx => ?_⟩, rg, law_read hD,
      ⟨fun _ _ _ _ _ _ _ z => z.elim, fun x G v H' tk rg rx e => ?_, fun _ _ _ _ _ _ _ z => z.elim, fun _ _ _ _ _ _ _ z => z.elim⟩⟩
    · match i, hx with
      | 0, hx =>
        cases hx
        exact ⟨.ref a, rfl, rfl⟩
      | 1, hx =>
        cases hx
        exact ⟨.ref d, rfl, rfl⟩
      | 2, hx => simp at hx
      | 3, hx => simp at hx
      | 4, hx => simp at hx
      | 5, hx => simp at hx
      | 6, hx => simp at hx
      | 7, hx => simp at hx
      | i + 8, hx => simp at hx
    · subst e
      cases (show v = V.bl true from rx)
      exact q H'
end
theorem facts {P : Program} {w : World} {K : PySem.W.Frag} {h : Heap} {mg : Str → Option Value} {f : Addr} (X : K.In h) (G : h.Ns mainGlobals mg) (hfa : mg ("law" : Str) = some (.ref f)) (c : He.SaysD faL fnL K) :
    ∃ fd : FuncData, (∀ (s : Shared) (v : Value), BindsTo s fd ⟨[v], []⟩ [("_law_script", v)]) ∧ ∀ base : Heap, K.In base → base.Ns mainGlobals mg → FnOk P w K mg base CX0 9 f fd ["_law_script"] (spLaw K) := by
  have T : Txt mg := ⟨He.free_ok X G (c.fact 49 (f := .free "isinstance") rfl), He.free_ok X G (c.fact 50 (f := .free "len") rfl), He.free_ok X G (c.fact 51 (f := .free "range") rfl), He.free_ok X G (c.fact 52 (f := .free "tuple") rfl), He.free_ok X G (c.fact 53 (f := .free "list") rfl), He.free_ok X G (c.fact 54 (f := .free "int") rfl), He.free_ok X G (c.fact 55 (f := .free "sorted") rfl), He.free_ok X G (c.fact 56 (f := .free "min") rfl), He.free_ok X G (c.fact 57 (f := .free "max") rfl), He.free_ok X G (c.fact 58 (f := .free "zip") rfl), He.free_ok X G (c.fact 59 (f := .free "enumerate") rfl), He.free_ok X G (c.fact 60 (f := .free "bool") rfl), He.free_ok X G (c.fact 61 (f := .free "str") rfl), He.int_ok X G (c.fact 62 (f := .int "MOST_NUMBER" 1000000000000000) rfl), He.int_ok X G (c.fact 63 (f := .int "MOST_TICKET" 1000000) rfl)⟩
  obtain ⟨x1, x2, x3, x4⟩ := He.exc_ok (c.fact 65 (f := .exc "NotFit") rfl)
  have N : NF K mg (He.ga K "NotFit") := ⟨He.glo_ok X G (c.fact 64 (f := .glo "NotFit") rfl), x1, x2, x3, x4, He.exm_ok (c.fact 66 (f := .exm "NotFit" "NotFit" true) rfl)⟩
  obtain ⟨fd_is_number, F_is_number⟩ := c.def_ 0 (d := dIsNumber) rfl
  obtain ⟨fd_is_thing, F_is_thing⟩ := c.def_ 1 (d := dIsThing) rfl
  obtain ⟨fd_comes_before, F_comes_before⟩ := c.def_ 2 (d := dComesBefore) rfl
  obtain ⟨fd_first_of, F_first_of⟩ := c.def_ 3 (d := dFirstOf) rfl
  obtain ⟨fd_things_of, F_things_of⟩ := c.def_ 4 (d := dThingsOf) rfl
  obtain ⟨fd_comes_ahead, F_comes_ahead⟩ := c.def_ 5 (d := dComesAhead) rfl
  obtain ⟨fd_has_room, F_has_room⟩ := c.def_ 6 (d := dHasRoom) rfl
  obtain ⟨fd_hand_fits, F_hand_fits⟩ := c.def_ 7 (d := dHandFits) rfl
  obtain ⟨fd_leads, F_leads⟩ := c.def_ 8 (d := dLeads) rfl
  obtain ⟨fd_fits_two, F_fits_two⟩ := c.def_ 9 (d := dFitsTwo) rfl
  obtain ⟨fd_hole_fits, F_hole_fits⟩ := c.def_ 10 (d := dHoleFits) rfl
  obtain ⟨fd_fits_one, F_fits_one⟩ := c.def_ 11 (d := dFitsOne) rfl
  obtain ⟨fd_in_order, F_in_order⟩ := c.def_ 12 (d := dInOrder) rfl
  obtain ⟨fd_entries_of, F_entries_of⟩ := c.def_ 13 (d := dEntriesOf) rfl
  obtain ⟨fd_is_entry, F_is_entry⟩ := c.def_ 14 (d := dIsEntry) rfl
  obtain ⟨fd_right_order, F_right_order⟩ := c.def_ 15 (d := dRightOrder) rfl
  obtain ⟨fd_order_paper, F_order_paper⟩ := c.def_ 16 (d := dOrderPaper) rfl
  obtain ⟨fd_law_draws, F_law_draws⟩ := c.def_ 17 (d := dLawDraws) rfl
  obtain ⟨fd_law_next, F_law_next⟩ := c.def_ 18 (d := dLawNext) rfl
  obtain ⟨fd_law_number, F_law_number⟩ := c.def_ 19 (d := dLawNumber) rfl
  obtain ⟨fd_law_in_cells, F_law_in_cells⟩ := c.def_ 20 (d := dLawInCells) rfl
  obtain ⟨fd_law_three, F_law_three⟩ := c.def_ 21 (d := dLawThree) rfl
  obtain ⟨fd_law_two_moved, F_law_two_moved⟩ := c.def_ 22 (d := dLawTwoMoved) rfl
  obtain ⟨fd_law_one_moved, F_law_one_moved⟩ := c.def_ 23 (d := dLawOneMoved) rfl
  obtain ⟨fd_law_too_soon, F_law_too_soon⟩ := c.def_ 24 (d := dLawTooSoon) rfl
  obtain ⟨fd_law_taken, F_law_taken⟩ := c.def_ 25 (d := dLawTaken) rfl
  obtain ⟨fd_law_beat, F_law_beat⟩ := c.def_ 26 (d := dLawBeat) rfl
  obtain ⟨fd_law_empty, F_law_empty⟩ := c.def_ 27 (d := dLawEmpty) rfl
  obtain ⟨fd_law_least_beyond, F_law_least_beyond⟩ := c.def_ 28 (d := dLawLeastBeyond) rfl
  obtain ⟨fd_law_leads, F_law_leads⟩ := c.def_ 29 (d := dLawLeads) rfl
  obtain ⟨fd_law_in_order, F_law_in_order⟩ := c.def_ 30 (d := dLawInOrder) rfl
  obtain ⟨fd_law_one_cell, F_law_one_cell⟩ := c.def_ 31 (d := dLawOneCell) rfl
  obtain ⟨fd_law_tickets, F_law_tickets⟩ := c.def_ 32 (d := dLawTickets) rfl
  obtain ⟨fd_law_made_things, F_law_made_things⟩ := c.def_ 33 (d := dLawMadeThings) rfl
  obtain ⟨fd_law_made_two, F_law_made_two⟩ := c.def_ 34 (d := dLawMadeTwo) rfl
  obtain ⟨fd_law_made_one, F_law_made_one⟩ := c.def_ 35 (d := dLawMadeOne) rfl
  obtain ⟨fd_law_made_stand, F_law_made_stand⟩ := c.def_ 36 (d := dLawMadeStand) rfl
  obtain ⟨fd_law_laid, F_law_laid⟩ := c.def_ 37 (d := dLawLaid) rfl
  obtain ⟨fd_law_strewn, F_law_strewn⟩ := c.def_ 38 (d := dLawStrewn) rfl
  obtain ⟨fd_law_bent, F_law_bent⟩ := c.def_ 39 (d := dLawBent) rfl
  obtain ⟨fd_law_entries, F_law_entries⟩ := c.def_ 40 (d := dLawEntries) rfl
  obtain ⟨fd_law_asked, F_law_asked⟩ := c.def_ 41 (d := dLawAsked) rfl
  obtain ⟨fd_law_come_to, F_law_come_to⟩ := c.def_ 42 (d := dLawComeTo) rfl
  obtain ⟨fd_law_like, F_law_like⟩ := c.def_ 43 (d := dLawLike) rfl
  obtain ⟨fd_law_paper_of, F_law_paper_of⟩ := c.def_ 44 (d := dLawPaperOf) rfl
  obtain ⟨fd_law_all_stands, F_law_all_stands⟩ := c.def_ 45 (d := dLawAllStands) rfl
  obtain ⟨fd_law_seen, F_law_seen⟩ := c.def_ 46 (d := dLawSeen) rfl
  obtain ⟨fd_law_truth, F_law_truth⟩ := c.def_ 47 (d := dLawTruth) rfl
  obtain ⟨fd_law, F_law⟩ := c.def_ 48 (d := dLaw) rfl
  have e := hfa.symm.trans (He.glo_ok X G (c.fact 48 (f := .glo "law") rfl))
  cases e
  have b := FunD.bindsA (ps := ["_law_script"]) F_law fun _ _ _ _ _ _ us hl => match us, hl with | [_], _ => rfl
  refine ⟨fd_law, fun s v => b s [v] rfl, fun base _ _ => ?_⟩
  have C_law_in_cells : Cal P w K mg base 1 "_law_in_cells" ["_law_cells"] sp_law_in_cells := c_law_in_cells F_law_in_cells (He.glo_ok X G (c.fact 20 (f := .glo "_law_in_cells") rfl)) T
  have C_law_least_beyond : Cal P w K mg base 2 "_law_least_beyond" ["_law_cells", "_law_place"] sp_law_least_beyond := c_law_least_beyond F_law_least_beyond (He.glo_ok X G (c.fact 28 (f := .glo "_law_least_beyond") rfl)) T C_law_in_cells
  have C_law_entries : Cal P w K mg base 3 "_law_entries" ["_law_cells"] sp_law_entries := c_law_entries F_law_entries (He.glo_ok X G (c.fact 40 (f := .glo "_law_entries") rfl)) T C_law_in_cells C_law_least_beyond
  have C_comes_before : Cal P w K mg base 1 "comes_before" ["one", "other"] sp_comes_before := c_comes_before F_comes_before (He.glo_ok X G (c.fact 2 (f := .glo "comes_before") rfl)) T
  have C_first_of : Cal P w K mg base 2 "first_of" ["things"] sp_first_of := c_first_of F_first_of (He.glo_ok X G (c.fact 3 (f := .glo "first_of") rfl)) T C_comes_before
  have C_comes_ahead : Cal P w K mg base 3 "comes_ahead" ["keep", "others"] sp_comes_ahead := c_comes_ahead F_comes_ahead (He.glo_ok X G (c.fact 5 (f := .glo "comes_ahead") rfl)) T C_comes_before C_first_of
  have C_hand_fits : Cal P w K mg base 2 "hand_fits" ["cell"] sp_hand_fits := c_hand_fits F_hand_fits (He.glo_ok X G (c.fact 7 (f := .glo "hand_fits") rfl)) T C_comes_before
  have C_things_of : Cal P w K mg base 1 "things_of" ["cells"] sp_things_of := c_things_of F_things_of (He.glo_ok X G (c.fact 4 (f := .glo "things_of") rfl)) T
  have C_hole_fits : Cal P w K mg base 2 "hole_fits" ["cells", "place"] sp_hole_fits := c_hole_fits F_hole_fits (He.glo_ok X G (c.fact 10 (f := .glo "hole_fits") rfl)) T C_things_of
  have C_fits_one : Cal P w K mg base 4 "fits_one" ["cells", "turn", "place"] sp_fits_one := c_fits_one F_fits_one (He.glo_ok X G (c.fact 11 (f := .glo "fits_one") rfl)) T C_comes_ahead C_hand_fits C_hole_fits C_things_of
  have C_leads : Cal P w K mg base 4 "leads" ["cells", "place"] sp_leads := c_leads F_leads (He.glo_ok X G (c.fact 8 (f := .glo "leads") rfl)) T C_things_of C_comes_ahead
  have C_fits_two : Cal P w K mg base 5 "fits_two" ["cells", "turn", "place"] sp_fits_two := c_fits_two F_fits_two (He.glo_ok X G (c.fact 9 (f := .glo "fits_two") rfl)) T C_hand_fits C_leads
  have C_has_room : Cal P w K mg base 2 "has_room" ["cells", "place"] sp_has_room := c_has_room F_has_room (He.glo_ok X G (c.fact 6 (f := .glo "has_room") rfl)) T C_things_of
  have C_in_order : Cal P w K mg base 6 "in_order" ["stand"] sp_in_order := c_in_order F_in_order (He.glo_ok X G (c.fact 12 (f := .glo "in_order") rfl)) T C_fits_one C_fits_two C_has_room
  have C_entries_of : Cal P w K mg base 3 "entries_of" ["cells"] sp_entries_of := c_entries_of F_entries_of (He.glo_ok X G (c.fact 13 (f := .glo "entries_of") rfl)) T C_first_of
  have C_is_number : Cal P w K mg base 1 "is_number" ["thing", "most"] sp_is_number := c_is_number F_is_number (He.glo_ok X G (c.fact 0 (f := .glo "is_number") rfl)) T
  have C_is_thing : Cal P w K mg base 2 "is_thing" ["thing"] sp_is_thing := c_is_thing F_is_thing (He.glo_ok X G (c.fact 1 (f := .glo "is_thing") rfl)) T C_is_number
  have C_is_entry : Cal P w K mg base 3 "is_entry" ["thing"] sp_is_entry := c_is_entry F_is_entry (He.glo_ok X G (c.fact 14 (f := .glo "is_entry") rfl)) T C_is_thing
  have C_right_order : Cal P w K mg base 7 "right_order" ["stand", "thing"] sp_right_order := c_right_order F_right_order (He.glo_ok X G (c.fact 15 (f := .glo "right_order") rfl)) T C_in_order C_entries_of C_is_entry
  have C_law_truth : Cal P w K mg base 1 "_law_truth" ["_law_told", "_law_due"] sp_law_truth := c_law_truth F_law_truth (He.glo_ok X G (c.fact 47 (f := .glo "_law_truth") rfl)) T
  have C_law_seen : Cal P w K mg base 1 "_law_seen" ["_law_stand", "_law_paper"] sp_law_seen := c_law_seen F_law_seen (He.glo_ok X G (c.fact 46 (f := .glo "_law_seen") rfl)) T
  have C_law_like : Cal P w K mg base 5 "_law_like" ["_law_one", "_law_other"] (sp_law_like 4) := c_law_like F_law_like (He.glo_ok X G (c.fact 43 (f := .glo "_law_like") rfl)) T 4
  have C_law_leads : Cal P w K mg base 3 "_law_leads" ["_law_cells", "_law_place"] sp_law_leads := c_law_leads F_law_leads (He.glo_ok X G (c.fact 29 (f := .glo "_law_leads") rfl)) T C_law_least_beyond
  have C_law_one_cell : Cal P w K mg base 4 "_law_one_cell" ["_law_stand", "_law_place"] sp_law_one_cell := c_law_one_cell F_law_one_cell (He.glo_ok X G (c.fact 31 (f := .glo "_law_one_cell") rfl)) T C_law_leads C_law_in_cells
  have C_law_in_order : Cal P w K mg base 5 "_law_in_order" ["_law_stand"] sp_law_in_order := c_law_in_order F_law_in_order (He.glo_ok X G (c.fact 30 (f := .glo "_law_in_order") rfl)) T C_law_one_cell C_law_leads C_law_in_cells
  have GP : FnOk P w K mg base (L2.CX P w) 7 _ fd_order_paper ["stand"] (spPaper (He.ga K "NotFit")) := ok_order_paper F_order_paper T N C_in_order C_entries_of
  have C_law_paper_of : Cal P w K mg base 8 "_law_paper_of" ["_law_stand"] sp_law_paper_of := c_law_paper_of F_law_paper_of (He.glo_ok X G (c.fact 44 (f := .glo "_law_paper_of") rfl)) T N F_order_paper (He.glo_ok X G (c.fact 16 (f := .glo "order_paper") rfl)) GP
  have C_law_too_soon : Cal P w K mg base 1 "_law_too_soon" ["_law_stand", "_law_ask"] sp_law_too_soon := c_law_too_soon F_law_too_soon (He.glo_ok X G (c.fact 24 (f := .glo "_law_too_soon") rfl)) T
  have C_law_next : Cal P w K mg base 1 "_law_next" ["_law_drawn"] sp_law_next := c_law_next F_law_next (He.glo_ok X G (c.fact 18 (f := .glo "_law_next") rfl)) T
  have C_law_number : Cal P w K mg base 2 "_law_number" ["_law_drawn", "_law_sort"] sp_law_number := c_law_number F_law_number (He.glo_ok X G (c.fact 19 (f := .glo "_law_number") rfl)) T C_law_next
  have C_law_asked : Cal P w K mg base 3 "_law_asked" ["_law_drawn", "_law_stand", "_law_numbers"] sp_law_asked := c_law_asked F_law_asked (He.glo_ok X G (c.fact 41 (f := .glo "_law_asked") rfl)) T C_law_too_soon C_law_number C_law_next
  have C_law_three : Cal P w K mg base 1 "_law_three" ["_law_things", "_law_many"] sp_law_three := c_law_three F_law_three (He.glo_ok X G (c.fact 21 (f := .glo "_law_three") rfl)) T
  have C_law_two_moved : Cal P w K mg base 2 "_law_two_moved" ["_law_cells", "_law_turn", "_law_fallen"] sp_law_two_moved := c_law_two_moved F_law_two_moved (He.glo_ok X G (c.fact 22 (f := .glo "_law_two_moved") rfl)) T C_law_three
  have C_law_one_moved : Cal P w K mg base 2 "_law_one_moved" ["_law_cells", "_law_hand", "_law_fallen"] sp_law_one_moved := c_law_one_moved F_law_one_moved (He.glo_ok X G (c.fact 23 (f := .glo "_law_one_moved") rfl)) T C_law_three
  have C_law_taken : Cal P w K mg base 2 "_law_taken" ["_law_stand"] sp_law_taken := c_law_taken F_law_taken (He.glo_ok X G (c.fact 25 (f := .glo "_law_taken") rfl)) T C_law_in_cells
  have C_law_beat : Cal P w K mg base 3 "_law_beat" ["_law_stand", "_law_ask"] sp_law_beat := c_law_beat F_law_beat (He.glo_ok X G (c.fact 26 (f := .glo "_law_beat") rfl)) T C_law_two_moved C_law_one_moved C_law_in_cells C_law_taken
  have C_law_empty : Cal P w K mg base 1 "_law_empty" ["_law_kind", "_law_many"] sp_law_empty := c_law_empty F_law_empty (He.glo_ok X G (c.fact 27 (f := .glo "_law_empty") rfl)) T
  have C_law_come_to : Cal P w K mg base 4 "_law_come_to" ["_law_drawn", "_law_kind", "_law_many", "_law_beats"] sp_law_come_to := c_law_come_to F_law_come_to (He.glo_ok X G (c.fact 42 (f := .glo "_law_come_to") rfl)) T C_law_asked C_law_beat C_law_empty C_law_next
  have C_law_laid : Cal P w K mg base 1 "_law_laid" ["_law_kind", "_law_turn", "_law_came", "_law_places"] sp_law_laid := c_law_laid F_law_laid (He.glo_ok X G (c.fact 37 (f := .glo "_law_laid") rfl)) T
  have C_law_bent : Cal P w K mg base 3 "_law_bent" ["_law_drawn", "_law_stand"] sp_law_bent := c_law_bent F_law_bent (He.glo_ok X G (c.fact 39 (f := .glo "_law_bent") rfl)) T C_law_laid C_law_next C_law_number
  have C_law_tickets : Cal P w K mg base 2 "_law_tickets" ["_law_drawn", "_law_many"] sp_law_tickets := c_law_tickets F_law_tickets (He.glo_ok X G (c.fact 32 (f := .glo "_law_tickets") rfl)) T C_law_next
  have C_law_made_things : Cal P w K mg base 3 "_law_made_things" ["_law_drawn", "_law_many"] sp_law_made_things := c_law_made_things F_law_made_things (He.glo_ok X G (c.fact 33 (f := .glo "_law_made_things") rfl)) T C_law_number C_law_tickets C_law_next
  have C_law_strewn : Cal P w K mg base 4 "_law_strewn" ["_law_drawn", "_law_kind", "_law_many"] sp_law_strewn := c_law_strewn F_law_strewn (He.glo_ok X G (c.fact 38 (f := .glo "_law_strewn") rfl)) T C_law_laid C_law_next C_law_made_things
  have C_law_made_one : Cal P w K mg base 2 "_law_made_one" ["_law_drawn", "_law_left", "_law_turn", "_law_cells", "_law_many"] sp_law_made_one := c_law_made_one F_law_made_one (He.glo_ok X G (c.fact 35 (f := .glo "_law_made_one") rfl)) T C_law_next
  have C_law_made_two : Cal P w K mg base 2 "_law_made_two" ["_law_drawn", "_law_left", "_law_turn", "_law_place", "_law_many"] sp_law_made_two := c_law_made_two F_law_made_two (He.glo_ok X G (c.fact 34 (f := .glo "_law_made_two") rfl)) T C_law_next
  have C_law_made_stand : Cal P w K mg base 4 "_law_made_stand" ["_law_drawn", "_law_kind", "_law_many"] sp_law_made_stand := c_law_made_stand F_law_made_stand (He.glo_ok X G (c.fact 36 (f := .glo "_law_made_stand") rfl)) T C_law_made_one C_law_made_two C_law_made_things C_law_next
  have C_law_all_stands : Cal P w K mg base 5 "_law_all_stands" ["_law_drawn"] sp_law_all_stands := c_law_all_stands F_law_all_stands (He.glo_ok X G (c.fact 45 (f := .glo "_law_all_stands") rfl)) T C_law_come_to C_law_bent C_law_strewn C_law_made_stand C_law_empty C_law_next
  exact ok_law F_law T F_law_draws (He.glo_ok X G (c.fact 17 (f := .glo "_law_draws") rfl)) C_law_entries C_right_order C_law_truth C_law_seen C_law_like C_in_order C_law_in_order C_law_paper_of C_law_all_stands
end LS
set_option Elab.async false
set_option linter.all false
set_option maxRecDepth 100000
set_option maxHeartbeats 0
open PySem PySem.W PySem.Calls PyProof.Rows
theorem PySem.Challenge.cw_leastatend_k37_whole_order_and_papers_holds : PySem.Challenge.rw_leastatend_k37_whole_order_and_papers.Holds := by
  w_on; o_law
  refine HandSHeadRun.head_any (r := OpenLaw.row PySem.Challenge.rw_leastatend_k37_whole_order_and_papers) (q := view (OpenLaw.row PySem.Challenge.rw_leastatend_k37_whole_order_and_papers).prog [57]) (H := LE.hk) (ob := LE.ob) (M := 4000) (loose := LE.looseL) (d := HandSHeadRun.topDef (OpenLaw.row PySem.Challenge.rw_leastatend_k37_whole_order_and_papers).prog 57) (kwd := []) LE.ob_eq
    (by kernel_rfl) (fun s => by kernel_rfl) LE.run (by kernel_rfl) (by kernel_rfl) (by kernel_rfl) (by rfl) (by first | assumption | decide +kernel) (by decide +kernel) ⟨rfl, rfl, rfl, rfl, rfl, by decide +kernel⟩ ?hw ?hc
  case hw => w_witness2
  case hc =>
    refine L2.walk_ofE (l := PySem.Challenge.rw_leastatend_k37_whole_order_and_papers) (n := 63) (k := 9) (x := "_law_script") (CX := L2.CX0) rfl (by decide) (by kernel_rfl) ⟨rfl, by decide, by decide⟩ ?F (fun _ _ _ _ z => z)
    intro w mg fa h Y G hmg0
    obtain ⟨K, KX, c⟩ := Y
    have hmg : mg ("law" : PySem.Str) = some (.ref fa) := by
      have e : (HandSHeadRun.topDef (OpenLaw.row PySem.Challenge.rw_leastatend_k37_whole_order_and_papers).prog 57).name = ("law" : PySem.Str) := by kernel_rfl
      rw [← e]
      exact hmg0
    obtain ⟨fd, hb, hF⟩ := LS.facts (P := (PySem.Challenge.rw_leastatend_k37_whole_order_and_papers).prog) (w := w) KX G hmg c
    exact ⟨K, fd, LS.spLaw K, KX, hb, fun H a ns hl _ hS => ⟨a, ns, rfl, hS, fun _ => rfl⟩, hF⟩
